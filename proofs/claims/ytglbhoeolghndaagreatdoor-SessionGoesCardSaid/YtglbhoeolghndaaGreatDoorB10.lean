/- Part 10 of the texts of this claim, one behind the other. -/
import Derived.Test.YtglbhoeolghndaaGreatDoorB9
set_option linter.unusedVariables false
set_option linter.unusedSimpArgs false
set_option maxRecDepth 100000
open Go.Proofs.Tryz
noncomputable section
namespace Go.Proofs.YtglbhoeolghndaaGreatDoor
open Go.Px
theorem C5q(q:LN){m:Nat}(h:min 16 q.length=m):H5 q m=q.take 16∧q.drop m=q.drop 16∧(q.take 16).length=m:=by
  refine ⟨?_,?_,by rw [Bj];exact h⟩
  . unfold H5;rw [show m-q.length=0 by omega,List.replicate_zero,List.append_nil];by_cases h1:16<=q.length
    . rw [show m=16 by omega]
    . rw [show m=q.length by omega,List.take_length,Aw qO]
  . by_cases h1:16<=q.length
    . rw [show m=16 by omega]
    . rw [show m=q.length by omega,List.drop_length,Bv qO]
set_option maxHeartbeats 1000000 in
theorem C3U(v vp:Value)(kw p:LN)(A:Mem)(hk:By A v kw)(hp:By A vp p):FnX prog 161 [v,vp] [] A λq M J=>M=[]∧By J q (C1z (H5 kw 32) p):=by
 haveI:=hk.cel;haveI:=hp.cel;refine Cl (N:=80) func161 E E E λw_=>?_;refine A8 (D0 0 1) (A1 (as_ (A0 (D0 0 1) (A1 (mv_ ?_)))));refine C6 (aS E (aS E a0)) kR (A44 v kw 32 _ (hk.mono qS) qD) E ?_;rintro v16 M16 J16 ⟨rfl,h16⟩;haveI:=h16.cel;have hkl:=L7 kw 32;generalize H5 kw 32=K at *;have hfl:=L7 K 16;have hflt:=A3j h16.lt 16;refine as_ (A0 (D0 0 1) (A1 (mv_ ?_)));refine C6 (aS E (aS E a0)) kR (C3T v16 K 16 _ (h16.mono qS) qD) E ?_;rintro v18 M18 J18 ⟨b18,rfl,rfl,rfl⟩;refine as_ (A0 (D6 0 1 5) (A3 (A1 ?_)));refine A2 E (C4 (e:=3) (sz:=1) (z:=[P0,P0,P0,P0]) kR (eS E (eS E (eS E (eS E e0)))) (bdS 0 1 E qR (bdS 1 1 E qR (bdS 2 1 E qR (bdS 3 1 E qR bd0)))) E λb19=>?_);refine lQ_ (A1c (e:=3) E kR) (mv_ (A0 (G7 0 1 5 19 20 21) (A7 ?_)));refine A0a (B:=[(b19,blk [.int .i64 3,.int .i64 7,.int .i64 11,.int .i64 15] 3)]) qP ?_;refine E5 (α:=Nat) (λi=>[(0,v16),(1,vp),(5,.slice (some ⟨b18,0,none⟩) 16 16),(19,.slice (some ⟨b19,0,none⟩) 4 4),(20,.int .i64 4),(21,(vI i))]) (λi=>[(b18,blk (nums .u8 (clA (H5 K 16) i)) 5)]) (λ_=>_) (λi=>i<=4) (λi=>4-i) 0 (Am _) (G7 0 1 5 19 20 21) (Ce E) qI ?_;rintro i hi
 try dsimp only at hi ⊢
 have hal:=B4W (H5 K 16) i;have halt:=B4Y hflt i;refine A1 (lQ_ (E8 E E E) (A0 (N9 0 1 5 19 20 21 22) (A3 ?_)));refine C3 E ?_ ?_<;>intro hc
 .
  have hlt:i<4:=by simp at hc;omega
  refine A6 (nx (G7 0 1 5 19 20 21) (A3 (A7 (A1 ?_))));refine lQ_ (L8 (e:=3) (i:=i) (sz:=1) E E kR kR E hlt) ?_;refine lQ_ (I0 (v:=.int .i64 ((4*i+3:Nat):Int)) rfl kR Cc (by rcases (by omega:i=0∨i=1∨i=2∨i=3) with rfl|rfl|rfl|rfl<;>rfl)) ?_;refine as_ (A0 (N9 0 1 5 7 19 20 21) (C1 (mv_ (mv_ ?_))));refine lQ_ (L8 (e:=5) (i:=4*i+3) (sz:=1) E E kR kR E qO) ?_;refine lQ_ (I3 (4*i+3) E kR Cc qO qO) ?_;refine lQ_ (A5g (b:=15) E E E (by show _<256;exact A1j halt _) qD) ?_;refine lQ_ (L8 (e:=5) (i:=4*i+3) (sz:=1) E E kR kR E qO) ?_;refine A2 E (K6 (4*i+3) E E kR qO qO Cs ?_);refine C5 (nb (nx (G7 0 1 5 19 20 21) (C1 ?_)));refine lQ_ (D5 ((i+1:Nat):Int) E E (F7 qO qO qO)) ?_;refine mv_ (C5 ?_);exact rn (i+1) qO qO (G7 0 1 5 19 20 21) (Ce E) qI
 .
  obtain rfl:i=4:=by simp at hc;omega
  refine D8 (te (re (be E (nx (D6 0 1 5) (A3 (A1 ?_))))));refine A2 E (C4 (e:=3) (sz:=1) (z:=[P0,P0,P0]) kR (eS E (eS E (eS E e0))) (bdS 0 1 E qR (bdS 1 1 E qR (bdS 2 1 E qR bd0))) E λb32=>?_);refine lQ_ (A1c (e:=3) E kR) (mv_ (A0 (G7 0 1 5 32 33 34) (A7 ?_)));refine A0a (B:=[(b32,blk [.int .i64 4,.int .i64 8,.int .i64 12] 3)]) qP ?_;refine E5 (α:=Nat) (λi=>[(0,v16),(1,vp),(5,.slice (some ⟨b18,0,none⟩) 16 16),(32,.slice (some ⟨b32,0,none⟩) 3 3),(33,.int .i64 3),(34,(vI i))]) (λi=>[(b18,blk (nums .u8 (clB (clA (H5 K 16) 4) i)) 5)]) (λ_=>_) (λi=>i<=3) (λi=>3-i) 0 (Am _) (G7 0 1 5 32 33 34) (Ce E) qI ?_;rintro i hi2
  try dsimp only at hi2 ⊢
  have hbl:=B4X (clA (H5 K 16) 4) i;have hblt:=B4Z halt i;refine A1 (lQ_ (E8 E E E) (A0 (N9 0 1 5 32 33 34 35) (A3 ?_)));refine C3 E ?_ ?_<;>intro hc
  .
   have hlt:i<3:=by simp at hc;omega
   refine A6 (nx (G7 0 1 5 32 33 34) (A3 (A7 (A1 ?_))));refine lQ_ (L8 (e:=3) (i:=i) (sz:=1) E E kR kR E hlt) ?_;refine lQ_ (I0 (v:=.int .i64 ((4*i+4:Nat):Int)) rfl kR Cc (by rcases (by omega:i=0∨i=1∨i=2) with rfl|rfl|rfl<;>rfl)) ?_;refine as_ (A0 (N9 0 1 5 9 32 33 34) (C1 (mv_ (mv_ ?_))));refine lQ_ (L8 (e:=5) (i:=4*i+4) (sz:=1) E E kR kR E qO) ?_;refine lQ_ (I3 (4*i+4) E kR Cc qO qO) ?_;refine lQ_ (A5g (b:=252) E E E (by show _<256;exact A1j hblt _) qD) ?_;refine lQ_ (L8 (e:=5) (i:=4*i+4) (sz:=1) E E kR kR E qO) ?_;refine A2 E (K6 (4*i+4) E E kR qO qO Cs ?_);refine C5 (nb (nx (G7 0 1 5 32 33 34) (C1 ?_)));refine lQ_ (D5 ((i+1:Nat):Int) E E (F7 qO qO qO)) ?_;refine mv_ (C5 ?_);exact rn (i+1) qO qO (G7 0 1 5 32 33 34) (Ce E) qI
  .
   obtain rfl:i=3:=by simp at hc;omega
   refine D8 (te (re (be E (nx (D6 0 1 5) ?_))));refine A0a (B:=[(b18,blk (nums .u8 (clB (clA (H5 K 16) 4) 3)) 5)]) qP ?_;unfold C1z
   obtain ⟨R,hRe⟩:∃z,clB (clA (H5 K 16) 4) 3=z:=⟨_,E⟩
   rw [hRe] at hbl hblt ⊢;have hRl:R.length=16:=by omega
   have hrB:By [(b18,blk (nums .u8 R) 5)] (.slice (some ⟨b18,0,none⟩) 16 16) R:=⟨by rw [hRl];exact Co (n:=16) qK (by simp [nums,hRl]),hblt,by omega⟩
   refine A1 (mv_ ?_);refine E6 (aS E a0) kR (B4S (.slice (some ⟨b18,0,none⟩) 16 16) R _ (hrB.mono qS) qO) E ?_;refine A2 E (C2 (cs:=[C0,C0,C0,C0,C0]) kR E λb10=>?_);refine A2 E (A5 (vs:=nums .u64 (ptN R)) E E E (by rw [nums_len,(A29 R).len];kernel_rfl) (by rw [nums_len,(A29 R).len];rfl) E9 Cs ?_);refine A0 (D6 0 1 10) (A1 ?_);refine A2 E (C2 (cs:=[C0,C0,C0,C0,C0]) kR E λb11=>?_);refine A0 (D7 0 1 10 11) (A3 (A7 ?_));refine E5 (α:=Value×LN×LN) (λy=>[(0,v16),(1,y.1),(10,(vP b10)),(11,(vP b11))]) (λy=>[(b11,blk (nums .u64 y.2.2) 188),(b10,blk (nums .u64 (ptN R)) 188)]) (λ_=>_) (λy=>By A y.1 y.2.1∧L5 y.2.2∧tgN (ptN R) y.2.1.length y.2.2 y.2.1=tgN (ptN R) p.length [0,0,0,0,0] p) (λy=>y.2.1.length) (vp,p,[0,0,0,0,0]) ⟨hp,L5.z,E⟩ (D7 0 1 10 11) (Ce E) qI ?_;rintro ⟨u,q,l⟩ ⟨hq,hl5,hT⟩;dsimp only at hq hl5 hT ⊢;haveI:=hq.cel;refine A3 (A1 (mv_ ?_));refine lQ_ (G2 (sz:=1) E kR hq.rd) ?_;refine lQ_ (E8 E E E) (A0 (F2 0 1 10 11 49) ?_);refine C3 E ?_ ?_<;>intro hc
   .
    have h0:¬q.length=0:=by simp at hc;omega
    have hql:=hq.len
    obtain ⟨m,hm⟩:∃m,min 16 q.length=m:=⟨_,E⟩
    obtain ⟨hfm,hdr,htl⟩:=C5q q hm
    obtain ⟨Q,hQe⟩:∃z,q.take 16++[1]=z:=⟨_,E⟩
    have hQl:m+1=Q.length:=by rw [<- hQe,An,htl];rfl
    have hQt:∀x∈Q,x<256:=λx hx=>by rw [<- hQe] at hx;rcases List.mem_append.1 hx with h|h;exact hq.lt x (Bw h);rw [List.mem_singleton.1 h];decide
    refine A6 (nx (D7 0 1 10 11) (A7 (A1 (mv_ ?_))));refine lQ_ (G2 (sz:=1) E kR hq.rd) ?_;refine lQ_ (A5q ((m:Nat):Int) E E (by split<;>omega)) ?_;refine as_ (A0 (F2 0 1 10 11 12) (A3 (A1 (mv_ (mv_ ?_)))));refine C6 (aS E (aS E a0)) kR (B9j u q m _ (hq.mono qS) qO) E ?_;rintro v55 M55 J55 hs55;haveI:=hs55.cel;refine A2 E (C4 (e:=5) (sz:=1) (z:=[zu8]) kR (eS E e0) (bdS 0 1 E qR bd0) E λb56=>?_);refine A2 E (H4 (e:=5) (sz:=1) (by_:=1) E E kR E hs55 (Co (n:=1) (cs:=nums .u8 [1]) Cc qR) E9 qP (by unfold maxLen;omega) qO E λv57 B57 hs57=>?_);haveI:=hs57.cel
    have hby:By B57 v57 Q:=⟨A0C (hs57.rd λ_ h=>h) (by rw [hQl]) (by rw [hfm,<- H6,hQe]),hQt,by omega⟩
    refine E6 (aS E a0) kR (B4S v57 Q _ (hby.mono qS) qO) E ?_;refine mv_ (A0 (N9 0 1 10 11 12 58 59) (A7 ?_));refine E5 (α:=Nat) (λk=>[(0,v16),(1,u),(10,(vP b10)),(11,(vP b11)),(12,(vI m)),(58,.agg (nums .u64 (ptN Q)).toArray),(59,(vI k))]) (λk=>[(b11,blk (nums .u64 (adS l (ptN Q) k)) 188),(b10,blk (nums .u64 (ptN R)) 188)]) (λ_=>_) (λk=>k<=5) (λk=>5-k) 0 (Am _) (N9 0 1 10 11 12 58 59) (Ch (B:=[(b11,blk (nums .u64 l) 188)]) qP (Ch (B:=[(b10,blk (nums .u64 (ptN R)) 188)]) qP qZ)) qI ?_;rintro k hk5
    try dsimp only at hk5 ⊢
    have hok:=B9k hl5 (ptN Q) k;refine A1 (lQ_ (E8 E E E) (A0 (W6 0 1 10 11 12 58 59 60) (A3 ?_)));refine C3 E ?_ ?_<;>intro hc
    .
     have hlt:k<5:=by simp at hc;omega
     refine A6 (nx (N9 0 1 10 11 12 58 59) (A3 (A7 (A1 (mv_ ?_)))));refine lQ_ (A58 (m:=5) (e:=130) (j:=k) (cs:=nums .u64 (ptN Q)) (u:=(vW ((ptN Q).getD k 0))) E E kR kR kR E qO (V9 (by rw [(A29 Q).len];omega))) ?_;refine as_ (as_ (A0 (A0q 0 1 10 11 12 13 14 58 59) (C1 (mv_ ?_))));refine lQ_ (D2 (e:=130) (n:=5) (sz:=1) (i:=k) (k) E E kR kR E qO qO) ?_;refine lQ_ (I3 (k) E kR Cc E (by rw [hok.len];omega)) ?_;refine mV_ E (lQ_ (G8 18446744073709551616 E E E E E E) ?_);refine lQ_ (D2 (e:=130) (n:=5) (sz:=1) (i:=k) (k) E E kR kR E qO qO) ?_;refine A2 E (K6 (k) E E kR E (by rw [hok.len];omega) Cs ?_);refine C5 (nb (nx (N9 0 1 10 11 12 58 59) (C1 ?_)));refine lQ_ (D5 ((k+1:Nat):Int) E E (F7 qO qO qO)) ?_;refine mv_ (C5 ?_);exact rn (k+1) hlt qO (N9 0 1 10 11 12 58 59) (Ce E) qI
    .
     obtain rfl:k=5:=by simp at hc;omega
     refine D8 (te (re (be E (nx (F2 0 1 10 11 12) (A1 ?_)))));refine lQ_ (H1 (n:=5) (cs:=nums .u64 (adS l (ptN Q) 5)) E kR Cc (by rw [nums_len];exact hok.len)) ?_;refine lQ_ (H1 (n:=5) (cs:=nums .u64 (ptN R)) E kR Cc (by rw [nums_len];exact (A29 R).len)) ?_;refine E6 (aS E (aS E a0)) kR (C1y (adS l (ptN Q) 5) (ptN R) _ hok (A29 R)) E ?_;refine A2 E (A5 (vs:=nums .u64 (A5m (adS l (ptN Q) 5) (ptN R))) E E E (by rw [nums_len,(A1X _ _).len];kernel_rfl) (by rw [nums_len,nums_len,(A1X _ _).len,hok.len]) E9 Cs ?_);refine A0 (F2 0 1 10 11 12) (C1 (mv_ (mv_ ?_)));refine lQ_ (A16 (sz:=1) (a:=m) E E kR E hq.rd qO) ?_;have h75:=hq.lo m qO;haveI:=h75.cel;have hst:=B75 (ptN R) l q h0;have hS:=A1X (adS l (ptN Q) 5) (ptN R);rw [hQe,<- hdr] at hst;generalize A5m (adS l (ptN Q) 5) (ptN R)=S at *;have hst2:=hst.symm.trans hT;refine as_ (C5 (nb ?_));exact rn (vLo m 1 u,q.drop m,S) ⟨h75,hS,hst2⟩ (by dsimp only;rw [Bg];omega) (D7 0 1 10 11) (Ce E) (λ_ h=>Ai _ h)
   .
    have h0:q.length=0:=by have h:=of_decide_eq_false hc;omega
    rw [C1A _ _ _ h0] at hT;rw [<- hT];refine D8 (te (re (be E (nx (D0 0 11) ?_))));refine C8 [0,1,2,3,4] (zp 0 [1,0,0,2,0]) kR kR λhs=>?_;refine fR_ E (H1 (n:=5) (cs:=nums .u64 l) E kR Cc (by rw [nums_len];exact hl5.len)) ?_;refine fm_ ?_;refine fQ_ E (A16 (sz:=1) (a:=16) E E kR E h16.rd qO) ?_;have h78:=h16.lo 16 qO;haveI:=h78.cel;refine G5 E (aS E (aS E a0)) kR (C5p l (K.drop 16) _ _ hl5 (h78.mono qS) (by rw [Bg];omega)) E ?_;rintro v79 M79 J79 ⟨rfl,h79⟩;haveI:=h79.cel;refine fA_ E E (E0 (D4 4) (A9 ?_));exact ⟨_,[],[],H8 E E,qZ,E,h79.mono qS⟩

theorem B44(w:LN):H5 w w.length=w:=by unfold H5;rw [List.take_length,Nat.sub_self];simp
def mcN(wa o:LN):LN:=B1j (B1j wa++o)
def nlO(wa o:LN)(i:Nat):Nat:=if i=0 then wa.length else o.length
def mcO(wa o:LN):Nat->LN
  | 0=>mcN wa o
  | i+1=>mcO wa o i++A9I (nlO wa o i)
def A89(K N wa o:LN):LN:=C1z (H5 ((C2m K 0 N).take 32) 32) (mcO wa o 2)
def T3(K N wa p:LN):LN:=A63 K 1 N p++A89 K N wa (A63 K 1 N p)
def A0b(K N wa g:LN):Option (LN):=if g.length<16 then none else if A89 K N wa (g.take (g.length-16))=g.drop (g.length-16) then some (A63 K 1 N (g.take (g.length-16))) else none
theorem A47(K N wa o:LN):(A89 K N wa o).length=16:=B74 _ _
theorem A0L(K N wa p:LN):A0b K N wa (T3 K N wa p)=some p:=by
  have h1:=A0j K 1 N p;have h2:=A47 K N wa (A63 K 1 N p);have h3:(T3 K N wa p).length-16=(A63 K 1 N p).length:=by unfold T3;rw [An];omega
  have h4:¬(T3 K N wa p).length<16:=by unfold T3;rw [An];omega
  have h5:(T3 K N wa p).take (A63 K 1 N p).length=A63 K 1 N p:=by unfold T3;rw [List.take_left]
  have h6:(T3 K N wa p).drop (A63 K 1 N p).length=A89 K N wa (A63 K 1 N p):=by unfold T3;rw [List.drop_left]
  unfold A0b;rw [if_neg h4,h3,h5,h6,if_pos E,B1i]
theorem A9a(p:LN):(B1j p).length<=p.length+16:=by rw [B0h];omega
theorem C1B(wa o:LN):(mcN wa o).length<=wa.length+o.length+32:=by have h1:=A9a (B1j wa++o);have h2:=A9a wa;rw [An] at h1;unfold mcN;omega
theorem B0i(n:Nat):(A9I n).length=8:=by simp [A9I]
theorem B46(wa o:LN):∀i,(mcO wa o i).length=(mcN wa o).length+8*i
  | 0=>rfl
  | i+1=>by show (mcO wa o i++A9I _).length=_;rw [An,B46 wa o i,B0i];omega
theorem B5a{p:LN}(h:∀x∈p,x<256):∀x∈B1j p,x<256:=λx hx=>by
  rcases List.mem_append.1 hx with h1|h1
  . exact h x h1
  . rw [(List.mem_replicate.1 h1).2];decide
theorem B9l{wa o:LN}(hw:∀x∈wa,x<256)(ho:∀x∈o,x<256):∀i,∀x∈mcO wa o i,x<256
  | 0=>B5a λx hx=>(List.mem_append.1 hx).elim (B5a hw x) (ho x)
  | i+1=>λx hx=>(List.mem_append.1 hx).elim (B9l hw ho i x) (B2C _ x)
variable{w:LN}
theorem _root_.Go.Px.By.hi{R:Mem}{v:Value}(h:By R v w)(k:Nat)(hk:k<=w.length):By R (vHi k v) (w.take k):=by refine ⟨?_,λx hx=>h.lt x (Bw hx),by rw [Bj];have:=h.len;omega⟩;have h1:=h.rd.hiV k hk;rw [Bj,Nat.min_eq_left hk];simpa [nums] using h1
theorem B9m(v vn v2 v3:Value)(kw nw wa o:LN)(A:Mem)(hk:By A v kw)(hno:By A vn nw)(hw:By A v2 wa)(ho:By A v3 o)(hl:wa.length+o.length<=16000000):FnX prog 126 [v,vn,v2,v3] [] A λq M J=>M=[]∧By J q (A89 (H5 kw 32) (H5 nw 12) wa o):=by
 haveI:=hk.cel;haveI:=hno.cel;haveI:=hw.cel;haveI:=ho.cel;refine Cl (N:=51) func126 E E E λw_=>?_;refine A8 (D7 0 1 2 3) (A1 (as_ (A0 (D7 0 1 2 3) (A1 (mv_ (mv_ ?_))))));refine lQ_ (G2 (sz:=1) E kR hw.rd) ?_;refine C6 (aS E (aS E a0)) kR (B9j v2 wa wa.length _ (hw.mono qS) qO) E ?_;rintro v16 M16 J16 hs16;haveI:=hs16.cel;rw [B44] at hs16;refine A2 E (C9 (Mc:=M16) (R:=_) (aS E a0) kR qP (C3S v16 wa M16 _ hs16 qO) E ?_);rintro v17 M17 J17 hs17;haveI:=hs17.cel;have hp1:=A9a wa;refine as_ (A0 (F2 0 1 2 3 9) (A1 (mv_ (mv_ ?_))));refine A2 E (H4 (e:=5) (sz:=1) (by_:=1) E E kR E hs17 (ho.rd.mono qS) E9 qP (by unfold maxLen;omega) qO E λv20 B20 hs20=>?_);haveI:=hs20.cel;replace hs20:Sl 1 v20 (B1j wa++o).length (nums .u8 (B1j wa++o)) B20:=W8 hs20 (by rw [An]) (by rw [H6]);have hml:(mcN wa o).length<=_:=C1B wa o;refine A2 E (C9 (Mc:=B20) (R:=_) (aS E a0) kR qP (C3S v20 (B1j wa++o) B20 _ hs20 (by rw [An];omega)) E ?_);rintro v21 M21 J21 hs21;haveI:=hs21.cel;change Sl 1 v21 (mcO wa o 0).length (nums .u8 (mcO wa o 0)) M21 at hs21;refine as_ (A0 (F2 0 1 2 3 9) (A3 (A1 (mv_ ?_))));refine lQ_ (G2 (sz:=1) E kR hw.rd) ?_;refine mv_ ?_;refine lQ_ (G2 (sz:=1) E kR ho.rd) ?_;refine A2 E (C4 (e:=3) (sz:=1) (z:=[P0,P0]) kR (eS E (eS E e0)) (bdS 0 1 E qR (bdS 1 1 E qR bd0)) E λb26=>?_);refine lQ_ (A1c (e:=3) E kR) (mv_ (A0 (G7 0 1 9 26 27 28) (A7 ?_)));refine A0a (B:=[(b26,blk [(vI wa.length),(vI o.length)] 3)]) qP ?_;refine E5 (α:=Nat×Value×Mem) (λy=>[(0,v),(1,vn),(9,y.2.1),(26,.slice (some ⟨b26,0,none⟩) 2 2),(27,.int .i64 2),(28,(vI y.1))]) (λy=>y.2.2) (λ_=>_) (λy=>y.1<=2∧Sl 1 y.2.1 (mcO wa o y.1).length (nums .u8 (mcO wa o y.1)) y.2.2) (λy=>2-y.1) (0,v21,M21) ⟨Am _,hs21⟩ (G7 0 1 9 26 27 28) (Ce qM) qI ?_;rintro ⟨i,u,B⟩ ⟨hi,hsl⟩;dsimp only at hi hsl ⊢;haveI:=hsl.cel;have hil:=B46 wa o i;refine A1 (lQ_ (E8 E E E) (A0 (N9 0 1 9 26 27 28 29) (A3 ?_)));refine C3 E ?_ ?_<;>intro hc
 .
  have hlt:i<2:=by simp at hc;omega
  have hnl:nlO wa o i<=16000000:=by unfold nlO;split<;>omega
  refine A6 (nx (G7 0 1 9 26 27 28) (A3 (A7 (A1 ?_))));refine lQ_ (L8 (e:=3) (i:=i) (sz:=1) E E kR kR E hlt) ?_;refine lQ_ (I0 (v:=(vI (nlO wa o i))) rfl kR Cc (by rcases (by omega:i=0∨i=1) with rfl|rfl<;>rfl)) ?_;refine as_ (A0 (N9 0 1 9 11 26 27 28) (A1 (mv_ (A0 (W6 0 1 9 11 26 27 28 32) (A7 ?_)))))
  obtain ⟨n,hne⟩:∃z,nlO wa o i=z:=⟨_,E⟩
  rw [hne] at hnl ⊢
  obtain ⟨q,hqe⟩:∃z,mcO wa o i=z:=⟨_,E⟩
  rw [hqe] at hil hsl;refine E5 (α:=Nat×Value×Mem) (λy=>[(0,v),(1,vn),(9,y.2.1),(11,(vI n)),(26,.slice (some ⟨b26,0,none⟩) 2 2),(27,.int .i64 2),(28,(vI i)),(32,(vI y.1))]) (λy=>y.2.2) (λ_=>_) (λy=>y.1<=8∧Sl 1 y.2.1 (q.length+y.1) (nums .u8 (q++(List.range y.1).map (byt ((n:Nat):Int)))) y.2.2) (λy=>8-y.1) (0,u,B) ⟨Am _,W8 hsl E qM⟩ (W6 0 1 9 11 26 27 28 32) .rfl qI ?_;rintro ⟨k,u2,B2⟩ ⟨hk8,hsl2⟩;dsimp only at hk8 hsl2 ⊢;haveI:=hsl2.cel;refine A1 (lQ_ (E8 E E E) (A0 (A0q 0 1 9 11 26 27 28 32 33) (A3 ?_)));refine C3 E ?_ ?_<;>intro hc
  .
   have hlt2:k<8:=by simp at hc;omega
   refine A6 (nx (W6 0 1 9 11 26 27 28 32) (A3 (A7 (A1 (mV_ E (aS_ E (A0 (A0q 0 1 9 11 12 26 27 28 32) (C1 (mv_ (mv_ (mv_ ?_)))))))))));refine lQ_ (A1g (a:=8) E E E E qO) ?_;refine lQ_ (B2v (k:=k) E E E hlt2) ?_;refine lQ_ (B2w E kR) ?_;refine A2 E (C4 (e:=5) (sz:=1) (z:=[zu8]) kR (eS E e0) (bdS 0 1 E qR bd0) E λb41=>?_);refine A2 E (H4 (e:=5) (sz:=1) (by_:=1) E E kR E hsl2 (Co (n:=1) (cs:=nums .u8 [byt ((n:Nat):Int) k]) Cc qR) E9 qP (by unfold maxLen;omega) qO E λv42 B42 hs42=>?_);haveI:=hs42.cel;refine as_ (C5 (nb (nx (W6 0 1 9 11 26 27 28 32) (C1 ?_))));refine lQ_ (D5 ((k+1:Nat):Int) E E (F7 qO qO qO)) ?_;refine mv_ (C5 ?_);exact rn (k+1,v42,B42) ⟨by dsimp only;omega,W8 hs42 (by dsimp only;omega) (by dsimp only;rw [List.range_succ,List.map_append,<- Ap,H6 (ws:=q++List.map (byt ((n:Nat):Int)) (List.range k))];rfl)⟩ (by dsimp only;omega) (W6 0 1 9 11 26 27 28 32) (Ci (Ay _ _)) qI
  .
   obtain rfl:k=8:=by simp at hc;omega
   refine D8 (te (re (be E (nb (nx (G7 0 1 9 26 27 28) (C1 ?_))))));refine lQ_ (D5 ((i+1:Nat):Int) E E (F7 qO qO qO)) ?_;refine mv_ (C5 ?_);exact rn (i+1,u2,B2) ⟨by dsimp only;omega,by have e:mcO wa o (i+1)=q++A9I n:=(by rw [<- hqe,<- hne];rfl);dsimp only;rw [e];exact W8 hsl2 (by rw [An,B0i]) E⟩ (by dsimp only;omega) (G7 0 1 9 26 27 28) .rfl qI
 .
  obtain rfl:i=2:=by simp at hc;omega
  refine D8 (te (re (be E (nx (D6 0 1 9) (A1 (mv_ (mv_ ?_)))))));refine C6 (aS E (aS E (aS E a0))) kR (B4P v vn kw nw 0 _ (hk.mono qS) (hno.mono qS) qD) E ?_;rintro v47 M47 J47 ⟨rfl,h47⟩;haveI:=h47.cel;have hbl:(C2m (H5 kw 32) 0 (H5 nw 12)).length=64:=A45 _ _ _;have h48:=h47.hi 32 qO;haveI:=h48.cel;refine lQ_ (A4r (sz:=1) (a:=32) E E kR E h47.rd qO) ?_;refine mv_ ?_;refine A4w (B:=B) qP ?_
  have hby:By B u (mcO wa o 2):=⟨hsl.rd λ_ h=>h,B9l hw.lt ho.lt 2,by omega⟩
  refine C6 (aS E (aS E a0)) kR (C3U (vHi 32 v47) u ((C2m (H5 kw 32) 0 (H5 nw 12)).take 32) (mcO wa o 2) _ (h48.mono qS) (hby.mono qS)) E ?_;rintro v50 M50 J50 ⟨rfl,h50⟩;haveI:=h50.cel;refine as_ (A0 (D4 8) (A9 ?_));exact ⟨_,[],[],H8 E E,qZ,E,h50.mono qS⟩
theorem C1C(v vn v2 v3:Value)(kw nw wa o:LN)(A:Mem)(hk:By A v kw)(hno:By A vn nw)(hw:By A v2 wa)(ho:By A v3 o)(hl:wa.length+o.length<=16000000):FnX prog 85 [v,vn,v2,v3] [] A λq M J=>M=[]∧By J q (T3 (H5 kw 32) (H5 nw 12) wa o):=by haveI:=hk.cel;haveI:=hno.cel;haveI:=hw.cel;haveI:=ho.cel;refine Cl (N:=21) func85 E E E λw_=>?_;refine A8 (D7 0 1 2 3) (A1 (as_ (A0 (D7 0 1 2 3) (A1 (mv_ (mv_ (mv_ ?_)))))));refine C6 (aS E (aS E (aS E (aS E a0)))) kR (B0f v vn v3 kw nw o 1 _ (hk.mono qS) (hno.mono qS) (ho.mono qS) qD) E ?_;rintro v13 M13 J13 ⟨b13,rfl,rfl,h13⟩;have hsl:=A0j (H5 kw 32) 1 (H5 nw 12) o;refine as_ (A0 (D7 0 1 2 9) (A1 (mv_ (mv_ (mv_ (mv_ (mv_ ?_)))))));refine C6 (aS E (aS E (aS E (aS E a0)))) kR (B9m v vn v2 _ kw nw wa (A63 (H5 kw 32) 1 (H5 nw 12) o) _ (hk.mono qS) (hno.mono qS) (hw.mono qS) (h13.mono qS) qO) E ?_;rintro v19 M19 J19 ⟨rfl,h19⟩;haveI:=h19.cel;have htl:=A47 (H5 kw 32) (H5 nw 12) wa (A63 (H5 kw 32) 1 (H5 nw 12) o);refine A2 E (A2U (e:=5) (sz:=1) (by_:=1) E E kR E (A0C (h13.rd.mono qS) hsl E) (h19.rd.mono qS) qO (by unfold maxLen;omega) qO E λv20 B20 hs20=>?_);haveI:=hs20.cel;refine as_ (A0 (D4 8) (A9 ?_));exact ⟨_,[],B20,H8 E E,Ch qP qZ,E,⟨A0C (hs20.rd λx hx=>by simp [hx]) (by unfold T3;rw [An,hsl]) (by unfold T3;rw [H6]),λx hx=>(List.mem_append.1 hx).elim (h13.lt x) (h19.lt x),by unfold T3;rw [An];omega⟩⟩
theorem C1D(v vn v2 v3:Value)(kw nw wa o:LN)(A:Mem)(hk:By A v kw)(hno:By A vn nw)(hw:By A v2 wa)(ho:By A v3 o)(h16:o.length<16):FnX prog 95 [v,vn,v2,v3] [] A λq M J=>M=[]∧∃u,q=.tuple #[u,.bool (A0b (H5 kw 32) (H5 nw 12) wa o).isSome]∧By J u ((A0b (H5 kw 32) (H5 nw 12) wa o).getD []):=by
 haveI:=hk.cel;haveI:=hno.cel;haveI:=hw.cel;haveI:=ho.cel;refine Cl (N:=37) func95 E E E λw_=>?_;refine A8 (D7 0 1 2 3) (A1 (as_ (as_ (A0 (D7 0 1 2 3) (A1 (mv_ ?_))))));refine lQ_ (G2 (sz:=1) E kR ho.rd) ?_;refine lQ_ (D5 (((o.length:Nat):Int)-16) E E (W7 qO qO qO)) ?_;refine as_ (A0 (F2 0 1 2 3 10) (A3 ?_));refine C8 (.range 17) [(0,0),(1,0),(2,0),(3,0),(4,0),(5,0),(6,0),(7,0),(8,0),(11,0),(12,0),(13,0),(14,1),(9,2),(10,1),(15,0),(16,0)] kR kR λhs=>?_;refine fm_ ?_;refine fQ_ E (F5 true E E (ltT qO)) ?_;refine fm_ ?_;refine K9 hs ?_;refine K9 hs ?_;refine K9 hs ?_;refine K9 hs ?_;refine K9 hs ?_;refine K9 hs ?_;refine K9 hs ?_;refine K9 hs ?_;refine K9 hs ?_;refine W1 hs ?_;refine A7s hs E E E E E E ?_;refine W1 hs ?_;refine K9 hs ?_;refine fQ_ E (G4 E E) (E0 (F2 0 1 3 10 30) ?_);refine D9 E ?_;refine A1 (as_ (as_ (A0 (D0 8 9) (A9 (tr ?_)))));refine ⟨_,[],[],A1Z E E E,qZ,E,vS,?_,?_⟩
 . unfold A0b;rw [if_pos h16];rfl
 . unfold A0b;rw [if_pos h16];exact By.nil
theorem C1E(v vn v2 v3:Value)(kw nw wa o:LN)(A:Mem)(hk:By A v kw)(hno:By A vn nw)(hw:By A v2 wa)(ho:By A v3 o)(hl:wa.length+o.length<=16000000)(h16:¬o.length<16):FnX prog 95 [v,vn,v2,v3] [] A λq M J=>M=[]∧∃u,q=.tuple #[u,.bool (A0b (H5 kw 32) (H5 nw 12) wa o).isSome]∧By J u ((A0b (H5 kw 32) (H5 nw 12) wa o).getD []):=by
 haveI:=hk.cel;haveI:=hno.cel;haveI:=hw.cel;haveI:=ho.cel;refine Cl (N:=37) func95 E E E λw_=>?_;refine A8 (D7 0 1 2 3) (A1 (as_ (as_ (A0 (D7 0 1 2 3) (A1 (mv_ ?_))))));refine lQ_ (G2 (sz:=1) E kR ho.rd) ?_;refine lQ_ (D5 ((o.length-16:Nat):Int) E E (W7 qO qO qO)) ?_;have hhi:=ho.hi (o.length-16) qO;have hlo:=ho.lo (o.length-16) qO;haveI:=hhi.cel;haveI:=hlo.cel;refine as_ (A0 (F2 0 1 2 3 10) (A3 ?_));refine C8 (.range 17) [(0,0),(1,0),(2,0),(3,0),(4,0),(5,0),(6,0),(7,0),(8,0),(11,0),(12,0),(13,0),(14,1),(9,2),(10,1),(15,0),(16,0)] kR kR λhs=>?_;refine fm_ ?_;refine fQ_ E (F5 false E E (ltF qO)) ?_;refine fM_ E E (fG_ E qm_ (fG_ E qm_ (fG_ E qm_ (fG_ E qm_ (fG_ E qm_ ?_)))));refine fG_ E (A4r (sz:=1) (a:=o.length-16) E E kR E ho.rd qO) ?_;refine fG_ E qm_ (fG_ E qm_ ?_);refine fG_ E (A16 (sz:=1) (a:=o.length-16) E E kR E ho.rd qO) ?_;refine fH_ E (L3 E kR (hlo.rd.mono qS)) ?_;refine A2J E E E E (aS E (aS E (aS E (aS E a0)))) kR (B9m v vn v2 (vHi (o.length-16) v3) kw nw wa (o.take (o.length-16)) _ (hk.mono qS) (hno.mono qS) (hw.mono qS) (hhi.mono qS) (by rw [Bj];omega)) E ?_;rintro v23 M23 J23 ⟨rfl,h23⟩;haveI:=h23.cel;refine fH_ E (L3 E kR (h23.rd.mono qS)) (fG_ E (A8G E E E E h23.lt hlo.lt) (fQ_ E (E3 E E) (E0 (F2 0 1 3 10 30) ?_)));refine C3 E ?_ ?_<;>intro hc
 .
  have hne:¬A89 (H5 kw 32) (H5 nw 12) wa (o.take (o.length-16))=o.drop (o.length-16):=by simpa using hc
  have he:A0b (H5 kw 32) (H5 nw 12) wa o=none:=by unfold A0b;rw [if_neg h16,if_neg hne]
  refine A1 (as_ (as_ (A0 (D0 8 9) (A9 (tr ?_)))));exact ⟨_,[],[],A1Z E E E,qZ,E,vS,by rw [he];rfl,by rw [he];exact By.nil⟩
 .
  have heq:A89 (H5 kw 32) (H5 nw 12) wa (o.take (o.length-16))=o.drop (o.length-16):=by simpa using hc
  have he:A0b (H5 kw 32) (H5 nw 12) wa o=some (A63 (H5 kw 32) 1 (H5 nw 12) (o.take (o.length-16))):=by unfold A0b;rw [if_neg h16,if_pos heq]
  refine A6 (nx (D7 0 1 3 10) (A1 (mv_ (mv_ (mv_ (mv_ ?_))))));refine lQ_ (A4r (sz:=1) (a:=o.length-16) E E kR E ho.rd qO) ?_;refine C6 (aS E (aS E (aS E (aS E a0)))) kR (B71 v vn (vHi (o.length-16) v3) kw nw (o.take (o.length-16)) 1 _ (hk.mono qS) (hno.mono qS) (hhi.mono qS) qD) E ?_;rintro v36 M36 J36 ⟨rfl,h36⟩;haveI:=h36.cel;refine as_ (as_ (A0 (D0 8 9) (A9 ?_)));exact ⟨_,[],[],A1Z E E E,qZ,E,v36,by rw [he];rfl,by rw [he];exact h36.mono qS⟩
theorem C1F(v vn v2 v3:Value)(kw nw wa o:LN)(A:Mem)(hk:By A v kw)(hno:By A vn nw)(hw:By A v2 wa)(ho:By A v3 o)(hl:wa.length+o.length<=16000000):FnX prog 95 [v,vn,v2,v3] [] A λq M J=>M=[]∧∃u,q=.tuple #[u,.bool (A0b (H5 kw 32) (H5 nw 12) wa o).isSome]∧By J u ((A0b (H5 kw 32) (H5 nw 12) wa o).getD []):=by
  by_cases h:o.length<16
  . exact C1D v vn v2 v3 kw nw wa o A hk hno hw ho h
  . exact C1E v vn v2 v3 kw nw wa o A hk hno hw ho hl h

def n12:LN:=List.replicate 12 0
theorem B5c(w:LN):H5 (H5 w 32) 32=H5 w 32:=A6O (L7 w 32)
variable{a b:LN}
theorem B0j{x y:LN}(ha:a.length<18446744073709551616)(hb:b.length<18446744073709551616)(h:mark a++x=mark b++y):a=b∧x=y:=by
  unfold mark at h;rw [Ap,Ap] at h;obtain ⟨h1,h2⟩:=A6h (A0v (.inr E)) (A0v (.inr E)) (show dec a.length++58::(a++x)=dec b.length++58::(b++y) from h)
  have h3:a.length=b.length:=by have:=congrArg dv h1;rwa [A1w ha,A1w hb] at this
  exact List.append_inj h2 h3
theorem B5d{x:Int}(h:Tmo (A3C x a b)):a.length<18446744073709551616∧b.length<18446744073709551616:=by
  have h1:(mark a++mark b).length<=1099511627776:=h.tl;rw [An] at h1;have h2:a.length<=(mark a).length:=by simp [mark];omega
  have h3:b.length<=(mark b).length:=by simp [mark];omega
  omega
theorem B0k{x y:Int}{c d:LN}(h1:Tmo (A3C x a b))(h2:Tmo (A3C y c d))(h:A3C x a b=A3C y c d):x=y∧a=c∧b=d:=by
  obtain ⟨l1,l2⟩:=B5d h1;obtain ⟨l3,l4⟩:=B5d h2;unfold A3C at h;injection h with h1 h2 h3 h4
  obtain ⟨h5,h6⟩:=B0j l1 l3 h3;obtain ⟨h7,-⟩:=B0j (x:=[]) (y:=[]) l2 l4 (by rw [List.append_nil,List.append_nil];exact h6);exact ⟨(List.cons.inj h2).1,h5,h7⟩
def A9b(ts:List Tm)(w wa wg t:LN):Prop:=wg.length=32∧∃i j:Nat,plc wg ts.length=some i∧plc w ts.length=some j∧ts[i]? = some (A3C ((j:Nat):Int) wa t)
theorem A9b.inj{ts:List Tm}(ht:Tok ts){w wa wg t t':LN}(h:A9b ts w wa wg t)(h':A9b ts w wa wg t'):t=t':=by obtain ⟨-,i,j,h1,h2,h3⟩:=h;obtain ⟨-,i',j',g1,g2,g3⟩:=h';rw [h1] at g1;obtain rfl:=Ca g1;rw [h3] at g3;have m1:=ht.tmo _ (As h3);have e:=Ca g3;exact (B0k m1 (e▸m1) e).2.2
open Classical in
def B5e(ts:List Tm)(w wa wg:LN):Option (LN):=if h:∃t,A9b ts w wa wg t then some (Classical.choose h) else none
variable{ts:List Tm}{wa:LN}
theorem A48(ht:Tok ts){wg t:LN}(h:A9b ts w wa wg t):B5e ts w wa wg=some t:=by
  unfold B5e
  have h2:∃t,A9b ts w wa wg t:=⟨t,h⟩
  rw [dif_pos h2,(Classical.choose_spec h2).inj ht h]
theorem A3b{wg:LN}(h:∀t,¬A9b ts w wa wg t):B5e ts w wa wg=none:=dif_neg λ⟨t,ht⟩=>h t ht
def A3c(s:Ps)(w wa wg:LN):Option (LN):=if s.real then A0b (H5 w 32) n12 wa wg else B5e s.ts w wa wg
variable{s:Ps}
theorem A5X(h:s.real=true)(w wa wg:LN):A3c s w wa wg=A0b (H5 w 32) n12 wa wg:=if_pos h
theorem A3G(h:s.real=false)(w wa wg:LN):A3c s w wa wg=B5e s.ts w wa wg:=if_neg (by rw [h];decide)
def B1t(s:Ps)(w wa wb:LN):Ps:=if s.real then s else B5P s w λx=>A3C x wa wb
def C1G(s:Ps)(w wa wb:LN):LN:=if s.real then T3 (H5 w 32) n12 wa wb else B6M s w λx=>A3C x wa wb
theorem B9n(h:s.real=true)(w wa wb:LN):B1t s w wa wb=s:=if_pos h
theorem B9o(h:s.real=false)(w wa wb:LN):B1t s w wa wb=B5P s w λx=>A3C x wa wb:=if_neg (by rw [h];decide)
theorem B0l(h:s.real=true)(w wa wb:LN):C1G s w wa wb=T3 (H5 w 32) n12 wa wb:=if_pos h
theorem B9p(h:s.real=false)(w wa wb:LN):C1G s w wa wb=B6M s w λx=>A3C x wa wb:=if_neg (by rw [h];decide)
def W5(ts:List Tm):Prop:=∀t∈ts,t.kind=6->∃x a b,t=A3C x a b∧(∀y∈b,y<256)∧b.length<=16777216
theorem W5.nil:W5 []:=λt h=>by cases h
theorem W5.add{ts:List Tm}(h:W5 ts){t:Tm}(ht:t.kind=6->∃x a b,t=A3C x a b∧(∀y∈b,y<256)∧b.length<=16777216):W5 (add ts t):=by
  unfold Go.Proofs.YtglbhoeolghndaaGreatDoor.add;split
  . exact h
  . intro u hu hk;rcases List.mem_append.1 hu with hu|hu
    . exact h u hu hk
    . rw [List.mem_singleton.1 hu] at hk ⊢;exact ht hk
theorem W5.not(h:W5 ts){t:Tm}(ht:t.kind≠6):W5 (Go.Proofs.YtglbhoeolghndaaGreatDoor.add ts t):=h.add λhk=>absurd hk ht
theorem W5.rd(h:W5 ts)(w:LN):W5 (rdT ts w):=by
  unfold rdT;split
  . exact h
  . exact h.not (show (2:Nat)≠6 by decide)
theorem C1H{s':Ps}{wb:LN}(ht:Tok s.ts)(hw:Kok s w)(ha:∀x∈wa,x<256)(hb:∀x∈wb,x<256)(la:wa.length<=16777216)(lb:wb.length<=16777216)(he:Pext (B1t s w wa wb) s')(ht':Tok s'.ts)(hl:s'.ts.length<=1048576):A3c s' w wa (C1G s w wa wb)=some wb:=by
  cases hr:s.real with
  | true =>
    rw [B9n hr] at he;rw [A5X (he.real.trans hr),B0l hr,A0L]
  | false =>
    rw [B9o hr] at he;have hr':s'.real=false:=he.real.trans hr;obtain ⟨l,e⟩:=he.ts;obtain ⟨i,hi,rfl⟩:=hw hr
    have hlen:s.ts.length<=1048576:=by
      have hge:∃l,add (rdT s.ts (bts ((i:Nat):Int))) (A3C ((rdI s.ts (bts ((i:Nat):Int)):Nat):Int) wa wb)=rdT s.ts (bts ((i:Nat):Int))++l:=A6M _ _;obtain ⟨lx,hge⟩:=hge;have:=congrArg List.length hge;rw [An] at this;have h2:=B2H (ts:=s.ts) (w:=bts ((i:Nat):Int));have h3:s'.ts.length=(add (rdT s.ts (bts ((i:Nat):Int))) (A3C ((rdI s.ts (bts ((i:Nat):Int)):Nat):Int) wa wb)).length+l.length:=by rw [e,An];rfl
      omega
    obtain ⟨a1,a2⟩:=A4C hi hlen;rw [A3G hr',B9p hr];unfold B5P at e;unfold B6M;dsimp only at e;rw [a1,a2] at e ⊢;obtain ⟨l0,g1,g2,g3,g4⟩:=A4A (B2N (x:=((i:Nat):Int)) (by unfold i64;omega) ha hb la lb) ht;have g5:s'.ts[at_ s.ts (A3C ((i:Nat):Int) wa wb)]? = some (A3C ((i:Nat):Int) wa wb):=by rw [e];exact A4B g3
    have g6:=(Ac.1 g5).1;refine A48 ht' ⟨A0Q _ qD,_,i,?_,?_,g5⟩
    . rw [A2o,show ∀z:Nat,z<s'.ts.length->u64 ((z:Nat):Int)=z from λz hz=>by unfold u64;omega,if_pos g6];exact g6
    . have hi':i<s'.ts.length:=by rw [e,g1,An,An];omega
      rw [A2o,show u64 ((i:Nat):Int)=i by unfold u64;omega,if_pos hi']
set_option maxHeartbeats 1000000 in
theorem C1I(pb bt bm:Nat)(s:Ps)(hr:s.real=false)(v v2 v3:Value)(w wa wg:LN)(j:Nat)(MP A:Mem)(hP:PrmT pb bt bm s MP)(hMP:∀x,x∈MP->x∈A)(hn:s.ts.length<=1048576)(hSel:W5 s.ts)(hv:By A v w)(h2:By A v2 wa)(h3:By A v3 wg)(hj:plc w s.ts.length=some j)(hG:Glb A):FnX prog 65 [(vP pb),v,v2,v3] [] A λq M J=>M=[]∧∃u,q=.tuple #[u,.bool (A3c s w wa wg).isSome]∧By J u ((A3c s w wa wg).getD []):=by
 obtain ⟨sv,B,MT,rfl,hby,hT⟩:=hP.ex;have hmd:md s.real=1:=by rw [hr];rfl
 have hpb:=hMP _ qK;rw [hmd] at hpb;have hsub:∀x,x∈MT->x∈A:=λx hx=>hMP x (by simp [hx]);obtain ⟨⟨ge0,gf0,h0⟩,⟨ge1,gf1,h1⟩,⟨ge4,gf4,h4⟩⟩:=hG;haveI:=hv.cel;haveI:=h2.cel;haveI:=h3.cel;haveI:=hby.cel;have h2l:=h2.len;refine Cl (N:=96) func65 E E E λw_=>?_;refine A8 (D7 0 1 2 3) (A1 (aS_ E (aS_ E (A0 (D7 0 1 2 3) (A3 (A1 (mV_ E (lQ_ (F6 (e:=74) E E kR) (A0 (F2 0 1 2 3 17) ?_)))))))));refine C7 E ?_;refine A6 (nx (D7 0 1 2 3) (A3 (A1 (mV_ E (lQ_ (E1 E) (lQ_ (qf_ 0 0) ?_))))));refine lQ_ (I0 E kR (mA hpb) qR) ?_;refine lQ_ (F5 false E E (eqF qD)) ?_;refine A0 (F2 0 1 2 3 22) ?_;refine C7 E ?_;refine A6 (nx (D7 0 1 2 3) (A1 (mV_ E (lQ_ (E1 E) (lQ_ (qf_ 3 3) ?_)))));refine lQ_ (I0 E kR (mA hpb) qR) ?_;refine mv_ ?_;refine E6 (aS E (aS E a0)) kR (A0W bt bm s.ts v3 wg MT _ hT (λx hx=>qS _ (hsub x hx)) hn (h3.rd.mono qS) h3.lt h3.max) E ?_
 obtain ⟨i,hie⟩:∃z,(plc wg s.ts.length).getD 0=z:=⟨_,E⟩
 rw [hie];refine mV_ E (lQ_ (Z9 E) (lQ_ (Z5 E) (aS_ E (aS_ E (A0 (G7 0 1 2 3 10 11) (A1 (mV_ E (lQ_ (E1 E) (lQ_ (qf_ 3 3) ?_)))))))));refine lQ_ (I0 E kR (mA hpb) qR) ?_;refine mv_ ?_;refine C6 (aS E (aS E a0)) kR (A2R bt bm s.ts _ MT _ hT (λx hx=>qS _ (hsub x hx))) E ?_;rintro v46 M46 J46 ⟨rfl,rfl,c46,ok46,rfl,hg1,hg2⟩;obtain ⟨vo,t,rfl,hvo,hz,htk,hok,hno⟩:=A2S hT.tok.tmo hg1 hg2;haveI:=hvo.cel;refine mV_ E (lQ_ (Z9 E) (lQ_ (Z5 E) ?_));refine A2 E (C2 (cs:=[zu8,vS,.string ByteArray.empty,P0]) kR E λb12=>?_);refine A2 E (A5 (vs:=tmc t.kind vo t.text t.n) E E E kR qR (by intro c hc;simp only [tmc,Cv,Cw,or_false] at hc;rcases hc with rfl|rfl|rfl|rfl<;>first|rfl|exact hvo.one) Cs ?_);dsimp only [tmc];refine as_ (A0 (G7 0 1 2 3 11 12) (A3 ?_));refine F8 ([]) (_) true (.range 22) (zp 0 [0,0,0,0,0,0,0,0,0,1,0,0,0,0,1,0,1,0,0,2,0,0]) kR kR qP λhs K n0 hKm hKs hKn=>?_;refine kM_ E E (kQ_ E (U2 E) (km_ ?_));refine A3W (t:=51) E (λhb=>?_) (λhb=>?_)
 .
  have hpn:plc wg s.ts.length=none:=by cases hq:plc wg s.ts.length with|none=>rfl|some z=>rw [hq] at hb;cases hb
  have hno_:A3c s w wa wg=none:=(A3G hr _ _ _).trans (A3b λt_ ⟨z0,z1,z2,z3,z4,z5⟩=>by rw [hpn] at z3;cases z3);refine A0s hs E E E E E E ?_;refine A0s hs E E E E E E ?_;refine A0s hs E E E E E E ?_;refine kQ_ E (G4 E E) (km_ ?_);refine A0s hs E E E E E E ?_;refine A6d hs E E E E E E ?_;refine A0s hs E E E E E E ?_;refine kQ_ E (G4 E E) (km_ ?_);refine A0s hs E E E E E E ?_;refine A6d hs E E E E E E ?_;refine A0s hs E E E E E E ?_;refine A6d hs E E E E E E ?_;refine A0s hs E E E E E E ?_;refine A0s hs E E E E E E ?_;refine B6m E E E E E E ?_;refine A0s hs E E E E E E ?_;refine kQ_ E (G4 E E) (I1 (D6 2 12 70) ?_);refine D9 E ?_;refine A1 (as_ (as_ (A0 (D0 8 9) (A9 (tr ?_)))));exact ⟨_,[],[],A1Z E E E,qZ,E,vS,by rw [hno_];rfl,by rw [hno_];exact By.nil⟩
 .
  have hi:plc wg s.ts.length=some i:=by cases hq:plc wg s.ts.length with|none=>rw [hq] at hb;cases hb|some z=>rw [hq] at hie;exact congrArg some hie
  have hil:=(A7J hi).1;have hok2:ok46=true:=(hg1 ⟨by omega,by omega⟩).1;obtain ⟨-,ht2⟩:=hok hok2;rw [Int.toNat_natCast] at ht2;refine A4p hs E E E E qm_ E ?_;refine A4p hs E E E E (G2 (sz:=1) E kR h3.rd) E ?_;refine A4p hs E E E E (E8 E E E) E ?_;refine kQ_ E (E3 E E) (km_ ?_);refine A3W (t:=56) E (λhb=>?_) (λhb=>?_)
  .
   have h32:wg.length≠32:=by intro e;rw [e] at hb;exact absurd hb qD
   have hno_:A3c s w wa wg=none:=(A3G hr _ _ _).trans (A3b λt_ ⟨z0,z1,z2,z3,z4,z5⟩=>h32 z0);refine A0s hs E E E E E E ?_;refine A6d hs E E E E E E ?_;refine A0s hs E E E E E E ?_;refine kQ_ E (G4 E E) (km_ ?_);refine A0s hs E E E E E E ?_;refine A6d hs E E E E E E ?_;refine A0s hs E E E E E E ?_;refine A6d hs E E E E E E ?_;refine A0s hs E E E E E E ?_;refine A0s hs E E E E E E ?_;refine B6m E E E E E E ?_;refine A0s hs E E E E E E ?_;refine kQ_ E (G4 E E) (I1 (D6 2 12 70) ?_);refine D9 E ?_;refine A1 (as_ (as_ (A0 (D0 8 9) (A9 (tr ?_)))));exact ⟨_,[],[],A1Z E E E,qZ,E,vS,by rw [hno_];rfl,by rw [hno_];exact By.nil⟩
  .
   have h32:wg.length=32:=by simp at hb;omega
   refine A4p hs E E E E (qf_ 0 0) E ?_;refine B6l hs E E E E (by first|exact λx hx=>by rw [Ap];exact Ai _ hx|exact qS) hKs ql_ E ?_;refine A4p hs E E E E (E8 E E E) E ?_;refine kQ_ E (E3 E E) (km_ ?_);refine A3W (t:=61) E (λhb=>?_) (λhb=>?_)
   .
    have hk6:t.kind≠6:=by intro e;rw [e] at hb;exact absurd hb qD
    have hno_:A3c s w wa wg=none:=(A3G hr _ _ _).trans (A3b λt_ ⟨z0,z1,z2,z3,z4,z5⟩=>by rw [hi] at z3;obtain rfl:=Ca z3;rw [ht2] at z5;rw [Ca z5] at hk6;exact hk6 E);refine A0s hs E E E E E E ?_;refine A6d hs E E E E E E ?_;refine A0s hs E E E E E E ?_;refine A6d hs E E E E E E ?_;refine A0s hs E E E E E E ?_;refine A0s hs E E E E E E ?_;refine B6m E E E E E E ?_;refine A0s hs E E E E E E ?_;refine kQ_ E (G4 E E) (I1 (D6 2 12 70) ?_);refine D9 E ?_;refine A1 (as_ (as_ (A0 (D0 8 9) (A9 (tr ?_)))));exact ⟨_,[],[],A1Z E E E,qZ,E,vS,by rw [hno_];rfl,by rw [hno_];exact By.nil⟩
   .
    have hk6:t.kind=6:=by simp at hb;omega
    obtain ⟨x,a,b,rfl,hb256,hbl⟩:=hSel t (As ht2) hk6;have hmt:=hT.tok.tmo _ (As ht2);have hmb:B256 (A1h [a,b]):=B4B a b▸hmt.text;have hml:(A1h [a,b]).length<=1099511627776:=B4B a b▸hmt.tl;replace hvo:Rd A 1 vo 1 (A13 [x]):=hvo;refine A4p hs E E E E (qf_ 1 1) E ?_;refine B6l hs E E E E (by first|exact λx hx=>by rw [Ap];exact Ai _ hx|exact qS) hKs ql_ E ?_;refine A4p hs E E E E (H2 (sz:=1) (a:=0) E E kR E hvo (show 0<1 by decide)) E ?_;refine B6l hs E E E E (by first|exact λx hx=>by rw [Ap];exact Ai _ hx|exact qS) hKs (Z4 (j:=0) (u:=.int .i64 x) (hvo.mono qS) E kR qR) E ?_;refine A4p hs E E E E qm_ E ?_;refine A4p hs E E E E qm_ E ?_
    refine C2z [] _ rfl rfl rfl rfl (Ah _) (λ_ h=>by cases h) λw0=>(R6 (aS rfl (aS rfl a0)) kR (B7S pb bt bm 1 _ sv s.ts v w j MT _ hT (λx hx=>qS _ (hsub x hx)) (qS _ hpb) hn (hv.mono qS) hj) rfl λ_=>?_)
    dsimp only [Ct,List.append_eq];refine A4p hs E E E E (E8 E E E) E ?_;refine kQ_ E (E3 E E) (I1 (D6 2 12 70) ?_);refine C3 E ?_ ?_<;>intro hc
    .
     have hxj:x≠((j:Nat):Int):=by intro e;rw [e] at hc;simp [I4] at hc
     have hno_:A3c s w wa wg=none:=(A3G hr _ _ _).trans (A3b λt_ ⟨z0,z1,z2,z3,z4,z5⟩=>by rw [hi] at z3;obtain rfl:=Ca z3;rw [hj] at z4;obtain rfl:=Ca z4;rw [ht2] at z5;exact hxj (List.cons.inj (Tm.mk.inj (Ca z5)).2.1).1);refine A1 (as_ (as_ (A0 (D0 8 9) (A9 (tr ?_)))));exact ⟨_,[],[],A1Z E E E,qZ,E,vS,by rw [hno_];rfl,by rw [hno_];exact By.nil⟩
    .
     obtain rfl:x=((j:Nat):Int):=by simp [I4] at hc;exact hc
     refine A6 (nx (D0 2 12) (A1 (lQ_ (qf_ 2 2) ?_)));refine lQ_ ql_ ?_;rw [show (A3C ((j:Nat):Int) a b).text=A1h [a,b] from B4B a b];refine C6 (aS E a0) kR (B0N [a,b] hmb hml _ (qS _ h4)) E ?_;rintro r74 M74 J74 ⟨rfl,v74,rfl,hsl⟩;haveI:=hsl.cel;refine mV_ E (lQ_ (Z9 E) (lQ_ (Z5 E) (as_ (as_ (A0 (D6 2 14 15) (A3 ?_))))));refine A0a (B:=M74) qP ?_;have hrd:=hsl.rd (R:=M74) λ_ h=>h;refine C8 (.range 15) (zp 0 [0,0,0,0,0,0,0,0,0,0,1,0,1,0,0]) kR kR λhs=>?_;refine fM_ E E (fQ_ E (F5 false E E (neF E)) (fM_ E E (fG_ E qm_ ?_)));refine fG_ E (G2 (sz:=1) E kR hrd) ?_;refine fG_ E (F5 false E E (neF E)) (fQ_ E (E3 E E) (fM_ E E (fG_ E qm_ ?_)));refine fG_ E (H2 (sz:=1) (a:=0) E E kR E hrd (show _<2 by decide)) ?_;refine fH_ E (Z4 (j:=0) (u:=.string (txt a)) (hrd.mono qS) E kR qR) ?_;refine fG_ E qm_ (fH_ E (L3 E kR (h2.rd.mono qS)) ?_);have ha256:∀y∈a,y<256:=λy hy=>hmb.lt y (by simp [A1h,mark,hy]);refine fG_ E (A8G E E E E ha256 h2.lt) (fQ_ E (E3 E E) (E0 (D0 14 91) ?_));refine C3 E ?_ ?_<;>intro hc
     .
      have hne:a≠wa:=by simpa using hc
      have hno_:A3c s w wa wg=none:=(A3G hr _ _ _).trans (A3b λt_ ⟨z0,z1,z2,z3,z4,z5⟩=>by rw [hi] at z3;obtain rfl:=Ca z3;rw [ht2] at z5;have e5:=Ca z5;exact hne (B0k hmt (e5▸hmt) e5).2.1);refine A1 (as_ (as_ (A0 (D0 8 9) (A9 (tr ?_)))));exact ⟨_,[],[],A1Z E E E,qZ,E,vS,by rw [hno_];rfl,by rw [hno_];exact By.nil⟩
     .
      obtain rfl:a=wa:=by simpa using hc
      have hye:A3c s w a wg=some b:=(A3G hr _ _ _).trans (A48 hT.tok ⟨h32,i,j,hi,hj,ht2⟩);refine A6 (nx (D4 14) (A1 (mv_ ?_)));refine lQ_ (H2 (sz:=1) (a:=1) E E kR E hrd (show _<2 by decide)) ?_;refine lQ_ (Z4 (j:=1) (u:=.string (txt b)) (hrd.mono qS) E kR qR) ?_;refine A2 E (A0V (e:=5) E E hb256 kR kR kR E λv95 B95 hs95=>?_);refine A4w (B:=B95) qP ?_;refine as_ (as_ (A0 (D0 8 9) (A9 ?_)));exact ⟨_,[],[],A1Z E E E,qZ,E,_,by rw [hye];rfl,by rw [hye];exact ⟨hs95.mono qS,hb256,hbl⟩⟩
theorem B5f(A:Mem):FnX prog 86 [] [] A λq M J=>M=[]∧By J q n12:=by refine Cl (N:=2) func86 E E E λw_=>?_;refine A8 kn (A1 (as_ (A0 kn (A1 ?_))));refine A2 E (B1X (a:=12) (e:=5) (k:=.u8) (by_:=1) E E kR E E qO qO E λv1 B1 hs1=>?_);refine as_ (A0 (D4 0) (A9 ?_));exact ⟨_,[],B1,H8 E E,Ch qP qZ,E,⟨hs1.rd λx hx=>by simp [hx],qD,qD⟩⟩
theorem C1J(pb:Nat)(s:Ps)(hr:s.real=true)(v v2 v3:Value)(w wa wb:LN)(MP A:Mem)(hP:Prm pb s MP)(hv:By A v w)(h2:By A v2 wa)(h3:By A v3 wb)(hl:wa.length+wb.length<=16000000):FnX prog 59 [(vP pb),v,v2,v3] MP A λq M J=>Prm pb s M∧By J q (T3 (H5 w 32) n12 wa wb):=by obtain ⟨sv,bt,bm,B,MT,rfl,hby,hT⟩:=hP.ex;haveI:=hv.cel;haveI:=hby.cel;haveI:=h2.cel;haveI:=h3.cel;refine Cl (N:=38) func59 E E E λw_=>?_;refine A8 (D7 0 1 2 3) (A1 (aS_ E (A0 (D7 0 1 2 3) (A3 (A1 (mV_ E (lQ_ (F6 (e:=74) E E kR) (A0 (F2 0 1 2 3 10) ?_))))))));refine C7 E ?_;refine A6 (nx (D7 0 1 2 3) (A3 (A1 (mV_ E (lQ_ (E1 E) (lQ_ (qf_ 0 0) ?_))))));refine lQ_ ql_ ?_;refine lQ_ (F5 true E E (eqT (by rw [hr];rfl))) ?_;refine A0 (F2 0 1 2 3 15) ?_;refine D9 E ?_;refine A1 (mv_ ?_);refine C6 (aS E (aS E a0)) kR (Y0 v w 32 _ (hv.mono qS) qD) E ?_;rintro r1 M1 J1 ⟨rfl,k1⟩;haveI:=k1.cel;refine C6 a0 kR (B5f _) E ?_;rintro r2 M2 J2 ⟨rfl,k2⟩;haveI:=k2.cel;refine mv_ (mv_ ?_);refine C6 (aS E (aS E (aS E (aS E a0)))) kR (C1C r1 r2 v2 v3 (H5 w 32) n12 wa wb _ (k1.mono qS) (k2.mono qS) (h2.mono qS) (h3.mono qS) hl) E ?_;rintro r3 M3 J3 ⟨rfl,k3⟩;rw [B5c,show H5 n12 12=n12 from rfl] at k3;haveI:=k3.cel;refine as_ (A0 (D4 8) (A9 (tr ?_)));exact ⟨_,(pb,blk [.int .u8 (md s.real),sv,.int .i64 (((s.n:Nat):Int)),(vP bt)] 74)::(B++MT),[],H8 E E,(Cg (Ch (B:=[_]) qP (Ch qP (Cf qP)))),⟨sv,bt,bm,B,MT,E,hby,hT⟩,k3.mono qS⟩
theorem C1K(pb:Nat)(s:Ps)(hr:s.real=true)(v v2 v3:Value)(w wa wg:LN)(MP A:Mem)(hP:Prm pb s MP)(hMP:∀x,x∈MP->x∈A)(hv:By A v w)(h2:By A v2 wa)(h3:By A v3 wg)(hl:wa.length+wg.length<=16000000):FnX prog 65 [(vP pb),v,v2,v3] [] A λq M J=>M=[]∧∃u,q=.tuple #[u,.bool (A3c s w wa wg).isSome]∧By J u ((A3c s w wa wg).getD []):=by obtain ⟨sv,bt,bm,B,MT,rfl,hby,hT⟩:=hP.ex;have hpb:=hMP _ qK;haveI:=hv.cel;haveI:=hby.cel;haveI:=h2.cel;haveI:=h3.cel;refine Cl (N:=96) func65 E E E λw_=>?_;refine A8 (D7 0 1 2 3) (A1 (aS_ E (aS_ E (A0 (D7 0 1 2 3) (A3 (A1 (mV_ E (lQ_ (F6 (e:=74) E E kR) (A0 (F2 0 1 2 3 17) ?_)))))))));refine C7 E ?_;refine A6 (nx (D7 0 1 2 3) (A3 (A1 (mV_ E (lQ_ (E1 E) (lQ_ (qf_ 0 0) ?_))))));refine lQ_ (I0 E kR (mA hpb) qR) ?_;refine lQ_ (F5 true E E (eqT (by rw [hr];rfl))) ?_;refine A0 (F2 0 1 2 3 22) ?_;refine D9 E ?_;refine A1 (mv_ ?_);refine C6 (aS E (aS E a0)) kR (Y0 v w 32 _ (hv.mono qS) qD) E ?_;rintro r1 M1 J1 ⟨rfl,k1⟩;haveI:=k1.cel;refine C6 a0 kR (B5f _) E ?_;rintro r2 M2 J2 ⟨rfl,k2⟩;haveI:=k2.cel;refine mv_ (mv_ ?_);refine C6 (aS E (aS E (aS E (aS E a0)))) kR (C1F r1 r2 v2 v3 (H5 w 32) n12 wa wg _ (k1.mono qS) (k2.mono qS) (h2.mono qS) (h3.mono qS) hl) E ?_;rintro r3 M3 J3 ⟨rfl,u3,rfl,k3⟩;rw [B5c,show H5 n12 12=n12 from rfl] at k3 ⊢;haveI:=k3.cel;refine lQ_ (Z9 E) (lQ_ (Z5 E) (as_ (as_ (A0 (D0 8 9) (A9 (tr ?_))))));exact ⟨_,[],[],A1Z E E E,qZ,E,u3,by rw [A5X hr],by rw [A5X hr];exact k3.mono qS⟩
theorem C1L(pb:Nat)(s:Ps)(v v2 v3:Value)(w wa wb:LN)(MP A:Mem)(hP:Prm pb s MP)(hn:s.ts.length<1048576)(hv:By A v w)(hya:By A v2 wa)(hyb:By A v3 wb)(hl:wa.length+wb.length<=16000000)(hG:Glb A):FnX prog 59 [(vP pb),v,v2,v3] MP A λq M J=>Prm pb (B1t s w wa wb) M∧By J q (C1G s w wa wb):=by
  cases hr:s.real with
  | true=>rw [B9n hr,B0l hr];exact C1J pb s hr v v2 v3 w wa wb MP A hP hv hya hyb hl
  | false =>
    rw [B9o hr,B9p hr];obtain ⟨bt,bm,hT⟩:=hP.t
    exact (B2O pb bt bm s hr v v2 v3 w wa wb MP A hT hn hv hya hyb hG).mono λq M J h=>⟨h.1.p,h.2⟩
theorem B5g(pb:Nat)(s:Ps)(v v2 v3:Value)(w wa wg:LN)(MP A:Mem)(hP:Prm pb s MP)(hMP:∀x,x∈MP->x∈A)(hn:s.ts.length<=1048576)(hSel:W5 s.ts)(hv:By A v w)(h2:By A v2 wa)(h3:By A v3 wg)(hj:Kok s w)(hl:wa.length+wg.length<=16000000)(hG:Glb A):FnX prog 65 [(vP pb),v,v2,v3] [] A λq M J=>M=[]∧∃u,q=.tuple #[u,.bool (A3c s w wa wg).isSome]∧By J u ((A3c s w wa wg).getD []):=by
  cases hr:s.real with
  | true=>exact C1K pb s hr v v2 v3 w wa wg MP A hP hMP hv h2 h3 hl
  | false =>
    obtain ⟨bt,bm,hT⟩:=hP.t;obtain ⟨i,hi,rfl⟩:=hj hr;exact C1I pb bt bm s hr v v2 v3 _ wa wg i MP A hT hMP hn hSel hv h2 h3 (by rw [A2o,show u64 ((i:Nat):Int)=i by unfold u64;omega,if_pos hi]) hG

end Go.Proofs.YtglbhoeolghndaaGreatDoor
namespace Go.Px
theorem FnX.amb{P:Program}{f:FuncId}{args:List Value}{M A A':Mem}{post:Value->Mem->Mem->Prop}(hA:∀x,x∈A->x∈A')(h:FnX P f args M A post):FnX P f args M A' post:=by
  intro w hw
  have h1:St ⟨P,w,M.map Prod.fst,A,0⟩ M [] w:=⟨hw.os,hw.tape,hw.output,hw.size,hw.frame,λb o hb=>hw.mem b o (by
    rcases List.mem_append.1 hb with hb|hb
    . exact Ae _ hb
    . exact Ai _ (hA _ hb)),hw.nodup,hw.own,hw.sepJ,λb o hb=>hw.sepA b o (hA _ hb),hw.old⟩
  refine Calls.mono (h w h1) ?_;rintro e w' ⟨r,M',J',rfl,hp,hs⟩;refine ⟨r,M',J',E,hp,⟨hs.os,hs.tape,hs.output,hs.size,hs.frame,λb o hb=>?_,hs.nodup,hs.own,hs.sepJ,hw.sepA,hs.old⟩⟩;rcases List.mem_append.1 hb with hb|hb
  . exact hs.mem b o (Ae _ hb)
  . rcases List.mem_append.1 hb with hb|hb
    . exact hs.mem b o (Ai _ (Ae _ hb))
    . have h2:=hw.sepA b o hb;rw [hs.frame b h2.2 h2.1];exact hw.mem b o (Ai _ hb)
end Go.Px

namespace Go.Proofs.YtglbhoeolghndaaGreatDoor
open Go.Px
variable{P:Program}{fn:Func}{R:Mem}{v z:Value}
theorem C1M{l:Env}{t1 t2 u x b1 b2 n1 n2:Nat}{y1 y2:TypeId}{c1 c2:List Value}{e1 e2:TypeId}{f1 f2:Nat×Nat}(h:fn.results=#[.cell t1 y1,.cell t2 y2,.tmp u,.tmp x])(h1:lk l t1=some (vP b1))(h2:lk l t2=some (vP b2))(hu:lk l u=some v)(hx:lk l x=some z)(ht1:A51 P y1=some n1)(ht2:A51 P y2=some n2)
    (hb1:(b1,Obj.cells c1.toArray e1 f1)∈R) (hb2:(b2,Obj.cells c2.toArray e2 f2)∈R) (hn1:c1.length=n1) (hn2:c2.length=n2):Res P fn l R (.tuple #[.agg c1.toArray,.agg c2.toArray,v,z]):=λN a w ha hw=>by
  obtain ⟨d1,g1,g2,g3⟩:=Q8 ht1;obtain ⟨d2,k1,k2,k3⟩:=Q8 ht2;have l1:=run_loadVar_row (P:=P) w b1 e1 y1 c1.toArray f1 d1 (hw b1 _ hb1) g1 (by cases d1<;>simp_all [TypeDesc.isRow]) (by rw [g3,<- hn1];simp);have l2:=run_loadVar_row (P:=P) w b2 e2 y2 c2.toArray f2 d2 (hw b2 _ hb2) k1 (by cases d2<;>simp_all [TypeDesc.isRow]) (by rw [k3,<- hn2];simp);simp [results,h,ha.slot t1 _ h1,ha.slot t2 _ h2,ha.slot u _ hu,ha.slot x _ hx,asAddr,l1,l2]
def G9(s:Ps)(r:Rsd):Rsd:={ r with sk:=A1b (H7 s r.own) r.sk,sn:=(r.sn+1)%4294967296 }
def B1k(s:Ps)(r:Rsd)(w:LN):LN:=A5U w (A62 (I6 s r.own) r.prev r.sn)
def U0(s:Ps)(r:Rsd)(w t:LN):Ps:=B1t (Z0 (H7 s r.own) r.sk) (X5 (H7 s r.own) r.sk) (B1k s r w) t
def A3H(s:Ps)(r:Rsd)(w t:LN):LN:=C1G (Z0 (H7 s r.own) r.sk) (X5 (H7 s r.own) r.sk) (B1k s r w) t
theorem A01(s:Ps)(key:LN):(Z0 s key).ts.length<=s.ts.length+3∧(Z0 s key).n=s.n∧(Z0 s key).real=s.real:=by have h1:=A2X s key [] A26 2;have h2:=A1B s key [] A26 2;have e:([]:List (LN)).length=0:=rfl;unfold Z0;exact ⟨by omega,h2.2.1,h2.1⟩
theorem B5h(pb:Nat)(s:Ps)(r:Rsd)(vo vt vr vk vl vs vw vx:Value)(w tx:LN)(MP A:Mem)(hP:Prm pb s MP)(hn:s.ts.length+200<=1040000)(hr:RsR A r vo vt vr vk vl vs)(hsk:0<r.sk.length)(hw:By A vw w)(hwl:w.length<=1000000)(hx:By A vx tx)(hxl:tx.length<=1000000)(hG:Glb A):FnX prog 27 [(vP pb),.agg (rsC vo vt vr vk vl vs r).toArray,vw,vx] MP A λq M J=>∃q1 q2 q3,q=.tuple #[q1,.agg #[q2,(vU r.prev),(vU r.sn)],q3,P0]∧Prm pb (U0 s r w tx) M∧RsV (J++A) q1 (G9 s r)∧By (J++A) q2 (I6 s r.own)∧By (J++A) q3 (A3H s r w tx):=by
 haveI:=hr.own.cel;haveI:=hr.their.cel;haveI:=hr.root.cel;haveI:=hr.sk.cel;haveI:=hr.tk.cel;haveI:=hw.cel;haveI:=hx.cel;have hst:=hr.st;obtain ⟨sb,u0,rows0,rfl,hsb,hrd0,hrw0⟩:=hst;have f1:=A42 s r.own;have f2:=A01 (H7 s r.own) r.sk;have f3:=C1o s r.own;unfold rsC;refine Cl (N:=52) func27 E E E λw_=>?_;refine A8 (D7 0 1 2 3) (A1 ?_);refine A2 E (bx_ λb5=>?_);refine A2 E (C2 (cs:=[vS,vS,vS,vS,D3,vS,D3,D3,.pointer none]) kR E λb8=>?_);refine A2 E (C2 (cs:=[vS,D3,D3]) kR E λb9=>?_);refine aS_ E (aS_ E (A0 (G7 0 2 3 5 8 9) (A3 (A1 (lQ_ (qf_ 3 3) (lQ_ (qf_ 3 0) ?_))))));refine lQ_ ql_ ?_;refine lQ_ (G2 (sz:=1) E kR hr.sk.rd) ?_;refine lQ_ (F5 false E E (eqF qO)) ?_;refine A0 (N9 0 2 3 5 8 9 19) ?_;refine C7 E ?_;refine A6 (nx (G7 0 2 3 5 8 9) ?_);refine F8 (MP) (_) true (.range 11) [(0,0),(1,0),(2,1),(4,0),(5,1),(6,0),(7,0),(8,1),(3,3),(9,3),(10,4),(11,2)] kR kR qP λhs K n0 hKm hKs hKn=>?_;refine kM_ E E (kQ_ E (qf_ 0 0) ?_);refine I8 hs E hKs ql_ ?_;refine kQ_ E (qf_ 7 7) ?_;refine I8 hs E hKs ql_ ?_;refine kQ_ E (qf_ 3 3) (kQ_ E (qf_ 4 1) ?_);refine I8 hs E hKs ql_ ?_
 refine A0Z [⟨3,25,none,MP,λv B R=>Prm pb (H7 s r.own) B∧By R v (I6 s r.own)⟩,⟨9,31,none,[],λv B R=>B=[]∧∃u,v=.agg #[u,(vU r.prev),(vU r.sn)]∧By R u (I6 s r.own)⟩,⟨10,12,none,[],λv B _=>∃b,v=(vP b)∧B=[(b,blk [vS,D3,D3] 34)]⟩] ([(b9,blk [vS,D3,D3] 34),(b8,blk [vS,vS,vS,vS,D3,vS,D3,D3,.pointer none] 47),(b5,blk [vo,vt,vr,vk,(vU r.sn),vl,(vU r.tn),(vU r.prev),(vP sb)] 47)]) (λbs=>[bs 3,bs 9,bs 10]) (hKn E) (by simp [U1,A0D]) (show ∀m∈([MP,[],[]]:List Mem),∀x∈m,K x.1 from A4 (hKm) (A4 gn0 (A4 gn0 (I5)))) kR (λ_=>by first|rfl|kernel_rfl)
  (A4 (λ_ _ _ _ h ⟨p1,p2⟩=>⟨p1,p2.mono h⟩) (A4 (λ_ _ _ _ h ⟨p1,u,e,p2⟩=>⟨p1,u,e,p2.mono h⟩) (A4 gM (I5)))) nd_ nd_ dl_
  (gC ?_ (gC ?_ (gC ?_ (I5)))) ?_
 . intro _ _ R _ _ hb _ _ _;dsimp only [Gc.inp];refine C9 (Mc:=MP) (R:=[]) (aS E (aS E (a0))) kR qM (A1V pb s vo r.own MP _ hP qO (hr.own.mono (λx hx=>by have:=hb x (by simp [hx]);simp [this])) (hG.sub (λx hx=>by have:=hb x (by simp [hx]);simp [this]))) E ?_;rintro v25 M25 J25 ⟨hP25,h25⟩;exact ⟨_,E,by simpa using hP25,h25.mono λx hx=>by simp [hx]⟩
 . intro _ _ _ _ _ _ _ _ ha;dsimp only [Gc.inp];have g3:=gx 0 ha;dsimp only at g3;obtain ⟨-,h25⟩:=g3;haveI:=h25.cel;dsimp only [P7,List.map,Cu,Ct];exact Cn (F0 (place:=λx=>#[(0,1),(1,1),(2,1)][x]?) (z:=[vS,D3,D3]) (λ_=>by kernel_rfl) (eS E (eS E (eS E e0))) (bdS 0 1 E qR (bdS 1 1 E qR (bdS 2 1 E qR bd0)))) E ⟨_,E,E,_,E,h25⟩
 .
  intros
  dsimp only [Gc.inp]
  exact C2 (cs:=[vS,D3,D3]) kR E λb=>⟨_,E,b,E,E⟩
 intro vs bs Jn0 hφ hKK;clear hKK;have g3:=gy 0 hφ;have g9:=gy 1 hφ;have g10:=gy 2 hφ;dsimp only at g3 g9 g10;clear hφ;dsimp only [P7,U1,List.foldr,List.map,Cu,Ct];generalize bs 3=B25,bs 9=B31,bs 10=B12,vs 3=u25,vs 9=u31,vs 10=u12 at *;obtain ⟨hP25,-⟩:=g3;obtain ⟨rfl,v25,rfl,h25⟩:=g9;obtain ⟨b12,rfl,rfl⟩:=g10;haveI:=h25.cel;refine K1 E E E (A5 (vs:=[v25,(vU r.prev),(vU r.sn)]) E E E kR qR (A4 h25.one al2) Cs ?_);refine I1 (N9 0 2 3 5 8 9 12) (A1 ?_);refine lQ_ (qw_ 9) ?_;refine C6 (aS E a0) kR (FnX.amb qS (A87 r vo vt vr vk vl _ A hr)) E ?_;rintro v33 M33 J33 ⟨cb,rfl,hSt⟩;obtain ⟨u5,rows5,BS,rfl,hs5,hw5⟩:=hSt.ex;unfold rsC;refine A2 E (A5 (vs:=[vo,vt,vr,vk,(vU r.sn),vl,(vU r.tn),(vU r.prev),(vP cb)]) E E E kR qR (A4 hr.own.one (A4 hr.their.one (A4 hr.root.one (A4 hr.sk.one (A4 E (A4 hr.tk.one al3)))))) Cs ?_);refine A0 (N9 0 2 3 5 8 9 12) ?_;refine A0a (B:=(cb,blk [u5] 136)::BS) qP ?_;have hrd5:=hs5.rd (R:=BS) λ_ h=>h;refine A1 (mV_ E (lQ_ (qf_ 3 3) ?_));refine lQ_ (H9 (n:=2) E kR (by first|exact Cc|exact mA (by assumption)) Cr) ?_;refine A2 E (C9 (Mc:=B25) (R:=_) (aS E (aS E (a0))) kR qP (A41 pb (H7 s r.own) vk r.sk r.sn B25 _ hP25 (hr.sk.mono qS) qO hG.up) E ?_);rintro v38 M38 J38 ⟨k1,k2,rfl,hP38,hb1,hb2⟩;haveI:=hb1.cel;haveI:=hb2.cel;refine mV_ E (lQ_ (Z9 E) (lQ_ (Z5 E) ?_));refine A2 E (C2 (cs:=[vS,D3]) kR E λb14=>?_);refine as_ ?_;refine A2 E (A5 (vs:=[k2,.int .u32 (((r.sn+1)%4294967296:Nat):Int)]) E E E kR qR (A4 hb2.one (A4 E I5)) Cs ?_);refine A0 (A0q 0 2 3 5 8 9 12 13 14) (A1 ?_);refine lQ_ (qw_ 2) ?_;refine lQ_ (qf_ 3 3) ?_;refine A2 E (K3 (vs:=[k2,.int .u32 (((r.sn+1)%4294967296:Nat):Int)]) (cs':=[vo,vt,vr,k2,.int .u32 (((r.sn+1)%4294967296:Nat):Int),vl,(vU r.tn),(vU r.prev),(vP cb)]) E E E kR (by exact (show 3+2<=9 by decide)) (A4 hb2.one (A4 E I5)) E Cs ?_);refine A0 (W6 0 2 3 5 8 9 12 13) ?_;refine F8 (M38++[(b8,blk [vS,vS,vS,vS,D3,vS,D3,D3,.pointer none] 47)]) (_) true [0,1,2,3,4,5,6,7,8,9,11,12] [(0,1),(1,1),(2,0),(3,0),(4,0),(5,1),(7,0),(6,2),(8,2),(9,2),(10,2),(11,0),(12,0)] kR kR qP λhs K n0 hKm hKs hKn=>?_;refine I8 hs E hKs (qw_ 9) ?_;refine I8 hs E hKs (qw_ 3) ?_;refine kM_ E E (kM_ E E (km_ ?_));refine I8 hs E hKs (qw_ 3) ?_;refine km_ ?_
 refine H0 [] _ rfl rfl (Ah _) (λ_ h=>by cases h) λw0=>(E2 (aS rfl (aS rfl a0)) kR (B4J vw v25 w (I6 s r.own) r.prev r.sn _ (hw.mono qS) (h25.mono qS) qO hr.prev hr.sn) rfl ?_)
 rintro v49 M49 J49 ⟨rfl,h49⟩ _;haveI:=h49.cel;dsimp only [Ct,List.append_eq]
 refine H0 M38 _ E E qP (λx hx=>hKm x (Ae _ hx)) λw0=>(C9 (Mc:=M38) (R:=_) (aS E (aS E (aS E (aS E (a0))))) kR qP (C1L pb (Z0 (H7 s r.own) r.sk) k1 v49 vx (X5 (H7 s r.own) r.sk) (B1k s r w) tx M38 _ hP38 qO (hb1.mono qS) (h49.mono qS) (hx.mono qS) (by unfold B1k;rw [A3q,A28];omega) hG.up) E ?_)
 rintro v51 M51 J51 ⟨hP51,h51⟩ hKx51;haveI:=h51.cel
 refine H0 [(b8,blk [vS,vS,vS,vS,D3,vS,D3,D3,.pointer none] 47)] _ E E qP (λx hx=>hKm x (Ai _ hx)) λw0=>(A5 (vs:=[vo,vt,vr,k2,.int .u32 (((r.sn+1)%4294967296:Nat):Int),vl,(vU r.tn),(vU r.prev),(vP cb)]) E E E kR qR (A4 hr.own.one (A4 hr.their.one (A4 hr.root.one (A4 hb2.one (A4 E (A4 hr.tk.one al3)))))) Cs ?_)
 intro _;dsimp only [Cu,Ct,List.append_eq];refine K1 E E E (A5 (vs:=[v25,(vU r.prev),(vU r.sn)]) E E E kR qR (A4 h25.one al2) Cs ?_);refine kQ_ E (G3 E) (kQ_ E (G3 E) (I1 (D7 8 9 10 11) (A9 ?_)));exact ⟨_,M51,[],C1M (n1:=9) (n2:=3) E E E E E kR kR Cc Cc qR qR,Cg (Cf qP),_,v25,v51,E,hP51,⟨vo,vt,vr,k2,vl,_,E,⟨hr.own.mono qS,hr.their.mono qS,hr.root.mono qS,hb2.mono qS,hr.tk.mono qS,⟨cb,u5,rows5,E,by simp,hrd5.mono qS,hw5.mono skT qS⟩,Ad _ qD,hr.tn,hr.prev,hr.sks⟩⟩,h25.mono qS,h51.mono qS⟩

def ahE(N n:Nat):Int:=if n<N then 8 else if 16<n-N then 7 else 0
def ahX(s:Ps)(key:LN)(N n:Nat)(of:LN)(sks:List Skp):Ast:=if ahE N n=0 then rep (aSt of) (n-N) (s,key,N,sks) else (s,key,N,sks)
variable{N n:Nat}
theorem B5i(h:ahE N n=0):N<=n∧n-N<=16:=by
  unfold ahE at h;split at h
  . cases h
  . split at h
    . cases h
    . omega
theorem A1G(h1:N<=n)(h2:n-N<=16):ahE N n=0:=by unfold ahE;rw [if_neg qO,if_neg qO]
variable{s:Ps}{key:LN}
theorem B5j{of:LN}{sks:List Skp}(h:ahE N n≠0):ahX s key N n of sks=(s,key,N,sks):=if_neg h
theorem A0A{of:LN}{sks:List Skp}(h:ahE N n=0):ahX s key N n of sks=rep (aSt of) (n-N) (s,key,N,sks):=if_pos h
theorem C3V(of:LN)(i:Nat)(x:Ast):(rep (aSt of) i x).1.n=x.1.n∧(rep (aSt of) i x).1.real=x.1.real:=by
  induction i with
  | zero=>exact ⟨E,E⟩
  | succ i ih =>
    have h:=A01 (rep (aSt of) i x).1 (rep (aSt of) i x).2.1;exact ⟨h.2.1.trans ih.1,h.2.2.trans ih.2⟩
theorem C1N(s:Ps)(key:LN)(N n:Nat)(of:LN)(sks:List Skp)(hN:N<4294967296)(hn:n<4294967296)(hl:sks.length<=1000) :
    (ahX s key N n of sks).1.ts.length<=s.ts.length+48∧(ahX s key N n of sks).1.n=s.n∧(ahX s key N n of sks).2.2.1<4294967296∧(ahX s key N n of sks).2.2.2.length<=1000:=by
  by_cases h:ahE N n=0
  . obtain ⟨h1,h2⟩:=B5i h;rw [A0A h];have a:=B4H of (n-N) (s,key,N,sks);have b:=C3V of (n-N) (s,key,N,sks);have c:=B7Z of (n-N) (s,key,N,sks);have d:=B9d of (n-N) (s,key,N,sks) hl;dsimp only at a b c d;exact ⟨by omega,b.1,by omega,d⟩
  . rw [B5j h];exact ⟨by dsimp only;omega,E,hN,hl⟩
theorem B5k(pb sb:Nat)(s:Ps)(kv vof:Value)(key of:LN)(N n:Nat)(sks:List Skp)(R MP MS A:Mem)(hP:Prm pb s MP)(hS:Sto R sb sks MS)(hR:∀x,x∈R->x∈A)(hk:By R kv key)(hof:By R vof of)(hl:sks.length<=1000)(hn32:n<4294967296)(hn:s.ts.length<=1000000)(hG:Glb A) :
    FnX prog 67 [(vP pb),.agg #[kv,(vU N)],vof,(vU n),(vP sb)] (MP++MS) A λq M J=>∃MP' MS' kv',M=MP'++MS'∧q=.tuple #[.agg #[kv',(vU ((ahX s key N n of sks).2.2.1))],.int .i64 (ahE N n)]∧Prm pb (ahX s key N n of sks).1 MP'∧Sto (J++R) sb (ahX s key N n of sks).2.2.2 MS'∧By (J++R) kv' (ahX s key N n of sks).2.1:=by
  by_cases h:ahE N n=0
  . obtain ⟨h1,h2⟩:=B5i h;rw [A0A h,h];exact B1f pb sb s kv vof key of N n sks R MP MS A hP hS hR hk hof hl h1 h2 hn32 hn hG
  . rw [B5j h];unfold ahE at h ⊢;by_cases h1:n<N
    . rw [if_pos h1];refine (FnV.frame (B1g _ _ kv vof key of N n _ (hk.mono λx hx=>Ai _ (hR x hx)) (hof.mono λx hx=>Ai _ (hR x hx)) h1)).mono λq M J ⟨e1,e2,e3⟩=>?_;subst e1;subst e2;subst e3;exact ⟨MP,MS,kv,E,E,hP,hS,hk⟩
    . rw [if_neg h1] at h ⊢;by_cases h2:16<n-N
      . rw [if_pos h2];refine (FnV.frame (B1h _ _ kv vof key of N n _ (hk.mono λx hx=>Ai _ (hR x hx)) (hof.mono λx hx=>Ai _ (hR x hx)) qO hn32 h2)).mono λq M J ⟨e1,e2,e3⟩=>?_;subst e1;subst e2;subst e3;exact ⟨MP,MS,kv,E,E,hP,hS,hk⟩
      . rw [if_neg h2] at h;exact absurd E h
def alW(w hk:LN)(hp hn:Nat):LN:=A5U w (A62 hk hp hn)
def A0M(r:Rsd)(hk:LN):Bool:=!(decide (hk=r.their))||decide (r.tk=[])
def opA(s:Ps)(r:Rsd)(hp:Nat):Ast:=if r.tk=[] then (s,r.tk,r.tn,r.sks) else ahX s r.tk r.tn hp r.their r.sks
def A9c(r:Rsd)(hp:Nat):Int:=if r.tk=[] then 0 else ahE r.tn hp
def C1O(x:Ast)(r:Rsd)(hk:LN):Ps×Rsd:=(A43 x.1 r.root r.own hk,⟨r.own,hk,A8t x.1 r.root r.own hk,r.sk,r.sn,A8f x.1 r.root r.own hk,0,r.prev,x.2.2.2⟩)
def opB(s:Ps)(r:Rsd)(hk:LN)(hp:Nat):Ps×Rsd:=if A0M r hk=true then C1O (opA s r hp) r hk else (s,r)
def opC(x:Ps×Rsd)(hn:Nat):Ast:=ahX x.1 x.2.tk x.2.tn hn x.2.their x.2.sks
def opD(x:Ps×Rsd)(hn:Nat):Ps:=Z0 (opC x hn).1 (opC x hn).2.1
def A4b(x:Ps×Rsd)(hn:Nat):LN:=X5 (opC x hn).1 (opC x hn).2.1
def opG(r:Rsd)(x:Ps×Rsd)(hn:Nat):Rsd:=⟨r.own,x.2.their,x.2.root,r.sk,r.sn,A1b (opC x hn).1 (opC x hn).2.1,((opC x hn).2.2.1+1)%4294967296,r.prev,(opC x hn).2.2.2⟩
def opF(s:Ps)(r:Rsd):Ps×Rsd:=(A43 (E7 s) r.root (F3 s) r.their,⟨F3 s,r.their,A8t (E7 s) r.root (F3 s) r.their,A8f (E7 s) r.root (F3 s) r.their,0,r.tk,r.tn,r.sn,r.sks⟩)
def opZ(b:Bool)(s:Ps)(r:Rsd):Ps×Rsd:=if b=true then opF s r else (s,r)
def Q1(s:Ps)(r:Rsd)(w hk:LN)(hp hn:Nat)(g:LN):Ps×Rsd×Int×LN :=
  match A5T r.sks hk hn with
  | some k=>match A3c s k (alW w hk hp hn) g with
    | none=>(s,r,6,[])
    | some t=>(s,⟨r.own,r.their,r.root,r.sk,r.sn,r.tk,r.tn,r.prev,A5S r.sks hk hn⟩,0,t)
  | none=>if A0M r hk=true∧A9c r hp≠0 then ((opA s r hp).1,r,A9c r hp,[]) else
    if ahE (opB s r hk hp).2.tn hn≠0 then ((opC (opB s r hk hp) hn).1,r,ahE (opB s r hk hp).2.tn hn,[]) else
    match A3c (opD (opB s r hk hp) hn) (A4b (opB s r hk hp) hn) (alW w hk hp hn) g with
    | none=>(opD (opB s r hk hp) hn,r,6,[])
    | some t=>((opZ (A0M r hk) (opD (opB s r hk hp) hn) (opG r (opB s r hk hp) hn)).1,(opZ (A0M r hk) (opD (opB s r hk hp) hn) (opG r (opB s r hk hp) hn)).2,0,t)
variable{x:Ps×Rsd}
section
variable{s:Ps}{r:Rsd}{w hk:LN}{hp hn:Nat}{g t k:LN}
theorem C3W(h:A5T r.sks hk hn=some k)(h2:A3c s k (alW w hk hp hn) g=none):Q1 s r w hk hp hn g=(s,r,6,[]):=by unfold Q1;rw [h];dsimp only;rw [h2]
theorem C1P(h:A5T r.sks hk hn=some k)(h2:A3c s k (alW w hk hp hn) g=some t):Q1 s r w hk hp hn g=(s,⟨r.own,r.their,r.root,r.sk,r.sn,r.tk,r.tn,r.prev,A5S r.sks hk hn⟩,0,t):=by unfold Q1;rw [h];dsimp only;rw [h2]
theorem C1Q(h:A5T r.sks hk hn=none)(h1:A0M r hk=true)(h2:A9c r hp≠0):Q1 s r w hk hp hn g=((opA s r hp).1,r,A9c r hp,[]):=by unfold Q1;rw [h];dsimp only;rw [if_pos ⟨h1,h2⟩]
theorem oR_n(h:A5T r.sks hk hn=none)(hx:opB s r hk hp=x)(h1:A0M r hk=true->A9c r hp=0)(h2:ahE x.2.tn hn≠0):Q1 s r w hk hp hn g=((opC x hn).1,r,ahE x.2.tn hn,[]):=by unfold Q1;rw [h];dsimp only;rw [if_neg (λh3=>h3.2 (h1 h3.1)),hx,if_pos h2]
theorem C5r(h:A5T r.sks hk hn=none)(hx:opB s r hk hp=x)(h1:A0M r hk=true->A9c r hp=0)(h2:ahE x.2.tn hn=0)(h3:A3c (opD x hn) (A4b x hn) (alW w hk hp hn) g=none):Q1 s r w hk hp hn g=(opD x hn,r,6,[]):=by unfold Q1;rw [h];dsimp only;rw [if_neg (λh3=>h3.2 (h1 h3.1)),hx,if_neg (λh=>h h2),h3]
theorem A3I(h:A5T r.sks hk hn=none)(hx:opB s r hk hp=x)(h1:A0M r hk=true->A9c r hp=0)(h2:ahE x.2.tn hn=0)(h3:A3c (opD x hn) (A4b x hn) (alW w hk hp hn) g=some t):Q1 s r w hk hp hn g=((opZ (A0M r hk) (opD x hn) (opG r x hn)).1,(opZ (A0M r hk) (opD x hn) (opG r x hn)).2,0,t):=by unfold Q1;rw [h];dsimp only;rw [if_neg (λh3=>h3.2 (h1 h3.1)),hx,if_neg (λh=>h h2),h3]
end
theorem A3J{l:Env}{t u x b:Nat}{ty:TypeId}{cs:List Value}{e:TypeId}{fr:Nat×Nat}(h:fn.results=#[.cell t ty,.tmp u,.tmp x])(hv:lk l t=some (vP b))(hu:lk l u=some v)(hx:lk l x=some z)(ht:A51 P ty=some n)
    (hb:(b,Obj.cells cs.toArray e fr)∈R) (hn:cs.length=n):Res P fn l R (.tuple #[.agg cs.toArray,v,z]):=λN a w ha hw=>by
  obtain ⟨dsc,h1,h2,h3⟩:=Q8 ht;have hl:=run_loadVar_row (P:=P) w b e ty cs.toArray fr dsc (hw b _ hb) h1 (by cases dsc<;>simp_all [TypeDesc.isRow]) (by rw [h3,<- hn];simp);simp [results,h,ha.slot t _ hv,ha.slot u _ hu,ha.slot x _ hx,asAddr,hl]

variable{r:Rsd}{hp:Nat}
theorem B5l{hk:LN}(h:A0M r hk=true):opB s r hk hp=C1O (opA s r hp) r hk:=if_pos h
theorem B5m{hk:LN}(h:A0M r hk=false):opB s r hk hp=(s,r):=if_neg (by rw [h];decide)
theorem B0m(h:r.tk=[]):opA s r hp=(s,r.tk,r.tn,r.sks):=if_pos h
theorem A49(h:r.tk≠[]):opA s r hp=ahX s r.tk r.tn hp r.their r.sks:=if_neg h
theorem A9d(h:r.tk=[]):A9c r hp=0:=if_pos h
theorem A3d(h:r.tk≠[]):A9c r hp=ahE r.tn hp:=if_neg h
theorem C1R{b:Bool}(h:b=true)(s:Ps)(r:Rsd):opZ b s r=opF s r:=if_pos h
theorem C1S{b:Bool}(h:b=false)(s:Ps)(r:Rsd):opZ b s r=(s,r):=if_neg (by rw [h];decide)
theorem C1T(s:Ps)(r:Rsd)(hp:Nat)(hN:r.tn<4294967296)(hn:hp<4294967296)(hl:r.sks.length<=1000) :
    (opA s r hp).1.ts.length<=s.ts.length+48∧(opA s r hp).1.n=s.n∧(opA s r hp).2.2.1<4294967296∧(opA s r hp).2.2.2.length<=1000:=by
  unfold opA;split
  . exact ⟨by dsimp only;omega,E,hN,hl⟩
  . exact C1N s r.tk r.tn hp r.their r.sks hN hn hl
theorem len0{l:LN}:(decide ((l.length:Int)=0))=decide (l=[]):=by
  cases l with
  | nil=>rfl
  | cons a l=>simp only [List.length_cons];rw [decide_eq_false qO,decide_eq_false qM]
set_option maxHeartbeats 2000000 in
theorem C1U(pb:Nat)(s:Ps)(r:Rsd)(vo vt vr vk vl vs vw vh vg:Value)(w hk g:LN)(hp hn:Nat)(MP A:Mem)(hP:Prm pb s MP)(hl:s.ts.length+500<=1000000)(hsn:s.n<1000000000)(hr:RsR A r vo vt vr vk vl vs)(hw:By A vw w)(hh:By A vh hk)(hwl:w.length+hk.length<=1000000)(hhp:hp<4294967296)(hhn:hn<4294967296)(hg:By A vg g)(hgl:g.length<=10000000)(hSel:W5 s.ts)(hK1:∀k,A5T r.sks hk hn=some k->Kok s k)(hS2:W5 (opD (opB s r hk hp) hn).ts)(hK2:Kok (opD (opB s r hk hp) hn) (A4b (opB s r hk hp) hn))(hG:Glb A):FnX prog 32 [(vP pb),.agg (rsC vo vt vr vk vl vs r).toArray,vw,.agg #[vh,(vU hp),(vU hn)],vg] MP A λq M J=>∃q1 q2,q=.tuple #[q1,q2,.int .i64 (Q1 s r w hk hp hn g).2.2.1]∧Prm pb (Q1 s r w hk hp hn g).1 M∧RsV (J++A) q1 (Q1 s r w hk hp hn g).2.1∧By (J++A) q2 (Q1 s r w hk hp hn g).2.2.2:=by
 haveI:=hr.own.cel;haveI:=hr.their.cel;haveI:=hr.root.cel;haveI:=hr.sk.cel;haveI:=hr.tk.cel;haveI:=hw.cel;haveI:=hh.cel;haveI:=hg.cel;have hst:=hr.st;obtain ⟨sb,u0,rows0,rfl,hsb,hrd0,hrw0⟩:=hst;unfold rsC;refine Cl (N:=181) func32 E E E λw_=>?_;refine A8 (F2 0 1 2 3 4) (A1 ?_);refine A2 E (bx_ λb6=>?_);refine A2 E (bx_ λb8=>?_);refine A2 E (C2 (cs:=[vS,vS,vS,vS,D3,vS,D3,D3,.pointer none]) kR E λb10=>?_);refine as_ (as_ (A0 (G7 0 2 4 6 8 10) (A1 (mv_ ?_))));refine lQ_ (qw_ 3) ?_;refine C6 (aS E (aS E a0)) kR (B4J vw vh w hk hp hn _ (hw.mono qS) (hh.mono qS) qO hhp hhn) E ?_;rintro v31 M31 J31 ⟨rfl,h31⟩;haveI:=h31.cel;change By _ v31 (alW w hk hp hn) at h31;have hal:(alW w hk hp hn).length<=2000000:=by unfold alW;rw [A3q,A28];omega
 refine aS_ E (A0 (G7 0 4 6 8 10 13) (A3 (A1 (lQ_ (qf_ 8 8) ?_))));refine lQ_ ql_ ?_;refine lQ_ (qf_ 0 0) ?_;refine lQ_ ql_ ?_;refine lQ_ (qf_ 2 2) ?_;refine lQ_ ql_ ?_;refine C6 (aS E (aS E (aS E a0))) kR (B7X sb u0 vh rows0 r.sks hk hn _ (mA hsb) (hrd0.mono qS) (hrw0.mono skT qS) (by have:=hr.sks;omega) (hh.mono qS)) E ?_;rintro v39 M39 J39 ⟨rfl,u39,rfl,h39⟩;haveI:=h39.cel;refine mV_ E (lQ_ (Z9 E) (lQ_ (Z5 E) (as_ (as_ (A0 (W6 0 4 6 8 10 13 14 15) (A1 (mv_ (A0 (W6 0 4 6 8 10 13 14 42) ?_))))))));refine C3 E ?_ ?_<;>intro hc
 .
  obtain ⟨k,hgk⟩:∃k,A5T r.sks hk hn=some k:=Option.isSome_iff_exists.1 hc;rw [hgk,Option.getD_some] at h39;refine A1 (mv_ (mv_ (mv_ (mv_ ?_))));refine C6 (aS E (aS E (aS E (aS E a0)))) kR (B5g pb s u39 v31 vg k (alW w hk hp hn) g MP _ hP (by intro x hx;simp [hx]) qO hSel (h39.mono qS) (h31.mono qS) (hg.mono qS) (hK1 k hgk) qO hG.up) E ?_;rintro v48 M48 J48 ⟨rfl,u48,rfl,h48⟩;haveI:=h48.cel;refine mV_ E (lQ_ (Z9 E) (lQ_ (Z5 E) (aS_ E (aS_ E (A0 (F2 6 8 10 16 17) (A3 (A1 (mV_ E (lQ_ (U2 E) (A0 (F2 6 8 10 16 52) ?_))))))))));refine C3 E ?_ ?_<;>intro hc
  .
   have hno:A3c s k (alW w hk hp hn) g=none:=by simpa using hc
   refine A1 ?_;refine lQ_ (qw_ 9) ?_;refine A2 E (A5 (vs:=[vo,vt,vr,vk,(vU r.sn),vl,(vU r.tn),(vU r.prev),(vP sb)]) E E E kR qR (A4 hr.own.one (A4 hr.their.one (A4 hr.root.one (A4 hr.sk.one (A4 E (A4 hr.tk.one al3)))))) Cs ?_);refine as_ (as_ (A0 (D6 10 11 12) (A9 (tr (tr ?_)))));rw [C3W hgk hno];exact ⟨_,MP,[],A3J (n:=9) E E E E kR Cc qR,Cg (Cf qP),_,_,E,hP,⟨vo,vt,vr,vk,vl,_,E,hr.mono qS⟩,By.nil⟩
  .
   obtain ⟨t,hot⟩:∃t,A3c s k (alW w hk hp hn) g=some t:=by
    cases hq:A3c s k (alW w hk hp hn) g with
    | none=>rw [hq] at hc;cases hc
    | some t=>exact ⟨t,E⟩
   rw [hot,Option.getD_some] at h48;refine A6 (nx (D7 6 8 10 16) (A1 ?_));refine lQ_ (qw_ 9) ?_;refine C6 (aS E a0) kR (FnX.amb qS (A87 r vo vt vr vk vl _ A hr)) E ?_;rintro v66 M66 J66 ⟨cb,rfl,hSt⟩;unfold rsC;refine A2 E (C2 (cs:=[vS,vS,vS,vS,D3,vS,D3,D3,.pointer none]) kR E λb18=>?_);refine A2 E (A5 (vs:=[vo,vt,vr,vk,(vU r.sn),vl,(vU r.tn),(vU r.prev),(vP cb)]) E E E kR qR (A4 hr.own.one (A4 hr.their.one (A4 hr.root.one (A4 hr.sk.one (A4 E (A4 hr.tk.one al3)))))) Cs ?_);refine A0 (D7 8 10 16 18) (A1 (lQ_ (qf_ 8 8) ?_));refine lQ_ ql_ ?_;refine lQ_ (qf_ 0 0) ?_;refine lQ_ ql_ ?_;refine lQ_ (qf_ 2 2) ?_;refine lQ_ ql_ ?_;refine A2 E (C9 (Mc:=M66) (R:=_) (aS E (aS E (aS E (a0)))) kR qP (B4E cb vh r.sks hk hn A M66 _ hSt qS (by have:=hr.sks;omega) hh) E ?_);rintro v62 M62 J62 ⟨rfl,hSt2⟩;obtain ⟨u5,rows5,BS5,rfl,hs5,hw5⟩:=hSt2.ex;have hrd5:=hs5.rd (R:=BS5) λ_ h=>h;refine A0 (D6 10 16 18) ?_;refine A0a (B:=(cb,blk [u5] 136)::BS5) qP ?_;refine A1 ?_;refine lQ_ (qw_ 9) ?_;refine mv_ ?_;refine A2 E (A5 (vs:=[vo,vt,vr,vk,(vU r.sn),vl,(vU r.tn),(vU r.prev),(vP cb)]) E E E kR qR (A4 hr.own.one (A4 hr.their.one (A4 hr.root.one (A4 hr.sk.one (A4 E (A4 hr.tk.one al3)))))) Cs ?_);refine as_ (as_ (A0 (D6 10 11 12) (A9 (tr ?_))));rw [C1P hgk hot];exact ⟨_,MP,[],A3J (n:=9) E E E E kR Cc qR,Cg (Cf qP),_,u48,E,hP,⟨vo,vt,vr,vk,vl,_,E,⟨hr.own.mono qS,hr.their.mono qS,hr.root.mono qS,hr.sk.mono qS,hr.tk.mono qS,⟨cb,u5,rows5,E,by simp,hrd5.mono qS,hw5.mono skT qS⟩,hr.sn,hr.tn,hr.prev,Az (A60 _ _ _) hr.sks⟩⟩,h48.mono qS⟩
 .
  have hgn:A5T r.sks hk hn=none:=by simpa using hc
  refine A6 (nx (G7 0 4 6 8 10 13) (A1 ?_));refine lQ_ (qw_ 9) ?_;refine C6 (aS E a0) kR (FnX.amb qS (A87 r vo vt vr vk vl _ A hr)) E ?_;rintro v66 M66 J66 ⟨cb,rfl,hSt⟩;unfold rsC;refine A2 E (C2 (cs:=[vS,vS,vS,vS,D3,vS,D3,D3,.pointer none]) kR E λb19=>?_);refine A2 E (A5 (vs:=[vo,vt,vr,vk,(vU r.sn),vl,(vU r.tn),(vU r.prev),(vP cb)]) E E E kR qR (A4 hr.own.one (A4 hr.their.one (A4 hr.root.one (A4 hr.sk.one (A4 E (A4 hr.tk.one al3)))))) Cs ?_);refine A0 (N9 0 4 6 8 10 13 19) ?_;refine P3 (α:=Mem) (λ_=>[(0,(vP pb)),(4,vg),(6,(vP b6)),(8,(vP b8)),(10,(vP b10)),(13,v31),(19,(vP b19)),(20,.bool (A0M r hk))]) (λ_=>[(b19,blk [vo,vt,vr,vk,(vU r.sn),vl,(vU r.tn),(vU r.prev),(vP cb)] 47),(b10,blk [vS,vS,vS,vS,D3,vS,D3,D3,.pointer none] 47),(b8,blk [vh,(vU hp),(vU hn)] 34),(b6,blk [vo,vt,vr,vk,(vU r.sn),vl,(vU r.tn),(vU r.prev),(vP sb)] 47)]++(MP++M66)) (λJ=>J) (λJ=>By (J++A) v31 (alW w hk hp hn)) ?_ ?_
  .
   refine C1 (lQ_ (qf_ 0 0) ?_);refine lQ_ ql_ ?_;refine lQ_ (qf_ 1 1) ?_;refine lQ_ ql_ ?_;refine E6 (aS E (aS E a0)) kR (A1a vh vt hk r.their _ (hh.mono qS) (hr.their.mono qS)) E ?_;refine lQ_ (U2 E) (mv_ ?_);refine V8 (t:=73) E (λhb=>?_) (λhb=>?_)
   . refine K0 E E E E ?_;refine K0 E E E E ?_;refine K0 E E E E ?_;refine K0 E E E E ?_;refine K0 E E E E ?_;refine lQ_ (G4 E E) (as_ (C5 ?_));exact jn _ (h31.mono qS) (kq 0 (kq 4 (kq 6 (kq 8 (kq 10 (kq 13 (kq 19 (kp 20 (by unfold A0M;rw [hb];rfl) kn)))))))) (Ch (B:=[(b19,blk [vo,vt,vr,vk,(vU r.sn),vl,(vU r.tn),(vU r.prev),(vP cb)] 47)]) qP (Ch (B:=[(b10,blk [vS,vS,vS,vS,D3,vS,D3,D3,.pointer none] 47)]) qP (Ch (B:=[(b8,blk [vh,(vU hp),(vU hn)] 34)]) qP (Ch (B:=[(b6,blk [vo,vt,vr,vk,(vU r.sn),vl,(vU r.tn),(vU r.prev),(vP sb)] 47)]) qP (Ch (B:=MP) qP (Cf qP)))))) qI
   . refine F4 E E (Cn (qf_ 5 5) E ?_);refine F4 E E (Cn (qf_ 5 0) E ?_);refine F4 E E (Cn ql_ E ?_);refine F4 E E (Cn (G2 (sz:=1) E kR hr.tk.rd) E ?_);refine F4 E E (Cn (E8 E E E) E ?_);refine lQ_ (E3 E E) (as_ (C5 ?_));exact jn _ (h31.mono qS) (kq 0 (kq 4 (kq 6 (kq 8 (kq 10 (kq 13 (kq 19 (kp 20 (by unfold A0M;rw [hb,Bool.false_or,<- len0];rfl) kn)))))))) (Ch (B:=[(b19,blk [vo,vt,vr,vk,(vU r.sn),vl,(vU r.tn),(vU r.prev),(vP cb)] 47)]) qP (Ch (B:=[(b10,blk [vS,vS,vS,vS,D3,vS,D3,D3,.pointer none] 47)]) qP (Ch (B:=[(b8,blk [vh,(vU hp),(vU hn)] 34)]) qP (Ch (B:=[(b6,blk [vo,vt,vr,vk,(vU r.sn),vl,(vU r.tn),(vU r.prev),(vP sb)] 47)]) qP (Ch (B:=MP) qP (Cf qP)))))) qI
  .
   rintro J12 h31
   try dsimp only at h31 ⊢
   haveI:=h31.cel;have hab:=C1T s r hp hr.tn hhp hr.sks
   obtain ⟨x,hx0⟩:∃z,opB s r hk hp=z:=⟨_,E⟩
   refine P3 (α:=Mem×Mem×Mem×Value×Value×Value) (λy=>[(0,(vP pb)),(4,vg),(6,(vP b6)),(8,(vP b8)),(10,(vP b10)),(13,v31),(19,(vP b19)),(20,.bool (A0M r hk))]) (λy=>[(b19,blk [vo,y.2.2.2.1,y.2.2.2.2.1,vk,(vU r.sn),y.2.2.2.2.2,(vU x.2.tn),(vU r.prev),(vP cb)] 47),(b10,blk [vS,vS,vS,vS,D3,vS,D3,D3,.pointer none] 47),(b8,blk [vh,(vU hp),(vU hn)] 34),(b6,blk [vo,vt,vr,vk,(vU r.sn),vl,(vU r.tn),(vU r.prev),(vP sb)] 47)]++(y.1++y.2.1)) (λy=>y.2.2.1) (λy=>Prm pb x.1 y.1∧Sto (y.2.2.1++A) cb x.2.sks y.2.1∧By (y.2.2.1++A) y.2.2.2.1 x.2.their∧By (y.2.2.1++A) y.2.2.2.2.1 x.2.root∧By (y.2.2.1++A) y.2.2.2.2.2 x.2.tk∧By (y.2.2.1++A) v31 (alW w hk hp hn)∧(A0M r hk=true->A9c r hp=0)) ?_ ?_
   .
    refine A1 (mv_ (A0 (A0q 0 4 6 8 10 13 19 20 80) ?_));refine C3 E ?_ ?_<;>intro hc
    .
     have hfr:A0M r hk=true:=hc;refine P3 (α:=Mem×Mem×Mem×Value) (λy=>[(0,(vP pb)),(4,vg),(6,(vP b6)),(8,(vP b8)),(10,(vP b10)),(13,v31),(19,(vP b19)),(20,.bool (A0M r hk))]) (λy=>[(b19,blk [vo,vt,vr,vk,(vU r.sn),y.2.2.2,(vU ((opA s r hp).2.2.1)),(vU r.prev),(vP cb)] 47),(b10,blk [vS,vS,vS,vS,D3,vS,D3,D3,.pointer none] 47),(b8,blk [vh,(vU hp),(vU hn)] 34),(b6,blk [vo,vt,vr,vk,(vU r.sn),vl,(vU r.tn),(vU r.prev),(vP sb)] 47)]++(y.1++y.2.1)) (λy=>y.2.2.1) (λy=>Prm pb (opA s r hp).1 y.1∧Sto (y.2.2.1++A) cb (opA s r hp).2.2.2 y.2.1∧By (y.2.2.1++A) y.2.2.2 (opA s r hp).2.1∧By (y.2.2.1++A) v31 (alW w hk hp hn)∧A9c r hp=0) ?_ ?_
     .
      refine A1 (lQ_ (qf_ 5 5) (lQ_ (qf_ 5 0) ?_));refine lQ_ ql_ ?_;refine lQ_ (G2 (sz:=1) E kR hr.tk.rd) ?_;refine lQ_ (E8 E E E) (A0 (A0q 0 4 6 8 10 13 19 20 85) ?_);refine C3 E ?_ ?_<;>intro hc
      .
       have htk:r.tk≠[]:=by intro e;rw [e] at hc;simp [I4] at hc
       rw [A49 htk,A3d htk] at *;refine A1 (mV_ E (lQ_ (qf_ 5 5) ?_));refine lQ_ (H9 (n:=2) E kR (by first|exact Cc|exact mA (by assumption)) Cr) ?_;refine lQ_ (qf_ 1 1) ?_;refine lQ_ ql_ ?_;refine lQ_ (qf_ 1 1) ?_;refine lQ_ ql_ ?_;refine lQ_ (qf_ 8 8) ?_;refine lQ_ ql_ ?_;refine A2 E (C9 (Mc:=MP++M66) (R:=_) (aS E (aS E (aS E (aS E (aS E (a0)))))) kR qP (B5k pb cb s vl vt r.tk r.their r.tn hp r.sks A MP M66 _ hP hSt qS hr.tk hr.their hr.sks hhp qO hG.up) E ?_);rintro v96 M96 J96 ⟨MP1,MS1,ka,rfl,rfl,hP1,hSt1,ka_⟩;haveI:=ka_.cel;refine mV_ E (lQ_ (Z9 E) (lQ_ (Z5 E) ?_));refine A2 E (C2 (cs:=[vS,D3]) kR E λb21=>?_);refine A2 E (A5 (vs:=[ka,(vU ((ahX s r.tk r.tn hp r.their r.sks).2.2.1))]) E E E kR qR (A4 ka_.one (A4 E I5)) Cs ?_);refine aS_ E (A0 (kq 0 (A0q 4 6 8 10 13 19 20 21 22)) (A3 (A1 (mV_ E (lQ_ (E8 E E E) (A0 (kq 0 (kq 4 (A0q 6 8 10 13 19 20 21 22 100))) ?_))))));refine C3 E ?_ ?_<;>intro hc
       .
        have hE:ahE r.tn hp≠0:=by intro e;rw [e] at hc;simp [I4] at hc
        refine A1 ?_;refine lQ_ (qw_ 9) ?_;refine mv_ ?_;refine A2 E (A5 (vs:=[vo,vt,vr,vk,(vU r.sn),vl,(vU r.tn),(vU r.prev),(vP sb)]) E E E kR qR (A4 hr.own.one (A4 hr.their.one (A4 hr.root.one (A4 hr.sk.one (A4 E (A4 hr.tk.one al3)))))) Cs ?_);refine as_ (as_ (A0 (D6 10 11 12) (A9 (tr (jr (jr ?_))))));rw [C1Q hgn hfr (by rw [A3d htk];exact hE),A3d htk,A49 htk];exact ⟨_,MP1,[],A3J (n:=9) E E E E kR Cc qR,Cg (Cf qP),_,_,E,hP1,⟨vo,vt,vr,vk,vl,_,E,hr.mono qS⟩,By.nil⟩
       .
        have hE:ahE r.tn hp=0:=by simpa [I4] using hc
        refine A6 (nx (A0q 0 4 6 8 10 13 19 20 21) (C1 ?_));refine lQ_ (qw_ 2) ?_;refine lQ_ (qf_ 5 5) ?_;refine A2 E (K3 (vs:=[ka,(vU ((ahX s r.tk r.tn hp r.their r.sks).2.2.1))]) (cs':=[vo,vt,vr,vk,(vU r.sn),ka,(vU ((ahX s r.tk r.tn hp r.their r.sks).2.2.1)),(vU r.prev),(vP cb)]) E E E kR (by exact (show 5+2<=9 by decide)) (A4 ka_.one (A4 E I5)) E Cs ?_);refine C5 ?_;exact jn (MP1,MS1,J96++J12,ka) ⟨hP1,hSt1.mono qS,ka_.mono qS,h31.mono qS,hE⟩ (W6 0 4 6 8 10 13 19 20) (Ch (B:=[(b19,blk [vo,vt,vr,vk,(vU r.sn),ka,(vU ((ahX s r.tk r.tn hp r.their r.sks).2.2.1)),(vU r.prev),(vP cb)] 47)]) qP (Ch (B:=[(b10,blk [vS,vS,vS,vS,D3,vS,D3,D3,.pointer none] 47)]) qP (Ch (B:=[(b8,blk [vh,(vU hp),(vU hn)] 34)]) qP (Ch (B:=[(b6,blk [vo,vt,vr,vk,(vU r.sn),vl,(vU r.tn),(vU r.prev),(vP sb)] 47)]) qP (Ch (B:=MP1) qP (Cf qP)))))) qI
      .
       have htk:r.tk=[]:=by cases hq:r.tk with|nil=>rfl|cons a l=>rw [hq] at hc;simp [I4] at hc
       refine A6 ?_;rw [B0m htk,A9d htk];exact jn (MP,M66,J12,vl) ⟨hP,hSt.mono qS,hr.tk.mono qS,h31,E⟩ (W6 0 4 6 8 10 13 19 20) (Ch (B:=[(b19,blk [vo,vt,vr,vk,(vU r.sn),vl,(vU r.tn),(vU r.prev),(vP cb)] 47)]) qP (Ch (B:=[(b10,blk [vS,vS,vS,vS,D3,vS,D3,D3,.pointer none] 47)]) qP (Ch (B:=[(b8,blk [vh,(vU hp),(vU hn)] 34)]) qP (Ch (B:=[(b6,blk [vo,vt,vr,vk,(vU r.sn),vl,(vU r.tn),(vU r.prev),(vP sb)] 47)]) qP (Ch (B:=MP) qP (Cf qP)))))) qI
     .
      rintro ⟨MP1,MS1,J18,ka⟩ ⟨hP1,hSt1,ka_,h31,hAE⟩;dsimp only at hP1 hSt1 ka_ h31 ⊢;haveI:=h31.cel;haveI:=ka_.cel
      obtain ⟨xa,hxa⟩:∃z,opA s r hp=z:=⟨_,E⟩
      rw [hxa] at hP1 hSt1 ka_ hab ⊢;have htl:=A27 xa.1 r.root r.own hk;refine A1 (mV_ E (lQ_ (qf_ 2 2) ?_));refine lQ_ ql_ ?_;refine lQ_ (qf_ 0 0) ?_;refine lQ_ ql_ ?_;refine lQ_ (qf_ 0 0) ?_;refine lQ_ ql_ ?_;refine A2 E (C9 (Mc:=MP1) (R:=_) (aS E (aS E (aS E (aS E (a0))))) kR qP (B4I pb xa.1 vr vo vh r.root r.own hk MP1 _ hP1 qO (hr.root.mono qS) (hr.own.mono qS) (hh.mono qS) hG.up) E ?_);rintro v113 M113 J113 ⟨y0,y1,rfl,hP113,gy0,gy1⟩;haveI:=gy0.cel;haveI:=gy1.cel;refine mV_ E (lQ_ (Z9 E) (lQ_ (Z5 E) (lQ_ (qf_ 2 2) ?_)));refine A2 E (E4 E E gy0.one kR Cq Cs ?_);refine lQ_ (qf_ 5 5) ?_;refine A2 E (K3 (vs:=[y1,(vU 0)]) (cs':=[vo,vt,y0,vk,(vU r.sn),y1,(vU 0),(vU r.prev),(vP cb)]) E E E kR (by exact (show 5+2<=9 by decide)) (A4 gy1.one (A4 E I5)) E Cs ?_);refine A0 (W6 0 4 6 8 10 13 19 20) (C1 (lQ_ (qf_ 0 0) ?_));refine lQ_ ql_ ?_;refine C6 (aS E a0) kR (P9 vh hk _ (hh.mono qS)) E ?_;rintro v120 M120 J120 ⟨rfl,h120⟩;haveI:=h120.cel;refine lQ_ (qf_ 1 1) ?_;refine A2 E (E4 E E h120.one kR Cq Cs ?_);refine C5 ?_;have e:x=C1O xa r hk:=by rw [<- hx0,B5l hfr,hxa]
      rw [e];exact jn (M113,MS1,J120++(J113++J18),v120,y0,y1) ⟨hP113,hSt1.mono qS,h120.mono qS,gy0.mono qS,gy1.mono qS,h31.mono qS,λ_=>hAE⟩ (W6 0 4 6 8 10 13 19 20) (Ch (B:=[(b19,blk [vo,v120,y0,vk,(vU r.sn),y1,(vU 0),(vU r.prev),(vP cb)] 47)]) qP (Ch (B:=[(b10,blk [vS,vS,vS,vS,D3,vS,D3,D3,.pointer none] 47)]) qP (Ch (B:=[(b8,blk [vh,(vU hp),(vU hn)] 34)]) qP (Ch (B:=[(b6,blk [vo,vt,vr,vk,(vU r.sn),vl,(vU r.tn),(vU r.prev),(vP sb)] 47)]) qP (Ch (B:=M113) qP (Cf qP)))))) qI
    .
     have hfr:A0M r hk=false:=hc;refine A6 ?_;have e:x=(s,r):=by rw [<- hx0,B5m hfr]
     rw [e];exact jn (MP,M66,J12,vt,vr,vl) ⟨hP,hSt.mono qS,hr.their.mono qS,hr.root.mono qS,hr.tk.mono qS,h31,λh=>by rw [hfr] at h;cases h⟩ (W6 0 4 6 8 10 13 19 20) (Ch (B:=[(b19,blk [vo,vt,vr,vk,(vU r.sn),vl,(vU r.tn),(vU r.prev),(vP cb)] 47)]) qP (Ch (B:=[(b10,blk [vS,vS,vS,vS,D3,vS,D3,D3,.pointer none] 47)]) qP (Ch (B:=[(b8,blk [vh,(vU hp),(vU hn)] 34)]) qP (Ch (B:=[(b6,blk [vo,vt,vr,vk,(vU r.sn),vl,(vU r.tn),(vU r.prev),(vP sb)] 47)]) qP (Ch (B:=MP) qP (Cf qP)))))) qI
   .
    have hxb:x.1.ts.length<=s.ts.length+55∧x.1.n=s.n∧x.2.tn<4294967296∧x.2.sks.length<=1000:=by
     have hab:=C1T s r hp hr.tn hhp hr.sks;have htl:=A27 (opA s r hp).1 r.root r.own hk
     cases hf:A0M r hk with
     | true=>rw [<- hx0,B5l hf];exact ⟨by show (A43 _ _ _ _).ts.length<=_;omega,htl.2.trans hab.2.1,(show 0<4294967296 by decide),hab.2.2.2⟩
     | false=>rw [<- hx0,B5m hf];exact ⟨Nat.le_add_right _ _,E,hr.tn,hr.sks⟩
    have hcb:=C1N x.1 x.2.tk x.2.tn hn x.2.their x.2.sks hxb.2.2.1 hhn hxb.2.2.2;change (opC x hn).1.ts.length<=_∧(opC x hn).1.n=_∧(opC x hn).2.2.1<_∧(opC x hn).2.2.2.length<=_ at hcb;have hsl:=A01 (opC x hn).1 (opC x hn).2.1;change (opD x hn).ts.length<=_∧(opD x hn).n=_∧_ at hsl;have hfl:=A61 (opD x hn);rintro ⟨MP2,MS2,J20,zt,zr,zk⟩ ⟨hP2,hSt2,zt_,zr_,zk_,h31,hF0⟩;dsimp only at hP2 hSt2 zt_ zr_ zk_ h31 ⊢;haveI:=h31.cel;haveI:=zt_.cel;haveI:=zr_.cel;haveI:=zk_.cel;refine A1 (mV_ E (lQ_ (qf_ 5 5) ?_));refine lQ_ (H9 (n:=2) E kR (by first|exact Cc|exact mA (by assumption)) Cr) ?_;refine lQ_ (qf_ 1 1) ?_;refine lQ_ ql_ ?_;refine lQ_ (qf_ 2 2) ?_;refine lQ_ ql_ ?_;refine lQ_ (qf_ 8 8) ?_;refine lQ_ ql_ ?_;refine A2 E (C9 (Mc:=MP2++MS2) (R:=_) (aS E (aS E (aS E (aS E (aS E (a0)))))) kR qP (B5k pb cb x.1 zk zt x.2.tk x.2.their x.2.tn hn x.2.sks (J20++A) MP2 MS2 _ hP2 hSt2 qS zk_ zt_ hxb.2.2.2 hhn qO hG.up) E ?_);rintro v132 M132 J132 ⟨MP3,MS3,kv,rfl,rfl,hP3,hSt3,gkv⟩;haveI:=gkv.cel;change Prm pb (opC x hn).1 MP3 at hP3;change Sto _ cb (opC x hn).2.2.2 MS3 at hSt3;change By _ kv (opC x hn).2.1 at gkv;change XL _ _ _ _ ((132,.tuple #[.agg #[kv,(vU ((opC x hn).2.2.1))],.int .i64 (ahE x.2.tn hn)])::_) _ _;refine mV_ E (lQ_ (Z9 E) (lQ_ (Z5 E) ?_));refine A2 E (C2 (cs:=[vS,D3]) kR E λb23=>?_);refine A2 E (A5 (vs:=[kv,(vU ((opC x hn).2.2.1))]) E E E kR qR (A4 gkv.one (A4 E I5)) Cs ?_);refine aS_ E (A0 (A0q 0 4 6 10 13 19 20 23 24) (A3 (A1 (mV_ E (lQ_ (E8 E E E) (A0 (kq 0 (A0q 4 6 10 13 19 20 23 24 136)) ?_))))));refine C3 E ?_ ?_<;>intro hc
    .
     have hE2:ahE x.2.tn hn≠0:=by intro e;rw [e] at hc;simp [I4] at hc
     refine A1 ?_;refine lQ_ (qw_ 9) ?_;refine mv_ ?_;refine A2 E (A5 (vs:=[vo,vt,vr,vk,(vU r.sn),vl,(vU r.tn),(vU r.prev),(vP sb)]) E E E kR qR (A4 hr.own.one (A4 hr.their.one (A4 hr.root.one (A4 hr.sk.one (A4 E (A4 hr.tk.one al3)))))) Cs ?_);refine as_ (as_ (A0 (D6 10 11 12) (A9 (tr ?_))));rw [oR_n hgn hx0 hF0 hE2];exact ⟨_,MP3,[],A3J (n:=9) E E E E kR Cc qR,Cg (Cf qP),_,_,E,hP3,⟨vo,vt,vr,vk,vl,_,E,hr.mono qS⟩,By.nil⟩
    .
     have hE2:ahE x.2.tn hn=0:=by simpa [I4] using hc
     refine A6 (nx (W6 0 4 6 10 13 19 20 23) (A1 (mv_ ?_)));refine lQ_ (qw_ 2) ?_;refine A2 E (C9 (Mc:=MP3) (R:=_) (aS E (aS E (a0))) kR qP (A41 pb (opC x hn).1 kv (opC x hn).2.1 (opC x hn).2.2.1 MP3 _ hP3 (gkv.mono qS) qO hG.up) E ?_);rintro v142 M142 J142 ⟨k1,k2,rfl,hP142,gk1,gk2⟩;haveI:=gk1.cel;haveI:=gk2.cel;change Prm pb (opD x hn) M142 at hP142;change By _ k1 (A4b x hn) at gk1;refine mV_ E (lQ_ (Z9 E) (lQ_ (Z5 E) ?_));refine A2 E (C2 (cs:=[vS,D3]) kR E λb26=>?_);refine as_ ?_;refine A2 E (A5 (vs:=[k2,.int .u32 ((((opC x hn).2.2.1+1)%4294967296:Nat):Int)]) E E E kR qR (A4 gk2.one (A4 E I5)) Cs ?_);refine A0 (A0q 0 4 6 10 13 19 20 25 26) (A1 (mv_ (mv_ (mv_ (mv_ ?_)))));refine C6 (aS E (aS E (aS E (aS E a0)))) kR (B5g pb (opD x hn) k1 v31 vg (A4b x hn) (alW w hk hp hn) g M142 _ hP142 (by intro x hx;simp [hx]) qO (hx0▸hS2) (gk1.mono qS) (h31.mono qS) (hg.mono qS) (hx0▸hK2) qO hG.up) E ?_;rintro v150 M150 J150 ⟨rfl,u150,rfl,h150⟩;haveI:=h150.cel;refine mV_ E (lQ_ (Z9 E) (lQ_ (Z5 E) (aS_ E (aS_ E (A0 (W6 0 6 10 19 20 26 27 28) (A3 (A1 (mV_ E (lQ_ (U2 E) (A0 (W6 0 6 10 19 20 26 27 154) ?_))))))))));refine C3 E ?_ ?_<;>intro hc
     .
      have hno:A3c (opD x hn) (A4b x hn) (alW w hk hp hn) g=none:=by simpa using hc
      refine A1 ?_;refine lQ_ (qw_ 9) ?_;refine A2 E (A5 (vs:=[vo,vt,vr,vk,(vU r.sn),vl,(vU r.tn),(vU r.prev),(vP sb)]) E E E kR qR (A4 hr.own.one (A4 hr.their.one (A4 hr.root.one (A4 hr.sk.one (A4 E (A4 hr.tk.one al3)))))) Cs ?_);refine as_ (as_ (A0 (D6 10 11 12) (A9 (tr ?_))));rw [C5r hgn hx0 hF0 hE2 hno];exact ⟨_,M142,[],A3J (n:=9) E E E E kR Cc qR,Cg (Cf qP),_,_,E,hP142,⟨vo,vt,vr,vk,vl,_,E,hr.mono qS⟩,By.nil⟩
     .
      obtain ⟨t,hot⟩:∃t,A3c (opD x hn) (A4b x hn) (alW w hk hp hn) g=some t:=by
       cases hq:A3c (opD x hn) (A4b x hn) (alW w hk hp hn) g with
       | none=>rw [hq] at hc;cases hc
       | some t=>exact ⟨t,E⟩
      rw [hot,Option.getD_some] at h150;refine A6 (nx (G7 0 10 19 20 26 27) (A1 ?_));refine lQ_ (qw_ 2) ?_;refine lQ_ (qf_ 5 5) ?_;refine A2 E (K3 (vs:=[k2,.int .u32 ((((opC x hn).2.2.1+1)%4294967296:Nat):Int)]) (cs':=[vo,zt,zr,vk,(vU r.sn),k2,.int .u32 ((((opC x hn).2.2.1+1)%4294967296:Nat):Int),(vU r.prev),(vP cb)]) E E E kR (by exact (show 5+2<=9 by decide)) (A4 gk2.one (A4 E I5)) E Cs ?_);refine A0 (F2 0 10 19 20 27) (A3 (A1 (mv_ (A0 (F2 0 10 19 27 158) ?_))));refine C3 E ?_ ?_<;>intro hc
      .
       have hf:A0M r hk=true:=hc;refine F8 (M142) (_) true [0,1,2,3,4,5,7] [(0,0),(1,0),(2,1),(3,0),(5,0),(4,2),(6,2),(7,0),(8,2)] kR kR qP λhs K n0 hKm hKs hKn=>?_;refine kQ_ E (qf_ 3 3) (kQ_ E (qf_ 4 1) ?_);refine I8 hs E hKs ql_ ?_;refine kM_ E E (kQ_ E (qf_ 7 7) ?_)
       refine H0 _ _ E E (Ah _) hKm λw0=>(C9 (Mc:=M142) (R:=_) (aS E (a0)) kR qP (X3 pb (opD x hn) M142 _ hP142 qO qO hG.up) E ?_)
       rintro v163 M163 J163 ⟨hP163,h163⟩ hKx163;haveI:=h163.cel;refine K1 E E E (E4 E E E kR Cq Cs ?_);refine kQ_ E (qf_ 0 0) ?_;refine K1 E E E (E4 E E h163.one kR Cq Cs ?_);refine I1 (D7 0 10 19 27) (C1 (mV_ E (lQ_ (qf_ 2 2) ?_)));refine lQ_ ql_ ?_;refine lQ_ (qf_ 0 0) ?_;refine lQ_ ql_ ?_;refine lQ_ (qf_ 1 1) ?_;refine lQ_ ql_ ?_;refine A2 E (C9 (Mc:=M163) (R:=_) (aS E (aS E (aS E (aS E (a0))))) kR qP (B4I pb (E7 (opD x hn)) zr v163 zt x.2.root (F3 (opD x hn)) x.2.their M163 _ hP163 qO (zr_.mono qS) (h163.mono qS) (zt_.mono qS) hG.up) E ?_);rintro v174 M174 J174 ⟨c0,c1,rfl,hP174,gc0,gc1⟩;haveI:=gc0.cel;haveI:=gc1.cel;refine mV_ E (lQ_ (Z9 E) (lQ_ (Z5 E) (lQ_ (qf_ 2 2) ?_)));refine A2 E (E4 E E gc0.one kR Cq Cs ?_);refine lQ_ (qf_ 3 3) ?_;refine A2 E (K3 (vs:=[c1,(vU 0)]) (cs':=[v163,zt,c0,c1,(vU 0),k2,.int .u32 ((((opC x hn).2.2.1+1)%4294967296:Nat):Int),(vU r.sn),(vP cb)]) E E E kR (by exact (show 3+2<=9 by decide)) (A4 gc1.one (A4 E I5)) E Cs ?_);refine A0 (D6 10 19 27) ?_;obtain ⟨u5,rows5,BS5,rfl,hs5,hw5⟩:=hSt3.ex;have hrd5:=hs5.rd (R:=BS5) λ_ h=>h;refine A0a (B:=(cb,blk [u5] 136)::BS5) qP ?_;refine A1 ?_;refine lQ_ (qw_ 9) ?_;refine mv_ ?_;refine A2 E (A5 (vs:=[v163,zt,c0,c1,(vU 0),k2,.int .u32 ((((opC x hn).2.2.1+1)%4294967296:Nat):Int),(vU r.sn),(vP cb)]) E E E kR qR (A4 h163.one (A4 zt_.one (A4 gc0.one (A4 gc1.one (A4 E (A4 gk2.one al3)))))) Cs ?_);refine as_ (as_ (A0 (D6 10 11 12) (A9 ?_)));rw [A3I hgn hx0 hF0 hE2 hot,C1R hf];exact ⟨_,M174,[],A3J (n:=9) E E E E kR Cc qR,Cg (Cf qP),_,u150,E,hP174,⟨v163,zt,c0,c1,k2,_,E,⟨h163.mono qS,zt_.mono qS,gc0.mono qS,gc1.mono qS,gk2.mono qS,⟨cb,u5,rows5,E,by simp,hrd5.mono qS,hw5.mono skT qS⟩,(show 0<4294967296 by decide),Ad _ qD,hr.sn,hcb.2.2.2⟩⟩,h150.mono qS⟩
      . have hf:A0M r hk=false:=hc;refine A6 (nx (D6 10 19 27) ?_);obtain ⟨u5,rows5,BS5,rfl,hs5,hw5⟩:=hSt3.ex;have hrd5:=hs5.rd (R:=BS5) λ_ h=>h;refine A0a (B:=(cb,blk [u5] 136)::BS5) qP ?_;refine A1 ?_;refine lQ_ (qw_ 9) ?_;refine mv_ ?_;refine A2 E (A5 (vs:=[vo,zt,zr,vk,(vU r.sn),k2,.int .u32 ((((opC x hn).2.2.1+1)%4294967296:Nat):Int),(vU r.prev),(vP cb)]) E E E kR qR (A4 hr.own.one (A4 zt_.one (A4 zr_.one (A4 hr.sk.one (A4 E (A4 gk2.one al3)))))) Cs ?_);refine as_ (as_ (A0 (D6 10 11 12) (A9 ?_)));rw [A3I hgn hx0 hF0 hE2 hot,C1S hf];exact ⟨_,M142,[],A3J (n:=9) E E E E kR Cc qR,Cg (Cf qP),_,u150,E,hP142,⟨vo,zt,zr,vk,k2,_,E,⟨hr.own.mono qS,zt_.mono qS,zr_.mono qS,hr.sk.mono qS,gk2.mono qS,⟨cb,u5,rows5,E,by simp,hrd5.mono qS,hw5.mono skT qS⟩,hr.sn,Ad _ qD,hr.prev,hcb.2.2.2⟩⟩,h150.mono qS⟩

theorem StF.cel{sks:List Skp}(h:StF R v sks):Cel v [v]:=by obtain ⟨sb,u,rows,rfl,_⟩:=h;infer_instance
def A5n:LN:=[115,101,115,115,105,111,110]
structure Ses where
  id:LN
  wi:LN
  he:He
  tell:Bool
  r:Rsd
def seC(vi vw p r u vo vt vr vk vl vs:Value)(x:Ses):List Value:=[vi,vw,p,r,u,(vU x.he.signed),.bool x.he.has,(vU x.he.once),.bool x.tell,vo,vt,vr,vk,(vU x.r.sn),vl,(vU x.r.tn),(vU x.r.prev),vs]
abbrev Zc(vi vw p r u vo vt vr vk vl vs:Value)(x:Ses):List Value:=[vi,vw,p,r,u,(vU x.he.signed),.bool x.he.has,(vU x.he.once),.bool x.tell,vo,vt,vr,vk,(vU x.r.sn),vl,(vU x.r.tn),(vU x.r.prev),vs]
abbrev Zd(vs p r u vk vg:Value)(x:Ev):List Value:=[.int .i64 x.fu,.int .i64 x.fd,.int .i64 x.tu,.int .i64 x.td,vs,.bool x.has,p,r,u,(vU x.he.signed),.bool x.he.has,(vU x.he.once),vk,(vU x.hp),(vU x.hn),vg]
abbrev Zb(vi vw p r u:Value)(x:Ses):List Value:=[vi,vw,p,r,u,(vU x.he.signed),.bool x.he.has,(vU x.he.once),.bool x.tell]
abbrev Ze:List Value:=[vS,vS,vS,vS,vS,D3,.bool false,D3,.bool false,vS,vS,vS,vS,D3,vS,D3,D3,.pointer none]
abbrev Zf:List Value:=[P0,P0,P0,P0,vS,.bool false,vS,vS,vS,D3,.bool false,D3,vS,D3,D3,vS]
abbrev Zh:List Value:=[vS,vS,vS,D3,.bool false,D3,.bool false]
abbrev Zg(a b c:Nat):List Value:=[(vP a),(vP b),(vP c),P0,.int .i64 1,.int .i64 1,.int .i64 1]
structure SeR(R:Mem)(x:Ses)(vi vw p r u vo vt vr vk vl vs:Value):Prop where
  id:By R vi x.id
  wi:By R vw x.wi
  he:HeR R x.he p r u
  hil:x.he.ig.length<=1000000
  r:RsR R x.r vo vt vr vk vl vs
theorem SeR.mono{R R':Mem}{x:Ses}{vi vw p r u vo vt vr vk vl vs:Value}(h:SeR R x vi vw p r u vo vt vr vk vl vs)(hR:∀z,z∈R->z∈R'):SeR R' x vi vw p r u vo vt vr vk vl vs:=⟨h.id.mono hR,h.wi.mono hR,h.he.mono hR,h.hil,h.r.mono hR⟩
theorem B76(v:Value)(w:LN)(A:Mem)(h:By A v w):FnX prog 26 [v] [] A λr M J=>Sl 1 r w.length (nums .u8 w) M:=by
 haveI:=h.cel;have hwl:=h.len;refine Cl (N:=8) func26 E E E λw_=>?_;refine A8 (D4 0) (A1 (as_ (A0 (D4 0) (A3 (A1 (mv_ ?_))))));refine lQ_ (A1u (e:=5) E kR (by first|assumption|exact Sl.rd (by assumption) qI|exact By.rd (by assumption))) ?_;refine A0 (D0 0 4) ?_;refine C3 E ?_ ?_<;>intro hc
 . have h0:=h.rd.isNil hc;obtain rfl:w=[]:=Bd h0;refine A1 (as_ (A0 (D4 2) (A9 (tr ?_))));exact ⟨_,[],[],H8 E E,qZ,Sl.nil⟩
 . refine A6 (nx (D4 0) (A1 ?_));refine A2 E (C4 (e:=5) (sz:=1) (z:=[]) kR e0 bd0 E λb5=>?_);refine mv_ ?_;refine A2 E (H4 (e:=5) (sz:=1) (by_:=1) E E kR E (Sl.fresh (n:=0) (cs:=[]) (e:=5) E qD) (h.rd.mono qS) E9 qP (by unfold maxLen;omega) qO E λv7 B7 hs7=>?_);refine as_ (A0 (D4 2) (A9 ?_));exact ⟨_,B7,[],H8 E E,Cg (Cf qP),W8 hs7 qO qM⟩
theorem B9q(pb:Nat)(s:Ps)(vw:Value)(w:LN)(h:He)(p r u:Value)(MP A:Mem)(hP:Prm pb s MP)(hn:s.ts.length<=1040000)(hw:By A vw w)(gh:HeR A h p r u)(hil:h.ig.length<=1000000)(hl:h.ia.length+h.ig.length+h.key.length<=1000000)(hG:Glb A):FnX prog 24 [(vP pb),vw,.agg (heC p r u h).toArray] MP A λq M J=>Prm pb (A2u s [A5n,w,heW [] h]) M∧By J q (A25 s [A5n,w,heW [] h]):=by haveI:=hw.cel;haveI:=gh.ia.cel;haveI:=gh.ig.cel;haveI:=gh.key.cel;unfold heC;refine Cl (N:=15) func24 E E E λw_=>?_;refine A8 (D6 0 1 2) (A1 ?_);refine A2 E (bx_ λb5=>?_);refine as_ (A0 (D6 0 1 5) (A1 (mv_ ?_)));refine A2 E (C4 (e:=5) (sz:=1) (z:=[zu8,zu8,zu8,zu8,zu8,zu8,zu8]) kR (eS E (eS E (eS E (eS E (eS E (eS E (eS E e0))))))) (bdS 0 1 E qR (bdS 1 1 E qR (bdS 2 1 E qR (bdS 3 1 E qR (bdS 4 1 E qR (bdS 5 1 E qR (bdS 6 1 E qR bd0))))))) E λb8=>?_);refine A2 E (A4k E kR Cs E ?_);refine A4w (B:=[_]) (PickC.sing).perm ?_;refine mV_ E (lQ_ (F1 (n:=6) (vs:=[p,r,u,(vU h.signed),.bool h.has,(vU h.once)]) E kR Cc E (D1 [] [p,r,u,(vU h.signed),.bool h.has,(vU h.once)] [])) ?_);refine C6 (aS E a0) kR (C1k h p r u _ (gh.mono qS) qO) E ?_;rintro v12 M12 J12 ⟨rfl,h12⟩;haveI:=h12.cel;refine A2 E (C4 (e:=22) (sz:=1) (z:=[vS,vS,vS]) kR (eS E (eS E (eS E e0))) (bdS 0 1 E qR (bdS 1 1 E qR (bdS 2 1 E qR bd0))) E λb13=>?_);refine A2 E (C9 (Mc:=MP) (R:=_) (aS E (aS E (a0))) kR qP (C1n pb s _ [A5n,w,heW [] h] MP _ hP qO ⟨_,Co (n:=3) Cc qR,Lst.cons ⟨Co (n:=7) (cs:=nums .u8 A5n) Cc qR,by decide,by decide⟩ (Lst.cons (hw.mono qS) (Lst.cons (h12.mono qS) Lst.nil))⟩ (show 3<=100 by decide) (λz hz=>by simp only [Cv,Cw,or_false] at hz;rcases hz with rfl|rfl|rfl;decide;exact hw.lt;exact h12.lt) hG.up) E ?_);rintro v14 M14 J14 ⟨hP14,h14⟩;haveI:=h14.cel;refine as_ (A0 (D4 6) (A9 ?_));exact ⟨_,M14,[],H8 E E,Cg (Cf qP),hP14,h14.mono qS⟩
theorem A67(x:Ses)(vi vw p0 r0 u0 vo vt vr vk0 vl vst:Value)(e:Ev)(vs p r u vk vg:Value)(A:Mem)(hx:SeR A x vi vw p0 r0 u0 vo vt vr vk0 vl vst)(he_:EvR A e vs p r u vk vg)(hwi:x.wi.length<=1000000)(hl:e.ses.length+e.he.ia.length+e.he.ig.length+e.he.key.length<=1000000):FnX prog 28 [.agg (seC vi vw p0 r0 u0 vo vt vr vk0 vl vst x).toArray,.agg (evC vs p r u vk vg e).toArray] [] A λq M J=>M=[]∧By J q (x.wi++frW [] e):=by haveI:=he_.ses.cel;haveI:=he_.he.ia.cel;haveI:=he_.he.ig.cel;haveI:=he_.he.key.cel;haveI:=he_.hk.cel;haveI:=he_.g.cel;haveI:=hx.id.cel;haveI:=hx.wi.cel;haveI:=hx.he.ia.cel;haveI:=hx.he.ig.cel;haveI:=hx.he.key.cel;haveI:=hx.r.own.cel;haveI:=hx.r.their.cel;haveI:=hx.r.root.cel;haveI:=hx.r.sk.cel;haveI:=hx.r.tk.cel;haveI:=hx.r.st.cel;unfold seC evC;refine Cl (N:=11) func28 E E E λw_=>?_;refine A8 (D0 0 1) (A1 ?_);refine A2 E (bx_ λb2=>?_);refine A2 E (bx_ λb3=>?_);refine as_ (A0 (D0 2 3) ?_);refine C8 [0,1,2,3,4,6] [(0,0),(1,1),(3,1),(2,2),(4,2),(5,2),(6,0)] kR kR λhs=>?_;refine fQ_ E (qf_ 1 1) ?_;refine fR_ E ql_ ?_;refine fR_ E (F1 (n:=16) (vs:=(Zd vs p r u vk vg e)) E kR Cc E (D1 [] (Zd vs p r u vk vg e) [])) ?_;refine G5 E (aS E a0) kR (B76 vw x.wi _ (hx.wi.mono qS)) E ?_;rintro v7 M7 J7 hs7;haveI:=hs7.cel;refine G5 E (aS E a0) kR (C1l e vs p r u vk vg _ (he_.mono qS) qO) E ?_;rintro v9 M9 J9 ⟨rfl,h9⟩;haveI:=h9.cel;have h9l:=A6W [] e;have hwl:=hx.wi.len;refine G1 E E E (H4 (e:=5) (sz:=1) (by_:=1) E E kR E hs7 (h9.rd.mono qS) E9 qP (by unfold maxLen;simp at h9l;omega) (by simp at h9l;omega) E λv10 B10 hs10=>?_);haveI:=hs10.cel;refine fA_ E E (E0 (D4 4) (A9 ?_));exact ⟨_,[],B10,H8 E E,Ch qP qZ,E,⟨A0C (hs10.rd λz hz=>by simp [hz]) (by rw [An]) (by rw [H6]),(λz hz=>(List.mem_append.1 hz).elim (hx.wi.lt z) (h9.lt z)),by rw [An];simp at h9l;omega⟩⟩

structure OpnH(s:Ps)(r:Rsd)(hk:LN)(hp hn:Nat):Prop where
  sel:W5 s.ts
  k1:∀k,A5T r.sks hk hn=some k->Kok s k
  s2:W5 (opD (opB s r hk hp) hn).ts
  k2:Kok (opD (opB s r hk hp) hn) (A4b (opB s r hk hp) hn)
def K32(w:LN):Prop:=(∀x∈w,x<256)∧w.length=32
def KK(s:Ps)(w:LN):Prop:=Kok s w∧K32 w
structure GS(s:Ps):Prop where
  tok:Tok s.ts
  sel:W5 s.ts
theorem KK.ext{s s':Ps}{w:LN}(h:KK s w)(he:Pext s s'):KK s' w:=⟨h.1.ext he,h.2⟩
theorem KK.rok{s:Ps}{w:LN}(h:KK s w):s.real=false->Rok s.ts w:=h.1.rok
theorem A9e(i:Int):K32 (bts i):=⟨B6B _,A0Q _ qD⟩
theorem B77(s:Ps):K32 (F3 s):=by
  cases hr:s.real with
  | true =>
    rw [A6s hr,B4c,A6H];exact ⟨A4n _ _,A03 _ _⟩
  | false=>rw [A33 hr];exact A9e _
theorem W5.fresh(h:W5 s.ts):W5 (E7 s).ts:=by
  cases hr:s.real with
  | true=>rw [A6r hr];exact h
  | false=>rw [A2V hr];exact h.not (show (1:Nat)≠6 by decide)
theorem W5.pub(h:W5 s.ts)(w:LN):W5 (H7 s w).ts:=by
  unfold H7;split
  . exact h
  . exact (h.rd w).not (show (3:Nat)≠6 by decide)
theorem C5s(ts:List Tm)(s o:Int):(agT ts s o).kind=4:=by unfold agT;split<;>(try split)<;>(try split)<;>rfl
theorem W5.agr(h:W5 s.ts)(a B:LN):W5 (L0 s a B).ts:=by
  unfold L0;split
  . exact h
  . exact ((h.rd a).rd B).not (by rw [C5s];decide)
theorem W5.der(h:W5 s.ts)(key:LN)(ws:List (LN))(lb:LN)(n:Nat):W5 (A34 s key ws lb n).ts:=by
  cases hr:s.real with
  | true=>rw [A5F hr];exact h
  | false =>
    rw [A3B hr]
    have h1:∀(ws:List (LN)) (st:List Tm×List Int),W5 st.1->W5 (ws.foldl A0B st).1:=by
      intro ws
      induction ws with
      | nil=>intro st h;exact h
      | cons w ws ih=>intro st h;exact ih _ (h.rd w)
    have h2:∀(ts:List Tm) (ofs:List Int) (n:Nat),W5 ts->W5 (N7 ts ofs lb n).1:=by
      intro ts ofs n
      induction n with
      | zero=>exact id
      | succ n ih =>
        intro h;rw [show N7 ts ofs lb (n+1)=B1q ofs lb (N7 ts ofs lb n) n from Q4 n];exact (ih h).not (show (5:Nat)≠6 by decide)
    exact h2 _ _ n (h1 (key::ws) (s.ts,[]) h)
theorem B5n(h:GS s)(hn:s.n<1000000000):GS (E7 s)∧KK (E7 s) (F3 s):=by
  obtain ⟨h1,h2⟩:=B2L h.tok qO;refine ⟨⟨?_,h.sel.fresh⟩,h1,B77 s⟩
  cases hr:s.real with
  | true=>rw [A6r hr];exact h.tok
  | false=>exact h2 hr
theorem B78{w:LN}(h:GS s)(hw:KK s w)(hl:s.ts.length<=1040000):GS (H7 s w)∧S9 (H7 s w) w (I6 s w):=by obtain ⟨h1,-,h3⟩:=C3t hw.1 h.tok qO;exact ⟨⟨h3,h.sel.pub w⟩,h1⟩
variable{b B:LN}
theorem S9.k32(h:S9 s b B):K32 B:=by
  unfold S9 at h;split at h
  . rw [h];exact ⟨B3N _ _,A1F _ _⟩
  . obtain ⟨i,j,-,-,-,rfl⟩:=h;exact A9e _
theorem S9.kk(h:S9 s b B):KK s B:=⟨h.kok.2,h.k32⟩
variable{a:LN}
theorem A3l.kk{k:LN}(h:A3l s a b k):KK s k:=by
  cases hr:s.real with
  | true =>
    rw [A3l.t hr] at h;exact ⟨λh2=>(by rw [hr] at h2;cases h2),by rw [h.1];exact ⟨B3N _ _,A1F _ _⟩⟩
  | false =>
    rw [A3l.f hr] at h;obtain ⟨i,j,m,-,-,-,-,h5,rfl⟩:=h;exact ⟨λ_=>⟨m,(Ac.1 h5).1,E⟩,A9e _⟩
theorem C5t(h:GS s)(ha:KK s a)(hB:S9 s b B)(hb:K32 b)(hl:s.ts.length<=1040000):GS (L0 s a B)∧A3l (L0 s a B) a b (A08 s a B):=by obtain ⟨h1,h2⟩:=C3u ha.1 hB h.tok qO ha.2.1 hb.1;exact ⟨⟨h2,h.sel.agr a B⟩,h1⟩
def B5o(s:Ps)(key:LN)(ws:List (LN))(lb:LN)(n:Nat)(L:List (LN)):Prop:=A34 s key ws lb n=s∧A4z s key ws lb n=L∧∀w∈key::ws,KK s w
theorem C3X{lb:LN}{ws:List (LN)}(h:GS s)(hk:∀w∈key::ws,KK s w)(hb:B256 lb)(hbl:lb.length<=1000)(hn:n<=8)(hl:s.ts.length+ws.length<=1040000) :
    GS (A34 s key ws lb n)∧(∀i,i<n->KK (A34 s key ws lb n) ((A4z s key ws lb n).getD i []))∧B5o (A34 s key ws lb n) key ws lb n (A4z s key ws lb n):=by
  have hr:s.real=false->∀w∈key::ws,Rok s.ts w:=λhr w hw=>(hk w hw).rok hr;have ht:=C01 h.tok hr hb hbl (show n<=100 by omega) qO;have he:=A76 s key ws lb n;have hlen:=A2X s key ws lb n;obtain ⟨a,b⟩:=A77 h.tok hr hb hbl (show n<=100 by omega) qO (Pext.refl _) ht qO;exact ⟨⟨ht,h.sel.der _ _ _ _⟩,λi hi=>⟨C02 h.tok hr hb hbl qO qO hi,C04 hn hi⟩,a,b,λw hw=>(hk w hw).ext he.p⟩
theorem B5o.ext{s s':Ps}{key lb:LN}{ws:List (LN)}{n:Nat}{L:List (LN)}(h:B5o s key ws lb n L)(he:Pext s s')(hg:GS s)(hg':GS s')(hb:B256 lb)(hbl:lb.length<=1000)(hn:n<=8)(hl:s'.ts.length+ws.length<=1040000):B5o s' key ws lb n L:=by
  obtain ⟨l,e⟩:=he.ts;have hle:s.ts.length<=s'.ts.length:=by rw [e,An];omega
  have hr:s.real=false->∀w∈key::ws,Rok s.ts w:=λhr w hw=>(h.2.2 w hw).rok hr;obtain ⟨a,b⟩:=A77 hg.tok hr hb hbl (show n<=100 by omega) qO (by rw [h.1];exact he) hg'.tok qO;exact ⟨a,b.trans h.2.1,λw hw=>(h.2.2 w hw).ext he⟩
theorem B5p:B256 A2w:=⟨by decide⟩
theorem B5q:B256 A26:=⟨by decide⟩
structure TrnAt(s:Ps)(root a b R C:LN):Prop where
  ex:∃k L,A3l s a b k∧B5o s root [k] A2w 2 L∧L.getD 0 []=R∧L.getD 1 []=C
theorem B5r(s:Ps)(root sec pub:LN):Ext s (A43 s root sec pub):=(B4a s sec pub).trans (A76 _ _ _ _ _)
theorem C3Y(s:Ps)(a B:LN):(L0 s a B).ts.length<=s.ts.length+3:=T0 s a B
theorem C1V{root:LN}(h:GS s)(hr:KK s root)(ha:KK s a)(hB:S9 s b B)(hb:K32 b)(hl:s.ts.length<=1030000) :
    GS (A43 s root a B)∧KK (A43 s root a B) (A8t s root a B)∧KK (A43 s root a B) (A8f s root a B)∧TrnAt (A43 s root a B) root a b (A8t s root a B) (A8f s root a B):=by
  obtain ⟨h1,h2⟩:=C5t h ha hB hb qO;have hle:=C3Y s a B
  obtain ⟨g1,g2,g3⟩:=C3X (key:=root) (ws:=[A08 s a B]) (lb:=A2w) (n:=2) h1 (λw hw=>by
    rcases List.mem_cons.1 hw with rfl|hw
    . exact hr.ext (B4a s a B).p
    . rw [List.mem_singleton.1 hw];exact h2.kk) B5p qD qD (by show _+1<=_;omega)
  exact ⟨g1,g2 0 qD,g2 1 qD,⟨_,_,h2.ext (A76 _ _ _ _ _).p,g3,E,E⟩⟩
theorem TrnAt.ext{s s':Ps}{root a b R C:LN}(h:TrnAt s root a b R C)(he:Pext s s')(hg:GS s)(hg':GS s')(hl:s'.ts.length<=1030000):TrnAt s' root a b R C:=by obtain ⟨k,L,h1,h2,h3,h4⟩:=h.ex;exact ⟨k,L,h1.ext he,h2.ext he hg hg' B5p qD qD (by show _+1<=_;omega),h3,h4⟩
theorem TrnAt.eq{s:Ps}{root a b B R C:LN}(h:TrnAt s root a b R C)(hB:S9 s b B)(hg:GS s)(hl:s.ts.length<=1030000):A43 s root a B=s∧A8t s root a B=R∧A8f s root a B=C:=by obtain ⟨k,L,h1,h2,h3,h4⟩:=h.ex;obtain ⟨e1,e2⟩:=h1.eq hB hg.tok qO;unfold A8t A8f C3K A43;rw [e1,e2,h2.1,h2.2.1];exact ⟨E,h3,h4⟩
def A5a(s:Ps)(c k c':LN):Prop:=∃L,B5o s c [] A26 2 L∧L.getD 0 []=k∧L.getD 1 []=c'
theorem A8h{c:LN}(h:GS s)(hc:KK s c)(hl:s.ts.length<=1030000):GS (Z0 s c)∧KK (Z0 s c) (X5 s c)∧KK (Z0 s c) (A1b s c)∧A5a (Z0 s c) c (X5 s c) (A1b s c):=by obtain ⟨g1,g2,g3⟩:=C3X (key:=c) (ws:=[]) (lb:=A26) (n:=2) h (λw hw=>by rw [List.mem_singleton.1 hw];exact hc) B5q qD qD (by show _+0<=_;omega);exact ⟨g1,g2 0 qD,g2 1 qD,_,g3,E,E⟩
theorem A9f(s:Ps)(c:LN):Ext s (Z0 s c):=A76 _ _ _ _ _
theorem A5a.ext{s s':Ps}{c k c':LN}(h:A5a s c k c')(he:Pext s s')(hg:GS s)(hg':GS s')(hl:s'.ts.length<=1030000):A5a s' c k c':=by obtain ⟨L,h1,h2,h3⟩:=h;exact ⟨L,h1.ext he hg hg' B5q qD qD (by show _+0<=_;omega),h2,h3⟩
theorem A5a.eq{c k c':LN}(h:A5a s c k c'):Z0 s c=s∧X5 s c=k∧A1b s c=c':=by obtain ⟨L,h1,h2,h3⟩:=h;unfold X5 A1b C5l Z0;rw [h1.1,h1.2.1];exact ⟨E,h2,h3⟩
theorem C3Z(s:Ps)(w a b:LN):Ext s (B1t s w a b):=by
  unfold B1t;split
  . exact Ext.refl s
  . exact ⟨⟨E,A91 _ _ _⟩,E,Av _⟩
theorem C5u{w:LN}(h:GS s)(hw:KK s w)(ha:∀x∈a,x<256)(hb:∀x∈b,x<256)(la:a.length<=16777216)(lb:b.length<=16777216)(hl:s.ts.length<=1030000):GS (B1t s w a b):=by
  unfold B1t;split
  . exact h
  . rename_i hr;obtain ⟨i,hi,rfl⟩:=hw.1 (by cases hq:s.real with|true=>exact absurd hq hr|false=>rfl);obtain ⟨e1,e2⟩:=C5i hi qO λx=>A3C x a b;rw [e1];obtain ⟨l,g1,g2,g3,g4⟩:=A4A (B2N (x:=((i:Nat):Int)) (A6N qO) ha hb la lb) h.tok;exact ⟨g4,h.sel.add λ_=>⟨_,a,b,E,hb,lb⟩⟩
theorem B0n(s:Ps)(w a b:LN):(B1t s w a b).ts.length<=s.ts.length+2∧(B1t s w a b).n=s.n:=by
  unfold B1t;split
  . exact ⟨by omega,E⟩
  . refine ⟨?_,E⟩;have h1:=R9 (ts:=s.ts) (ws:=w);have h2:=A0P (ts:=rdT s.ts w) (t:=A3C ((rdI s.ts w:Nat):Int) a b);show (add (rdT s.ts w) (A3C ((rdI s.ts w:Nat):Int) a b)).length<=_;omega

def he0:He:=⟨[],[],[],0,false,0⟩
def A3K(x:Ses)(r2:Rsd):Ses:=⟨x.id,x.wi,he0,false,r2⟩
theorem B79:HeR R he0 (vS) (vS) (vS):=⟨By.nil,By.nil.i,By.nil,by decide,by decide⟩
set_option maxHeartbeats 1000000 in
theorem A9g(pb:Nat)(s:Ps)(x:Ses)(vi vw p0 r0 u0 vo vt vr vk0 vl vst:Value)(e:Ev)(vz p r u vk vg:Value)(s2:Ps)(r2:Rsd)(tx:LN)(MP A:Mem)(hP:Prm pb s MP)(hn_:s.ts.length+500<=1000000)(hsn:s.n<1000000000)(hx:SeR A x vi vw p0 r0 u0 vo vt vr vk0 vl vst)(he_:EvR A e vz p r u vk vg)(hid:x.id=e.ses)(hwi:x.wi.length<=1000000)(hel:e.ses.length+e.he.ia.length+e.he.ig.length+e.he.key.length<=1000000)(hfl:(x.wi++frW [] e).length+e.hk.length<=1000000)(hgl:e.g.length<=10000000)(hO:OpnH s x.r e.hk e.hp e.hn)(hoz:Q1 s x.r (x.wi++frW [] e) e.hk e.hp e.hn e.g=(s2,r2,0,tx))(hG:Glb A):FnX prog 14 [(vP pb),.agg (seC vi vw p0 r0 u0 vo vt vr vk0 vl vst x).toArray,.agg (evC vz p r u vk vg e).toArray] MP A λq M J=>∃wo wt wr wk wl wq q2,q=.tuple #[.agg (seC vi vw (vS) (vS) (vS) wo wt wr wk wl wq (A3K x r2)).toArray,q2,P0]∧Prm pb s2 M∧SeR (J++A) (A3K x r2) vi vw (vS) (vS) (vS) wo wt wr wk wl wq∧By (J++A) q2 tx:=by
 haveI:=he_.ses.cel;haveI:=he_.he.ia.cel;haveI:=he_.he.ig.cel;haveI:=he_.he.key.cel;haveI:=he_.hk.cel;haveI:=he_.g.cel;haveI:=hx.id.cel;haveI:=hx.wi.cel;haveI:=hx.he.ia.cel;haveI:=hx.he.ig.cel;haveI:=hx.he.key.cel;haveI:=hx.r.own.cel;haveI:=hx.r.their.cel;haveI:=hx.r.root.cel;haveI:=hx.r.sk.cel;haveI:=hx.r.tk.cel;haveI:=hx.r.st.cel;unfold seC evC;refine Cl (N:=45) func14 E E E λw_=>?_;refine A8 (D6 0 1 2) (A1 ?_);refine A2 E (bx_ λb4=>?_);refine A2 E (bx_ λb5=>?_);refine A2 E (C2 (cs:=[vS,vS,vS,vS,vS,D3,.bool false,D3,.bool false,vS,vS,vS,vS,D3,vS,D3,D3,.pointer none]) kR E λb6=>?_);refine aS_ E (aS_ E (A0 (D7 0 4 5 6) (A3 (A1 (lQ_ (qf_ 0 0) ?_)))));refine lQ_ ql_ ?_;refine lQ_ (qf_ 4 4) ?_;refine lQ_ ql_ ?_;refine E6 (aS E (aS E a0)) kR (A1a vi vz x.id e.ses _ (hx.id.mono qS) (he_.ses.mono qS)) E ?_;rw [decide_eq_true hid];refine lQ_ (U2 E) (A0 (F2 0 4 5 6 17) ?_);refine C7 E ?_;refine A6 (nx (D7 0 4 5 6) ?_);refine F8 (MP) (_) true [0,1,2,3,4,5,6,7,8,9,10,11,12,13,14,15,17,18] [(0,0),(1,0),(2,1),(3,1),(4,1),(6,0),(7,1),(8,0),(9,1),(5,8),(10,8),(11,8),(12,8),(15,8),(13,9),(14,10),(16,2),(17,0),(18,0)] kR kR qP λhs K n0 hKm hKs hKn=>?_;refine kM_ E E (kQ_ E (qf_ 9 9) ?_);refine I8 hs E hKs (F1 (n:=9) (vs:=(Za vo vt vr vk0 vl vst x.r)) E kR Cc E (D1 (Zb vi vw p0 r0 u0 x) (Za vo vt vr vk0 vl vst x.r) [])) ?_;refine I8 hs E hKs (F1 (n:=18) (vs:=(Zc vi vw p0 r0 u0 vo vt vr vk0 vl vst x)) E kR Cc E (D1 [] (Zc vi vw p0 r0 u0 vo vt vr vk0 vl vst x) [])) ?_;refine I8 hs E hKs (F1 (n:=16) (vs:=(Zd vz p r u vk vg e)) E kR Cc E (D1 [] (Zd vz p r u vk vg e) [])) ?_;refine kQ_ E (qf_ 12 12) ?_;refine I8 hs E hKs (F1 (n:=3) (vs:=[vk,(vU e.hp),(vU e.hn)]) E kR Cc E (D1 [.int .i64 e.fu,.int .i64 e.fd,.int .i64 e.tu,.int .i64 e.td,vz,.bool e.has,p,r,u,(vU e.he.signed),.bool e.he.has,(vU e.he.once)] [vk,(vU e.hp),(vU e.hn)] [vg])) ?_;refine kQ_ E (qf_ 15 15) ?_;refine I8 hs E hKs ql_ ?_
 refine W2 [⟨5,25,none,[],λv B R=>B=[]∧By R v (x.wi++frW [] e)⟩,⟨10,30,none,MP,λv B R=>∃q1 q2,v=.tuple #[q1,q2,P0]∧Prm pb s2 B∧RsV R q1 r2∧By R q2 tx⟩,⟨11,19,none,[],λv B R=>B=[]∧∃q1 q2,v=.tuple #[q1,q2,P0]∧RsV R q1 r2∧By R q2 tx⟩,⟨12,31,none,[],λv B R=>B=[]∧RsV R v r2⟩,⟨15,9,none,[],λv B _=>∃b,v=(vP b)∧B=[(b,blk [vS,vS,vS,vS,D3,vS,D3,D3,.pointer none] 47)]⟩] [⟨13,32,none,[],λv B R=>B=[]∧By R v tx⟩,⟨14,33,none,[],λv B R=>B=[]∧v=.int .i64 0⟩] ([(b6,blk Ze 49),(b5,blk (Zd vz p r u vk vg e) 36),(b4,blk (Zc vi vw p0 r0 u0 vo vt vr vk0 vl vst x) 49)]) (λbs=>[bs 5,bs 10,bs 11,bs 12,bs 15,bs 13,bs 14]) (hKn E) (by simp [U1,A0D]) (show ∀m∈([[],MP,[],[],[],[],[]]:List Mem),∀x∈m,K x.1 from A4 gn0 (A4 (hKm) (A4 gn0 (A4 gn0 (A4 gn0 (A4 gn0 (A4 gn0 (I5)))))))) kR (λ_=>by first|rfl|kernel_rfl)
  (A4 (λ_ _ _ _ h hp=>⟨hp.1,hp.2.mono h⟩) (A4 (λ_ _ _ _ h ⟨q1,q2,e_,p1,p2,p3⟩=>⟨q1,q2,e_,p1,p2.mono h,p3.mono h⟩) (A4 (λ_ _ _ _ h ⟨e0,q1,q2,e_,p2,p3⟩=>⟨e0,q1,q2,e_,p2.mono h,p3.mono h⟩) (A4 (λ_ _ _ _ h hp=>⟨hp.1,hp.2.mono h⟩) (A4 gM (A4 (λ_ _ _ _ h hp=>⟨hp.1,hp.2.mono h⟩) (A4 gM (I5)))))))) nd_ nd_ dl_
  hs (List.cons_ne_nil _ _) (gC ?_ (gC ?_ (gC ?_ (gC ?_ (gC ?_ (I5)))))) (A4 ⟨E,E,_,_,_,_,E,λvs bs Rj hj ha=>?_⟩ (A4 ⟨E,E,_,_,_,_,E,λvs bs Rj hj ha=>?_⟩ (I5))) ?_
 . intro _ _ _ Rj _ _ hj hjr _;dsimp only [Gc.inp];refine E2 (aS E (aS E a0)) kR (FnX.amb (A:=Rj) (λx hx=>by have:=hjr x hx;simp [this]) (A67 x vi vw p0 r0 u0 vo vt vr vk0 vl vst e vz p r u vk vg Rj (hx.mono (λx hx=>hj x (qS x hx))) (he_.mono (λx hx=>hj x (qS x hx))) hwi hel)) E ?_;rintro r M1 J1 ⟨rfl,hh⟩;exact ⟨_,E,E,hh.mono λx hx=>by simp [hx]⟩
 . intro _ _ R Rj _ _ hj hjr ha;dsimp only [Gc.inp];have g5:=gx 0 ha;dsimp only at g5;obtain ⟨-,h5⟩:=g5;haveI:=h5.cel;refine C9 (Mc:=MP) (R:=[]) (aS E (aS E (aS E (aS E (aS E (a0)))))) kR qM (FnX.amb (A:=Rj) (λx hx=>by have:=hjr x hx;simp [this]) (C1U pb s x.r vo vt vr vk0 vl vst _ vk vg (x.wi++frW [] e) e.hk e.g e.hp e.hn MP Rj hP hn_ hsn (hx.r.mono (λx hx=>hj x (qS x hx))) h5 (he_.hk.mono (λx hx=>hj x (qS x hx))) hfl he_.hp he_.hn (he_.g.mono (λx hx=>hj x (qS x hx))) hgl hO.sel hO.k1 hO.s2 hO.k2 (hG.sub (λx hx=>hj x (qS x hx))))) E ?_;rintro v27 M27 J27 ⟨q1,q2,rfl,hP27,p2,p3⟩;rw [hoz] at hP27 p2 p3 ⊢;exact ⟨_,E,q1,q2,E,by simpa using hP27,p2.mono (λx hx=>by simpa using hx),p3.mono (λx hx=>by simpa using hx)⟩
 . intro _ _ _ _ _ _ _ _ ha;dsimp only [Gc.inp];have g10:=gx 1 ha;dsimp only at g10;obtain ⟨q1,q2,e_,-,k⟩:=g10;exact Cn qm_ E ⟨_,E,E,q1,q2,e_,k⟩
 . intro vs bs _ _ _ _ _ _ ha;dsimp only [Gc.inp];have g11:=gx 2 ha;dsimp only at g11;obtain ⟨-,q1,q2,e_,k,-⟩:=g11;exact Cn (G6 (vs:=#[q1,q2,P0]) (by rw [<- e_];rfl) E) E ⟨_,E,E,k⟩
 .
  intros
  dsimp only [Gc.inp]
  exact C2 (cs:=[vS,vS,vS,vS,D3,vS,D3,D3,.pointer none]) kR E λb=>⟨_,E,b,E,E⟩
 . have g11:=gx 2 ha;dsimp only at g11;obtain ⟨-,q1,q2,e_,-,k⟩:=g11;exact ⟨_,G6 (vs:=#[q1,q2,P0]) (by rw [<- e_];rfl) E,E,k⟩
 . have g11:=gx 2 ha;dsimp only at g11;obtain ⟨-,q1,q2,e_,-⟩:=g11;exact ⟨_,G6 (vs:=#[q1,q2,P0]) (by rw [<- e_];rfl) E,E,E⟩
 intro vs bs Jn0 hφ hKK;clear hKK;have g5:=gy 0 hφ;have g10:=gy 1 hφ;have g11:=gy 2 hφ;have g12:=gy 3 hφ;have g15:=gy 4 hφ;have g13:=gy 5 hφ;have g14:=gy 6 hφ;dsimp only at g5 g10 g11 g12 g15 g13 g14;clear hφ;dsimp only [P7,U1,List.foldr,List.map,Cu,Ct];generalize bs 5=B25,bs 10=B30,bs 11=B19,bs 12=B31,bs 15=B9,bs 13=B32,bs 14=B33,vs 5=u25,vs 10=u30,vs 11=u19,vs 12=u31,vs 15=u9,vs 13=u32,vs 14=u33 at *;obtain ⟨-,-,-,hP27,-⟩:=g10;clear g11;obtain ⟨rfl,h25⟩:=g5;obtain ⟨rfl,wo,wt,wr,wk,wl,wq,rfl,hn1⟩:=g12;obtain ⟨rfl,h29⟩:=g13;obtain ⟨rfl,rfl⟩:=g14;obtain ⟨b9,rfl,rfl⟩:=g15;haveI:=hn1.own.cel;haveI:=hn1.their.cel;haveI:=hn1.root.cel;haveI:=hn1.sk.cel;haveI:=hn1.tk.cel;haveI:=hn1.st.cel;haveI:=h29.cel;unfold rsC;refine K1 E E E (A5 (vs:=(Za wo wt wr wk wl wq r2)) E E E kR qR (A4 hn1.own.one (A4 hn1.their.one (A4 hn1.root.one (A4 hn1.sk.one (A4 E (A4 hn1.tk.one (A4 E (A4 E (A4 hn1.st.one I5))))))))) Cs ?_);refine kQ_ E (G3 E) (kQ_ E (G3 E) (I1 (F2 4 6 9 10 11) (A3 (A1 (mV_ E (lQ_ (F5 false E E (neF E)) (A0 (G7 4 6 9 10 11 35) ?_)))))));refine C7 E ?_;refine A6 (nx (D7 4 6 9 10) (A1 (lQ_ (F1 (n:=9) (vs:=(Za wo wt wr wk wl wq r2)) E kR Cc E (D1 [] (Za wo wt wr wk wl wq r2) [])) ?_)));refine lQ_ (F0 (place:=λx=>#[(0,2),(2,1),(3,1),(4,1),(5,1)][x]?) (z:=[vS,vS,vS,D3,.bool false,D3]) (λ_=>by kernel_rfl) e0 bd0) ?_;refine lQ_ (qf_ 9 9) ?_;refine A2 E (K3 (vs:=(Za wo wt wr wk wl wq r2)) (cs':=[vi,vw,p0,r0,u0,(vU x.he.signed),.bool x.he.has,(vU x.he.once),.bool x.tell,wo,wt,wr,wk,(vU r2.sn),wl,(vU r2.tn),(vU r2.prev),wq]) E E E kR (by exact (show 9+9<=18 by decide)) (A4 hn1.own.one (A4 hn1.their.one (A4 hn1.root.one (A4 hn1.sk.one (A4 E (A4 hn1.tk.one (A4 E (A4 E (A4 hn1.st.one I5))))))))) E Cs ?_);refine lQ_ (qf_ 8 8) ?_;refine A2 E (E4 E E E kR Cq Cs ?_);refine lQ_ (qf_ 2 2) ?_;refine A2 E (K3 (vs:=[vS,vS,vS,D3,.bool false,D3]) (cs':=[vi,vw,vS,vS,vS,D3,.bool false,D3,.bool false,wo,wt,wr,wk,(vU r2.sn),wl,(vU r2.tn),(vU r2.prev),wq]) E E E kR (by exact (show 2+6<=18 by decide)) al6 E Cs ?_);refine A0 (D6 4 6 10) (A1 (lQ_ (F1 (n:=18) (vs:=[vi,vw,vS,vS,vS,D3,.bool false,D3,.bool false,wo,wt,wr,wk,(vU r2.sn),wl,(vU r2.tn),(vU r2.prev),wq]) E kR Cc E (D1 [] [vi,vw,vS,vS,vS,D3,.bool false,D3,.bool false,wo,wt,wr,wk,(vU r2.sn),wl,(vU r2.tn),(vU r2.prev),wq] [])) (mv_ ?_)));refine A2 E (A5 (vs:=[vi,vw,vS,vS,vS,D3,.bool false,D3,.bool false,wo,wt,wr,wk,(vU r2.sn),wl,(vU r2.tn),(vU r2.prev),wq]) E E E kR qR (A4 hx.id.one (A4 hx.wi.one (A4 E (A4 E (A4 E (A4 E (A4 E (A4 E (A4 E (A4 hn1.own.one (A4 hn1.their.one (A4 hn1.root.one (A4 hn1.sk.one (A4 E (A4 hn1.tk.one (A4 E (A4 E (A4 hn1.st.one I5)))))))))))))))))) Cs ?_);refine as_ (as_ (A0 (D6 6 7 8) (A9 ?_)));exact ⟨_,B30,[],A3J (n:=18) E E E E kR Cc qR,Cg (Cf qP),wo,wt,wr,wk,wl,wq,_,E,hP27,⟨hx.id.mono qS,hx.wi.mono qS,B79,(show 0<=1000000 by decide),hn1.mono qS⟩,h29.mono qS⟩

end Go.Proofs.YtglbhoeolghndaaGreatDoor
