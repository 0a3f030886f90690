/- Part 2 of the texts of this claim, one behind the other. -/
import Derived.Test.YtglbhoeolghndaaGreatDoorB1
import Derived.Test.YtglbhoeolghndaaGreatDoorRows
import Derived.Laws.BytesString
import Derived.Laws.MakeOwn
import Derived.LoopN
set_option linter.unusedVariables false
set_option linter.unusedSimpArgs false
set_option maxRecDepth 100000
namespace Go
open Go.Px
abbrev Cc:=@At.mem
abbrev Cd:=@Cel.cel
abbrev Ce:=@Fit.eq
abbrev Ci:=@Fit.sub
abbrev Ck:=@FnX.enter
abbrev Cn:=@OpQ.opL
abbrev Co:=@Rd.whole
abbrev Cq:=@SetC.set
abbrev Cs:=@UpC.upd
end Go
open Go.Proofs.Tryz
namespace Go.Proofs.YtglbhoeolghndaaGreatDoor
open Go.Px
theorem X8(x n:Nat)(k:Int)(A:Mem)(hx:x<4294967296)(h0:0<n)(hn:n<32)(hk:k = -(n:Int)):FnV prog 156 [.int .u32 (x:Int),.int .i64 k] A (.int .u32 (rotr x n:Nat)):=by refine Ck (N:=17) func156 E E E λw=>?_;refine A8 (D0 0 1) (A1 (as_ (A0 (D0 0 1) (A1 (mv_ ?_)))));refine lQ_ (Z3 (k':=.u64) ((18446744073709551616-n:Nat):Int) E kR (by unfold IntKind.wrap;simp [IntKind.bits,IntKind.signed];omega)) ?_;refine lQ_ (D5 ((32-n:Nat):Int) E E ((C4P (k:=.u64) (b:=31) E (by show _<2^64;omega) qD).trans (by rw [Nat.and_two_pow_sub_one_eq_mod _ 5,show (18446744073709551616-n)%2^5=32-n by omega]))) ?_;refine as_ (A0 (D0 0 5) (A1 (mv_ (mv_ ?_))));refine lQ_ (A1n (32-n) E E E qO) ?_;refine mv_ (mv_ ?_);refine lQ_ (D5 ((n:Nat):Int) E E ((C4O (k:=.u64) (a:=32) (b:=32-n) E n (by show _<=2^64;omega) (by show (32+(18446744073709551616-(32-n)))%18446744073709551616=n;omega)))) ?_;refine lQ_ (T9 n E E E (by show n<=32;omega)) ?_;refine lQ_ (A3v E E U9 (B1H hx)) (as_ (A0 (D4 4) (A9 ?_)));exact ⟨_,[],[],H8 E E,Aa _,by simp,by rw [Nat.or_comm];rfl,E,E⟩
abbrev A7n(s:S8):List Value:=[.int .u32 (s.a:Int),.int .u32 (s.b:Int),.int .u32 (s.c:Int),.int .u32 (s.d:Int),.int .u32 (s.e:Int),.int .u32 (s.f:Int),.int .u32 (s.g:Int),.int .u32 (s.h:Int)]
def A4i(s r:S8)(i:Nat):LN:=(s.plus r).list.take i++s.list.drop i
theorem A5r(s r:S8)(i:Nat)(h:i<=8):(A4i s r i).length=8:=by simp [A4i,S8.list];omega
theorem B0z(s r:S8)(i:Nat)(h:i<8):(A4i s r i).getD i 0=s.list.getD i 0:=by
  have:i=0∨i=1∨i=2∨i=3∨i=4∨i=5∨i=6∨i=7:=by omega
  rcases this with rfl|rfl|rfl|rfl|rfl|rfl|rfl|rfl<;>rfl
theorem A8B(s r:S8)(i:Nat)(h:i<8):(A4i s r i).set i ((s.list.getD i 0+r.list.getD i 0)%4294967296)=A4i s r (i+1):=by
  have:i=0∨i=1∨i=2∨i=3∨i=4∨i=5∨i=6∨i=7:=by omega
  rcases this with rfl|rfl|rfl|rfl|rfl|rfl|rfl|rfl<;>rfl
theorem B1I{w:LN}{us:LN}{i:Nat}(h:w.length=i)(h16:16<=i)(h64:i<64) :
    ((((w++us).getD (i-16) 0+sg0 ((w++us).getD (i-15) 0))%4294967296+(w++us).getD (i-7) 0)%4294967296+sg1 ((w++us).getD (i-2) 0))%4294967296=B6c w i:=by
  rw [A3U qO,A3U qO,A3U qO,A3U qO];rfl
theorem A5s(s:S8)(hs0:s.ok)(p:LN)(hb:∀x∈p,x<256)(v:Value)(A:Mem)(hv:Rd A 1 v 64 (nums .u8 p)){ek:TypeId}{fk:Nat×Nat}(hk:(1,Obj.cells (nums .u32 A2x).toArray ek fk)∈A) :
  FnV prog 121 [.agg (nums .u32 s.list).toArray,v] A (.agg (nums .u32 (X7 A2x s p).list).toArray):=by
 have hg:∀j,p.getD j 0<256:=λj=>getD_lt hb qD;refine Ck (N:=207) func121 E E E λw=>?_;refine A8 (D0 0 1) (A1 ?_);refine A2 E (B5X (cs:=nums .u32 s.list) E E E λb2=>?_);refine A2 E (C2 (cs:=[D3,D3,D3,D3,D3,D3,D3,D3]) kR E λb4=>?_);refine A0 (D6 1 2 4) (A1 ?_);refine A2 E (C2 (cs:=nums .u32 (List.replicate 64 0)) kR E λb5=>?_);refine A0 (D7 1 2 4 5) (A3 (A1 (mv_ (A0 (F2 1 2 4 5 20) (A7 ?_)))));obtain ⟨bp,op,cp,csp,ep,frp,rfl,hmem,hcs⟩:=hv.nums qD;refine E5 (α:=Nat) (λi=>[(1,.slice (some ⟨bp,op,none⟩) 64 cp),(2,(vP b2)),(4,(vP b4)),(5,(vP b5)),(20,.int .i64 (i:Int))]) (λi=>[(b5,blk (nums .u32 (A0e p i++List.replicate (64-i) 0)) _),(b4,blk (A7n ⟨0,0,0,0,0,0,0,0⟩) _),(b2,blk (nums .u32 s.list) _)]) (λ_=>[]) (λi=>i<=16) (λi=>16-i) 0 (Am _) (F2 1 2 4 5 20) .rfl qI ?_;intro i hi
 try dsimp only at hi ⊢
 refine A1 (lQ_ (E8 E E E) (A0 (G7 1 2 4 5 20 21) (A3 ?_)));refine C3 E ?_ ?_<;>intro hc
 .
  have hlt:i<16:=by simp at hc;omega
  refine A6 (nx (F2 1 2 4 5 20) (A3 (A7 (A1 (mv_ (as_ (A0 (G7 1 2 4 5 6 20) ?_)))))));refine A2z (_) [0,1,2,3,4,5,6,7,8,9,10,11,12,13,14,15,16,17,18,19,20,21,22,23,24,25,26,27,28,29,30,31,32,33,34] [(0,0),(1,0),(2,0),(3,0),(4,0),(5,1),(6,0),(7,0),(8,0),(9,0),(10,0),(11,0),(12,0),(13,1),(14,0),(15,0),(16,0),(17,0),(18,0),(19,0),(20,0),(21,0),(22,1),(23,0),(24,0),(25,0),(26,0),(27,0),(28,0),(29,0),(30,0),(31,1),(32,0),(33,0),(34,0),(35,2)] kR kR qI λhs=>?_;refine L9 hs E qm_ E ?_;refine L9 hs E qm_ E ?_;refine L9 hs E qm_ E ?_;refine L9 hs E (D5 ((4*i:Nat):Int) E E (A11 qO qO qO)) E ?_;refine L9 hs E (L8 (i:=4*i) (e:=5) (sz:=1) E E kR kR E qO) E ?_;refine A5e hs E (I0 E kR (mA hmem) (hcs (4*i) qO)) E ?_;refine L9 hs E (A14 (k':=.u32) E kR (by show _<2147483648;have:=hg (4*i);omega)) E ?_;refine L9 hs E (A1n 24 E E E qD) E ?_;refine L9 hs E qm_ E ?_;refine L9 hs E qm_ E ?_;refine L9 hs E (D5 ((4*i:Nat):Int) E E (A11 qO qO qO)) E ?_;refine L9 hs E (D5 ((4*i+1:Nat):Int) E E (F7 qO qO qO)) E ?_;refine L9 hs E (L8 (i:=4*i+1) (e:=5) (sz:=1) E E kR kR E qO) E ?_;refine A5e hs E (I0 E kR (mA hmem) (hcs (4*i+1) qO)) E ?_;refine L9 hs E (A14 (k':=.u32) E kR (by show _<2147483648;have:=hg (4*i+1);omega)) E ?_;refine L9 hs E (A1n 16 E E E qD) E ?_;refine L9 hs E (A3v E E U9 U9) E ?_;refine L9 hs E qm_ E ?_;refine L9 hs E qm_ E ?_;refine L9 hs E (D5 ((4*i:Nat):Int) E E (A11 qO qO qO)) E ?_;refine L9 hs E (D5 ((4*i+2:Nat):Int) E E (F7 qO qO qO)) E ?_;refine L9 hs E (L8 (i:=4*i+2) (e:=5) (sz:=1) E E kR kR E qO) E ?_;refine A5e hs E (I0 E kR (mA hmem) (hcs (4*i+2) qO)) E ?_;refine L9 hs E (A14 (k':=.u32) E kR (by show _<2147483648;have:=hg (4*i+2);omega)) E ?_;refine L9 hs E (A1n 8 E E E qD) E ?_;refine L9 hs E (A3v E E (B5M U9 U9) U9) E ?_;refine L9 hs E qm_ E ?_;refine L9 hs E qm_ E ?_;refine L9 hs E (D5 ((4*i:Nat):Int) E E (A11 qO qO qO)) E ?_;refine L9 hs E (D5 ((4*i+3:Nat):Int) E E (F7 qO qO qO)) E ?_;refine L9 hs E (L8 (i:=4*i+3) (e:=5) (sz:=1) E E kR kR E qO) E ?_;refine A5e hs E (I0 E kR (mA hmem) (hcs (4*i+3) qO)) E ?_;refine L9 hs E (A14 (k':=.u32) E kR (by show _<2147483648;have:=hg (4*i+3);omega)) E ?_;refine L9 hs E (A3v E E (B5M (B5M U9 U9) U9) (by have:=hg (4*i+3);omega)) E ?_;refine L9 hs E (F9 (i:=i) (e:=30) (n:=64) (sz:=1) E E kR kR E qO) E ?_;refine A2h E E E (K6 (ws:=A0e p i++List.replicate (64-i) 0) i E E kR qO (by simp [A4h];omega) Cs ?_);refine A7j ?_;refine nb (nx (F2 1 2 4 5 20) (C1 ?_));refine lQ_ (D5 ((i+1:Nat):Int) E E (F7 qO qO qO)) ?_;refine mv_ (C5 ?_);refine rn (i+1) qO qO (F2 1 2 4 5 20) (Ce ?_) qI;rw [B9R (hg _) (hg _) (hg _) (hg _),B1E (A4h p i) qO,B0y];rfl
 .
  have hlt:i=16:=by simp at hc;omega
  subst hlt;refine D8 (te (re (be E (nx (D6 2 4 5) (A3 (A1 (aS_ E (A0 (D7 2 4 5 7) (A7 ?_)))))))));generalize hW0:A0e p 16=W0;have hW0l:W0.length=16:=by rw [<- hW0];exact A4h _ _
  have hW0b:∀x∈W0,x<4294967296:=by rw [<- hW0];exact B6e hb _
  refine E5 (α:=Nat) (λi=>[(2,(vP b2)),(4,(vP b4)),(5,(vP b5)),(7,.int .i64 (i:Int))]) (λi=>[(b5,blk (nums .u32 (wx W0 (i-16)++List.replicate (64-i) 0)) _),(b4,blk (A7n ⟨0,0,0,0,0,0,0,0⟩) _),(b2,blk (nums .u32 s.list) _)]) (λ_=>[]) (λi=>16<=i∧i<=64) (λi=>64-i) 16 qD (D7 2 4 5 7) .rfl qI ?_;rintro i ⟨hi,hi2⟩;have hwl:=A7m W0 (i-16)
  have hwb:∀j,(wx W0 (i-16)++List.replicate (64-i) 0).getD j 0<4294967296:=λj=>getD_lt (λx hx=>by
   rcases List.mem_append.1 hx with hx|hx
   . exact B9Q hW0b _ _ hx
   . rw [(List.mem_replicate.1 hx).2];decide) qD
  have hll:(wx W0 (i-16)++List.replicate (64-i) 0).length=64:=by simp [A7m,hW0l];omega
  try dsimp only
  refine A3 (A1 (mV_ E (lQ_ (E8 E E E) (A0 (F2 2 4 5 7 60) ?_))));refine C3 E ?_ ?_<;>intro hc
  .
   have hlt:i<64:=by simp at hc;omega
   refine A6 (nx (D7 2 4 5 7) (A3 (A7 ?_)));refine A2g (_) [0,1,2,3,4,5,6,7,8,9] [(0,0),(1,0),(2,0),(3,1),(4,0),(5,0),(6,0),(7,1),(8,0),(9,0)] kR kR qI λhs=>?_;refine L9 hs E qm_ E ?_;refine L9 hs E (D5 ((i-15:Nat):Int) E E (W7 qO qO qO)) E ?_;refine L9 hs E (F9 (i:=i-15) (e:=30) (n:=64) (sz:=1) E E kR kR E qO) E ?_;refine A5e hs E (I3 (i-15) E kR Cc qO qO) E ?_;refine L9 hs E qm_ E ?_;refine L9 hs E (D5 ((i-2:Nat):Int) E E (W7 qO qO qO)) E ?_;refine L9 hs E (F9 (i:=i-2) (e:=30) (n:=64) (sz:=1) E E kR kR E qO) E ?_;refine A5e hs E (I3 (i-2) E kR Cc qO qO) E ?_;refine L9 hs E (G3 E) E ?_;refine L9 hs E (G3 E) E ?_;refine A4d (G7 2 4 5 7 8 9) ?_;refine A1 (mv_ ?_);refine B6a (aS E (aS E a0)) kR (X8 _ 7 _ _ (hwb _) qD qD E) E ?_;refine mv_ ?_;refine B6a (aS E (aS E a0)) kR (X8 _ 18 _ _ (hwb _) qD qD E) E ?_;refine lQ_ (U8 E E (Q5 (hwb _)) (Q5 (hwb _))) (mv_ ?_);refine lQ_ (T9 3 E E E qD) ?_;refine lQ_ (U8 E E (xor32 (Q5 (hwb _)) (Q5 (hwb _))) (B1H (hwb _))) (as_ (A0 (G7 2 4 5 7 9 10) (A1 (mv_ ?_))));refine B6a (aS E (aS E a0)) kR (X8 _ 17 _ _ (hwb _) qD qD E) E ?_;refine mv_ ?_;refine B6a (aS E (aS E a0)) kR (X8 _ 19 _ _ (hwb _) qD qD E) E ?_;refine lQ_ (U8 E E (Q5 (hwb _)) (Q5 (hwb _))) (mv_ ?_);refine lQ_ (T9 10 E E E qD) ?_;refine lQ_ (U8 E E (xor32 (Q5 (hwb _)) (Q5 (hwb _))) (B1H (hwb _))) (as_ (A0 (G7 2 4 5 7 10 11) ?_));refine A2z (_) [0,1,2,3,4,5,6,7,8,9,10,11,12,13,14] [(0,0),(1,0),(2,0),(3,0),(4,1),(5,0),(6,0),(7,0),(8,0),(9,0),(10,1),(11,0),(12,0),(13,0),(14,0),(15,2)] kR kR qI λhs=>?_;refine L9 hs E qm_ E ?_;refine L9 hs E qm_ E ?_;refine L9 hs E (D5 ((i-16:Nat):Int) E E (W7 qO qO qO)) E ?_;refine L9 hs E (F9 (i:=i-16) (e:=30) (n:=64) (sz:=1) E E kR kR E qO) E ?_;refine A5e hs E (I3 (i-16) E kR Cc qO qO) E ?_;refine L9 hs E qm_ E ?_;refine L9 hs E (A0r E E) E ?_;refine L9 hs E qm_ E ?_;refine L9 hs E (D5 ((i-7:Nat):Int) E E (W7 qO qO qO)) E ?_;refine L9 hs E (F9 (i:=i-7) (e:=30) (n:=64) (sz:=1) E E kR kR E qO) E ?_;refine A5e hs E (I3 (i-7) E kR Cc qO qO) E ?_;refine L9 hs E (A0r E E) E ?_;refine L9 hs E qm_ E ?_;refine L9 hs E (A0r E E) E ?_;refine L9 hs E (F9 (i:=i) (e:=30) (n:=64) (sz:=1) E E kR kR E qO) E ?_;refine A2h E E E (K6 (ws:=wx W0 (i-16)++List.replicate (64-i) 0) i E E kR qO qO Cs ?_);refine A7j ?_;refine nb (nx (D7 2 4 5 7) (C1 (mv_ ?_)));refine lQ_ (D5 ((i+1:Nat):Int) E E (F7 qO qO qO)) ?_;refine as_ (C5 ?_);refine rn (i+1) ⟨by omega,by omega⟩ qO (D7 2 4 5 7) (Ce ?_) qI;have e:=B1I (us:=List.replicate (64-i) 0) (show (wx W0 (i-16)).length=i by omega) hi hlt;unfold sg0 sg1 at e;rw [e,B1E qO hlt,show i+1-16=(i-16)+1 by omega,wx,show W0.length+(i-16)=i by omega]
  .
   have hlt:i=64:=by simp at hc;omega
   subst hlt;refine D8 (te (re (be E (nx (D6 2 4 5) (A1 ?_)))));refine B1w (n:=8) E kR qR E ?_;refine A2 E (C2 (cs:=[D3,D3,D3,D3,D3,D3,D3,D3]) kR E λb12=>?_);refine A9n E E kR qR E9 ?_;refine A0 (D7 2 4 5 12) (A3 (A1 (mv_ (A0 (F2 2 4 5 12 103) (A7 ?_)))));generalize hW:wx W0 48=W;have hWl:W.length=64:=by rw [<- hW,A7m];omega
   have hWb:∀j,W.getD j 0<4294967296:=λj=>getD_lt (by rw [<- hW];exact B9Q hW0b _) qD;have hkt:∀j,A2x.getD j 0<4294967296:=λj=>getD_lt B9O qD;refine E5 (α:=Nat) (λi=>[(2,(vP b2)),(4,(vP b4)),(5,(vP b5)),(12,(vP b12)),(103,.int .i64 (i:Int))]) (λi=>[(b12,blk (A7n (rounds A2x W s i)) _),(b5,blk (nums .u32 W) _),(b4,blk (A7n ⟨0,0,0,0,0,0,0,0⟩) _),(b2,blk (nums .u32 s.list) _)]) (λ_=>[]) (λi=>i<=64) (λi=>64-i) 0 (Am _) (F2 2 4 5 12 103) (Ce (by rw [show List.replicate (64-64) 0=[] from rfl,List.append_nil];rfl)) qI ?_;intro i hi;have hro:=hs0.rounds A2x W i;generalize hr:rounds A2x W s i=r at hro;rw [S8.ok_iff] at hro;obtain ⟨ra,rb,rc,rd,re',rf,rg,rh⟩:=hro
   try dsimp only at hi ⊢
   refine A1 (lQ_ (E8 E E E) (A0 (G7 2 4 5 12 103 104) (A3 ?_)));refine C3 E ?_ ?_<;>intro hc
   .
    have hlt:i<64:=by simp at hc;omega
    refine A6 (nx (F2 2 4 5 12 103) (A3 (A7 (A1 (mv_ (as_ (A0 (G7 2 4 5 12 13 103) ?_)))))));refine A2g (_) [0,1,2,3,4,5,6,7,8,10,11] [(0,0),(1,1),(3,0),(4,1),(7,0),(8,1),(2,2),(5,2),(6,0),(9,2),(10,0),(11,0)] kR kR qI λhs=>?_;refine L9 hs E (F9 (i:=4) (e:=30) (n:=8) (sz:=1) E E kR kR E qD) E ?_;refine A5e hs E (I0 E kR Cc qR) E ?_;refine L9 hs E (F9 (i:=4) (e:=30) (n:=8) (sz:=1) E E kR kR E qD) E ?_;refine A5e hs E (I0 E kR Cc qR) E ?_;refine L9 hs E (F9 (i:=4) (e:=30) (n:=8) (sz:=1) E E kR kR E qD) E ?_;refine A5e hs E (I0 E kR Cc qR) E ?_;refine B51 E E (R6 (aS E (aS E a0)) kR (X8 _ 6 _ _ re' qD qD E) E ⟨λ_ h=>h,?_⟩);refine B51 E E (R6 (aS E (aS E a0)) kR (X8 _ 11 _ _ re' qD qD E) E ⟨λ_ h=>h,?_⟩);refine L9 hs E (U8 E E (Q5 re') (Q5 re')) E ?_;refine A2h E E E (R6 (aS E (aS E a0)) kR (X8 _ 25 _ _ re' qD qD E) E ?_);refine L9 hs E (U8 E E (xor32 (Q5 re') (Q5 re')) (Q5 re')) E ?_;refine L9 hs E (G3 E) E ?_;refine A4d (N9 2 4 5 12 13 14 103) ?_;refine A1 ?_;refine lQ_ (F9 (i:=4) (e:=30) (n:=8) (sz:=1) E E kR kR E qD) ?_;refine A1k E kR qR E ?_;refine lQ_ (F9 (i:=5) (e:=30) (n:=8) (sz:=1) E E kR kR E qD) ?_;refine A1k E kR qR E ?_;refine lQ_ (A4e E E re' rf) ?_;refine lQ_ (F9 (i:=4) (e:=30) (n:=8) (sz:=1) E E kR kR E qD) ?_;refine A1k E kR qR E ?_;refine lQ_ (B9M E re') ?_;refine lQ_ (F9 (i:=6) (e:=30) (n:=8) (sz:=1) E E kR kR E qD) ?_;refine A1k E kR qR E ?_;refine lQ_ (A4e E E (xor32 qD re') rg) ?_;refine lQ_ (U8 E E (A8z re') (A8z (xor32 qD re'))) ?_;refine as_ (A0 (W6 2 4 5 12 13 14 15 103) ?_);refine A2g (_) [0,1,2,3,4,5,6,7,8,9,10,11,12,13,14] [(0,0),(1,1),(2,0),(3,0),(4,0),(5,0),(6,0),(7,0),(8,1),(9,0),(10,0),(11,0),(12,1),(13,0),(14,0)] kR kR qI λhs=>?_;refine L9 hs E (F9 (i:=7) (e:=30) (n:=8) (sz:=1) E E kR kR E qD) E ?_;refine A5e hs E (I0 E kR Cc qR) E ?_;refine L9 hs E qm_ E ?_;refine L9 hs E (A0r E E) E ?_;refine L9 hs E qm_ E ?_;refine L9 hs E (A0r E E) E ?_;refine L9 hs E qm_ E ?_;refine L9 hs E (F9 (i:=i) (e:=30) (n:=64) (sz:=1) E E kR kR E qO) E ?_;refine A5e hs E (I3 i E kR (mA hk) qO (show i<64 from hlt)) E ?_;refine L9 hs E (A0r E E) E ?_;refine L9 hs E qm_ E ?_;refine L9 hs E (F9 (i:=i) (e:=30) (n:=64) (sz:=1) E E kR kR E qO) E ?_;refine A5e hs E (I3 i E kR Cc qO qO) E ?_;refine L9 hs E (A0r E E) E ?_;refine L9 hs E (G3 E) E ?_;refine A4d (G7 2 4 5 12 16 103) ?_;refine A2g (_) [0,1,2,3,4,5,6,7,8,10,11] [(0,0),(1,1),(3,0),(4,1),(7,0),(8,1),(2,2),(5,2),(6,0),(9,2),(10,0),(11,0)] kR kR qI λhs=>?_;refine L9 hs E (F9 (i:=0) (e:=30) (n:=8) (sz:=1) E E kR kR E qD) E ?_;refine A5e hs E (I0 E kR Cc qR) E ?_;refine L9 hs E (F9 (i:=0) (e:=30) (n:=8) (sz:=1) E E kR kR E qD) E ?_;refine A5e hs E (I0 E kR Cc qR) E ?_;refine L9 hs E (F9 (i:=0) (e:=30) (n:=8) (sz:=1) E E kR kR E qD) E ?_;refine A5e hs E (I0 E kR Cc qR) E ?_;refine B51 E E (R6 (aS E (aS E a0)) kR (X8 _ 2 _ _ ra qD qD E) E ⟨λ_ h=>h,?_⟩);refine B51 E E (R6 (aS E (aS E a0)) kR (X8 _ 13 _ _ ra qD qD E) E ⟨λ_ h=>h,?_⟩);refine L9 hs E (U8 E E (Q5 ra) (Q5 ra)) E ?_;refine A2h E E E (R6 (aS E (aS E a0)) kR (X8 _ 22 _ _ ra qD qD E) E ?_);refine L9 hs E (U8 E E (xor32 (Q5 ra) (Q5 ra)) (Q5 ra)) E ?_;refine L9 hs E (G3 E) E ?_;refine A4d (N9 2 4 5 12 16 17 103) ?_;refine A1 ?_;refine lQ_ (F9 (i:=0) (e:=30) (n:=8) (sz:=1) E E kR kR E qD) ?_;refine A1k E kR qR E ?_
    refine lQ_ (F9 (i:=1) (e:=30) (n:=8) (sz:=1) E E kR kR E qD) ?_;refine A1k E kR qR E ?_;refine lQ_ (A4e E E ra rb) ?_;refine lQ_ (F9 (i:=0) (e:=30) (n:=8) (sz:=1) E E kR kR E qD) ?_;refine A1k E kR qR E ?_;refine lQ_ (F9 (i:=2) (e:=30) (n:=8) (sz:=1) E E kR kR E qD) ?_;refine A1k E kR qR E ?_;refine lQ_ (A4e E E ra rc) (lQ_ (U8 E E (A8z ra) (A8z ra)) ?_);refine lQ_ (F9 (i:=1) (e:=30) (n:=8) (sz:=1) E E kR kR E qD) ?_;refine A1k E kR qR E ?_;refine lQ_ (F9 (i:=2) (e:=30) (n:=8) (sz:=1) E E kR kR E qD) ?_;refine A1k E kR qR E ?_;refine lQ_ (A4e E E rb rc) (lQ_ (U8 E E (xor32 (A8z ra) (A8z ra)) (A8z rb)) (aS_ E (A0 (W6 2 4 5 12 16 17 18 103) (C1 (mV_ E (mV_ E (lQ_ (A0r E E) (mV_ E (lQ_ (A0r E E) ?_)))))))));refine lQ_ (F9 (i:=0) (e:=30) (n:=8) (sz:=1) E E kR kR E qD) ?_;refine A1k E kR qR E ?_;refine lQ_ (F9 (i:=1) (e:=30) (n:=8) (sz:=1) E E kR kR E qD) ?_;refine A1k E kR qR E ?_;refine lQ_ (F9 (i:=2) (e:=30) (n:=8) (sz:=1) E E kR kR E qD) ?_;refine A1k E kR qR E ?_;refine lQ_ (F9 (i:=3) (e:=30) (n:=8) (sz:=1) E E kR kR E qD) ?_;refine A1k E kR qR E ?_;refine mV_ E (lQ_ (A0r E E) ?_);refine lQ_ (F9 (i:=4) (e:=30) (n:=8) (sz:=1) E E kR kR E qD) ?_;refine A1k E kR qR E ?_;refine lQ_ (F9 (i:=5) (e:=30) (n:=8) (sz:=1) E E kR kR E qD) ?_;refine A1k E kR qR E ?_;refine lQ_ (F9 (i:=6) (e:=30) (n:=8) (sz:=1) E E kR kR E qD) ?_;refine A1k E kR qR E ?_;refine lQ_ (F0 (place:=λi=>some (i*1,1)) (z:=[D3,D3,D3,D3,D3,D3,D3,D3]) (λ_=>by kernel_rfl) (eS E (eS E (eS E (eS E (eS E (eS E (eS E (eS E e0)))))))) (bdS 0 1 E qR (bdS 1 1 E qR (bdS 2 1 E qR (bdS 3 1 E qR (bdS 4 1 E qR (bdS 5 1 E qR (bdS 6 1 E qR (bdS 7 1 E qR bd0))))))))) ?_;refine A9n E E kR qR (by simp [Value.oneCell']) ?_;refine C5 (nb (nx (F2 2 4 5 12 103) (C1 ?_)));refine lQ_ (D5 ((i+1:Nat):Int) E E (F7 qO qO qO)) ?_;refine mv_ (C5 ?_);refine rn (i+1) qO qO (F2 2 4 5 12 103) (Ce ?_) qI;rw [rounds,hr];rfl
   .
    have hlt:i=64:=by simp at hc;omega
    subst hlt;refine D8 (te (re (be E (nx (D6 2 4 12) (A3 (A1 (mV_ E (A0 (D7 2 4 12 194) (A7 ?_)))))))));refine E5 (α:=Nat) (λi=>[(2,(vP b2)),(4,(vP b4)),(12,(vP b12)),(194,.int .i64 (i:Int))]) (λi=>[(b12,blk (nums .u32 r.list) _),(b5,blk (nums .u32 W) _),(b4,blk (A7n ⟨0,0,0,0,0,0,0,0⟩) _),(b2,blk (nums .u32 (A4i s r i)) _)]) (λ_=>[]) (λi=>i<=8) (λi=>8-i) 0 (Am _) (D7 2 4 12 194) .rfl qI ?_;intro i hi
    try dsimp only at hi ⊢
    refine A1 (lQ_ (E8 E E E) (A0 (F2 2 4 12 194 195) (A3 ?_)));refine C3 E ?_ ?_<;>intro hc
    .
     have hlt:i<8:=by simp at hc;omega
     refine A6 (nx (D7 2 4 12 194) (A3 (A7 (A1 (mv_ (as_ (A0 (F2 2 4 12 19 194) ?_)))))));refine A2z (_) [0,1,2,3,4,5,6,7] [(0,0),(1,0),(2,1),(3,0),(4,0),(5,1),(6,0),(7,0),(8,2)] kR kR qI λhs=>?_;refine L9 hs E qm_ E ?_;refine L9 hs E (F9 (i:=i) (e:=30) (n:=8) (sz:=1) E E kR kR E qO) E ?_;refine A5e hs E (I3 i E kR Cc qO (by rw [A5r _ _ _ hi];exact hlt)) E ?_;refine L9 hs E qm_ E ?_;refine L9 hs E (F9 (i:=i) (e:=30) (n:=8) (sz:=1) E E kR kR E qO) E ?_;refine A5e hs E (I3 i E kR Cc qO (show i<8 from hlt)) E ?_;refine L9 hs E (A0r E E) E ?_;refine L9 hs E (F9 (i:=i) (e:=30) (n:=8) (sz:=1) E E kR kR E qO) E ?_;refine A2h E E E (K6 (ws:=A4i s r i) i E E kR qO (by rw [A5r _ _ _ hi];exact hlt) Cs ?_);refine A7j ?_;refine nb (nx (D7 2 4 12 194) (C1 ?_));refine lQ_ (D5 ((i+1:Nat):Int) E E (F7 qO qO qO)) ?_;refine mv_ (C5 ?_);refine rn (i+1) qO qO (D7 2 4 12 194) (Ce ?_) qI;rw [B0z _ _ _ hlt,A8B _ _ _ hlt]
    .
     have hlt:i=8:=by simp at hc;omega
     subst hlt;refine D8 (te (re (be E (nx (D0 2 4) (A1 ?_)))));refine B1w (n:=8) E kR qR E ?_;refine A9n E E kR qR E9 ?_;refine A0 (D4 4) (A9 ?_);refine ⟨_,[],[],A1d (n:=8) E E kR m2 E,Aa _,by simp,?_,E,E⟩;unfold X7;rw [hW0,hW,hr];rfl

end Go.Proofs.YtglbhoeolghndaaGreatDoor
namespace Go.Px
variable{M:Mem}{x:Nat×Obj}
theorem Fit.head1'{D:Mem}{E0_:Mem}(h:E0_.Sublist D):Fit (M++(x::D)) (M++E0_):=Fit.sub (List.Sublist.append (List.Sublist.refl _) (.cons _ h))
variable{B:Mem}
theorem pkB0:(x::B).Perm (B++[x]):=(List.perm_append_comm (l₁:=[x]))
def vHi(h:Nat):Value->Value
  | .slice p _ c=>.slice p h c
  | v=>v
def vLo(k sz:Nat):Value->Value
  | .slice p n c=>.slice (if c=k then p else p.map (·.add (k*sz))) (n-k) (c-k)
  | v=>v
def vAt(sz:Nat)(i:Nat):Value->Value
  | .slice (some a) _ _=>.pointer (some (a.add (i*sz)))
  | v=>v
variable{R:Mem}{sz n:Nat}{v:Value}{xs:List Value}
theorem Rd.hiV(h:Rd R sz v n xs)(k:Nat)(hk:k<=n):Rd R sz (vHi k v) k (xs.take (k*sz)):=by obtain ⟨p,c,rfl,h2,h3,h4⟩:=h;exact Rd.hi ⟨p,c,E,h2,h3,h4⟩ k hk
theorem Rd.loV(h:Rd R sz v n xs)(k:Nat)(hk:k<=n):Rd R sz (vLo k sz v) (n-k) (xs.drop (k*sz)):=by obtain ⟨p,c,rfl,h2,h3,h4⟩:=h;exact Rd.lo ⟨p,c,E,h2,h3,h4⟩ k hk
theorem Sl.hiV(h:Sl sz v n xs B)(k:Nat)(hk:k<=n):Sl sz (vHi k v) k (xs.take (k*sz)) B:=by obtain ⟨p,c,rfl,_⟩:=h.val;exact h.hi k hk
theorem Sl.loV(h:Sl sz v n xs B)(k:Nat)(hk:k<=n):∃B',B'.Sublist B∧Sl sz (vLo k sz v) (n-k) (xs.drop (k*sz)) B':=by obtain ⟨p,c,rfl,_⟩:=h.val;exact h.lo k hk
theorem Rd.len(h:Rd R sz v n xs):xs.length=n*sz:=by obtain ⟨p,c,rfl,h2,h3,h4⟩:=h;exact h2
def slE(P:Program)(t:TypeId):Option Nat :=
  match P.underlying t with
  | some (.slice e)=>P4 P e
  | _=>none
variable{t:TypeId}
theorem A2F{P:Program}(h:slE P t=some sz):∃e,P.underlying t=some (.slice e)∧P4 P e=some sz:=by
  unfold slE at h;split at h
  . rename_i e hu;exact ⟨e,hu,h⟩
  . cases h
variable{k:IntKind}{i:Int}{j m b:Nat}{u:Value}{ws:List Nat}{cs:List Value}
section rules
variable{P:Program}{R:Mem}{l:Env}{d:Option Nat}{ty t t' e:TypeId}{pos:String}{af:Array Edge}{g:Option (Nat×Bool)}{x y z:Operand}{v:Value}{sz n:Nat}{xs:List Value}{R':Mem}
theorem A1f(h:Rd R' sz v n xs)(hx:ev l x=some v)(hu:slE P t=some sz) :
    OpQ P R ⟨d,.call { callee:=.builtin .len,args:=#[x],argTypes:=#[t] },ty,pos,af,g⟩ l (.int .i64 n):=by
  obtain ⟨p,c,rfl,_⟩:=h;obtain ⟨e,hu,hs⟩:=A2F hu;exact A1c hx hu
theorem B9S(h:Rd R' sz v n xs)(hx:ev l x=some v)(hy:ev l y=some (.int k i))(hu:slE P t=some sz)(j:Nat)(hi:i=j)(hj:j<=n) :
    OpQ P R ⟨d,.slice t x none (some y) none,ty,pos,af,g⟩ l (vHi j v):=by
  obtain ⟨p,c,rfl,h2,h3,h4⟩:=h;obtain ⟨e,hu,hs⟩:=A2F hu;exact B8x hx hy hu hs hi (by omega)
theorem B9T(h:Rd R' sz v n xs)(hx:ev l x=some v)(hy:ev l y=some (.int k i))(hu:slE P t=some sz)(j:Nat)(hi:i=j)(hj:j<=n) :
    OpQ P R ⟨d,.slice t x (some y) none none,ty,pos,af,g⟩ l (vLo j sz v):=by
  obtain ⟨p,c,rfl,h2,h3,h4⟩:=h;obtain ⟨e,hu,hs⟩:=A2F hu;exact B8y hx hy hu hs hi (by omega) (by omega)
theorem C4Q(h:Rd R' sz v n xs)(hx:ev l x=some v){k':IntKind}{i':Int}(hy:ev l y=some (.int k i))(hz:ev l z=some (.int k' i'))(hu:slE P t=some sz)(a b:Nat)(hi:i=a)(hi':i'=b)(hab:a<=b)(hb:b<=n) :
    OpQ P R ⟨d,.slice t x (some y) (some z) none,ty,pos,af,g⟩ l (vLo a sz (vHi b v)):=by
  obtain ⟨p,c,rfl,h2,h3,h4⟩:=h;obtain ⟨e,hu,hs⟩:=A2F hu;exact B8z hx hy hz hu hs hi hi' (by omega) (by omega)
theorem B6f(h:Rd R' sz v n xs)(hx:ev l x=some v)(hy:ev l y=some (.int k i))(hu:slE P t=some sz)(j:Nat)(hi:i=j)(hj:j<n) :
    OpQ P R ⟨d,.indexAddr t x y,ty,pos,af,g⟩ l (vAt sz j v):=by
  obtain ⟨p,c,rfl,h2,h3,h4⟩:=h;rcases h4 with h4|⟨b,o,cs,e',fr,rfl,hb,hx'⟩
  . omega
  . obtain ⟨e,hu,hs⟩:=A2F hu;simp only [vAt,Addr.add_mid];exact L8 hx hy hu hs hi hj
theorem Z4(h:Rd R 1 v n xs)(hx:ev l x=some (vAt 1 j v))(ht:A0p P t=true)(hj:xs[j]? = some u):OpQ P R ⟨d,.load t x,ty,pos,af,g⟩ l u:=by
  obtain ⟨p,c,rfl,h2,h3,h4⟩:=h;have:=(Ac.1 hj).1;rcases h4 with h4|⟨b,o,cs,e',fr,rfl,hb,hx'⟩
  . omega
  . simp only [vAt,Addr.add_mid] at hx;refine I0 (b:=b) (o:=o+j*1) hx ht hb ?_;rw [Nat.mul_one];exact hx' j u hj
theorem A5t(h:Rd R 1 v n (nums k ws))(hx:ev l x=some (vAt 1 j v))(ht:A0p P t=true)(hj:j<n):OpQ P R ⟨d,.load t x,ty,pos,af,g⟩ l (.int k ((ws.getD j 0:Nat):Int)) :=
  Z4 h hx ht (V9 (by have:=h.len;simp at this;omega))
theorem A58(hx:ev l x=some (.agg cs.toArray))(hy:ev l y=some (.int k i))(hu:P.underlying t=some (.array m e))(hs:P4 P e=some 1)(he:A0p P e=true)(hi:i=j)(hj:j<m)(hu':cs[j]? = some u) :
    OpQ P R ⟨d,.index t x y,ty,pos,af,g⟩ l u:=λN a w ha hw=>by
  subst hi;unfold P4 at hs
  cases hq:P.info? e with
  | none=>simp [hq] at hs
  | some inf =>
    simp only [hq,Option.map_some,Option.some.injEq] at hs
    have h1:(0:Int)<=(j:Int)∧(j:Int)<(m:Int):=⟨by omega,by omega⟩
    simp only [execOp,ha.ev hx,ha.ev hy,Instr.index,asIntOf,Sem.run_bind,Sem.run_pure,Result.andThen_ok,run_underlying hu];simp [h1,sizeOf,typeInfo,hq,hs,part,A3t he,hu']
theorem B6g(hx:ev l x=some (.pointer (some ⟨b,0,none⟩)))(hu:P.underlying t=some (.array m e))(hs:P4 P e=some sz) :
    OpQ P R ⟨d,.slice t x none none none,ty,pos,af,g⟩ l (.slice (some ⟨b,0,none⟩) m m):=λN a w ha hw=>by
  unfold P4 at hs
  cases hq:P.info? e with
  | none=>simp [hq] at hs
  | some inf =>
    simp only [execOp,ha.ev hx,Instr.sliceAt,Instr.sureAddr,Sem.run_bind,Sem.run_pure,run_underlying hu,Result.andThen_ok];have:=V7 (P:=P) (lo:=none) (hi:=none) (mx:=none) ha o0 o0 o0 false m m w (by simp) (by simp) (by simp) (by simp);simp only [Option.map_none] at this ⊢;simp only [this,Result.andThen_ok];simp [sizeOf,typeInfo,hq,Addr.add]
end rules
def txt(ws:List Nat):ByteArray:=⟨(ws.map UInt8.ofNat).toArray⟩
theorem B6h(ns:List Nat):∀s:ByteArray,(ns.map λn:Nat=>(n:Int)).foldl (λr n=>r.push (UInt8.ofNat n.toNat)) s=s++txt ns:=by
  induction ns with
  | nil=>intro s;apply ByteArray.ext;simp [txt,ByteArray.data_append]
  | cons n ns ih =>
    intro s;simp only [List.map_cons,List.foldl_cons,ih];apply ByteArray.ext;simp [txt,ByteArray.data_append]
section texts
variable{P:Program}{R:Mem}{l:Env}{d:Option Nat}{ty s t e:TypeId}{pos:String}{af:Array Edge}{g:Option (Nat×Bool)}{x y:Operand}{v:Value}{n:Nat}
def B1J(P:Program)(s t:TypeId):Bool :=
  match P.underlying s,P.underlying t with
  | some (.slice e),some .string=>match P.underlying e with
    | some (.int .u8)=>true
    | _=>false
  | _,_=>false
theorem A4j(h:Rd R 1 v n (nums .u8 ws))(hx:ev l x=some v)(hc:B1J P s t=true):OpQ P R ⟨d,.convert s t x,ty,pos,af,g⟩ l (.string (txt ws)):=λN a w ha hw=>by
  unfold B1J at hc;split at hc<;>try cases hc
  rename_i e h1 h2;split at hc<;>try cases hc
  rename_i h3;obtain ⟨p,c,rfl,hl,hcc,hb⟩:=h;have hn:ws.length=n:=by simpa using hl
  have he:nums .u8 ws=(ws.map λn:Nat=>(n:Int)).map (Value.int .u8):=by simp [nums]
  simp only [execOp,ha.ev hx,Sem.run_bind,run_convert_bytes_string w s t e _ _ _ h1 h3 h2]
  cases p with
  | none =>
    rcases hb with hb|⟨b,o,cs,e',fr,hp,hb,hx'⟩
    . have:ws=[]:=Bd (by omega);subst this;simp [Conv.bytesToString,Sem.run_pure,txt];rfl
    . cases hp
  | some ad =>
    have hload:(loadCells ad n).run P w=.ok (nums .u8 ws).toArray w:=by
      rcases hb with hb|⟨b,o,cs,e',fr,hp,hb,hx'⟩
      . have:ws=[]:=Bd (by omega);subst this;subst hb;simp [loadCells,loadCellsFrom,nums]
      . cases hp;have:=run_loadCells_list (P:=P) w ⟨b,o,none⟩ (nums .u8 ws) (λj v hv=>by rw [Addr.add_mid,A2f hw hb];simpa using hx' j v hv);rw [nums_len,hn] at this;exact this
    rw [he] at hload;rw [run_bytesToString w ad n c _ hload,B6h];simp [Sem.run_pure]
theorem A9r{t':TypeId}{a b:ByteArray}(hx:ev l x=some (.string a))(hy:ev l y=some (.string b))(h:a=b):OpQ P R ⟨d,.binOp .eql t x y t',ty,pos,af,g⟩ l (.bool true):=by have:=A8u (P:=P) (R:=R) (d:=d) (ty:=ty) (pos:=pos) (af:=af) (g:=g) (t:=t) (t':=t') hx hy;rw [h] at this;simpa using this
theorem A8C{a b:List Nat}(ha:∀x∈a,x<256)(hb:∀x∈b,x<256)(h:txt a=txt b):a=b:=by
  have h1:a.map UInt8.ofNat=b.map UInt8.ofNat:=by have:=congrArg ByteArray.data h;simpa [txt] using this
  have h2:=congrArg (List.map UInt8.toNat) h1;simp only [List.map_map] at h2
  have key:∀l:List Nat,(∀x∈l,x<256)->List.map (UInt8.toNat ∘ UInt8.ofNat) l=l:=by
    intro l hl
    conv=>rhs;rw [<- List.map_id l]
    refine Bt λx hx=>?_;have:=hl x hx;simp;omega
  rwa [key a ha,key b hb] at h2
theorem B0A(a b:List Nat):txt a++txt b=txt (a++b):=by apply ByteArray.ext;simp [txt,ByteArray.data_append]
end texts
variable{e':TypeId}{M':Mem}{by_:Nat}
section loud
variable{C:Cx}{l:Env}{M J:Mem}{K:Env->Mem->Mem->Prop}{ty t e:TypeId}{pos:String}{af:Array Edge}{g:Option (Nat×Bool)}{x y:Operand}{d:Nat}
def C2x(P:Program)(t:TypeId):Bool :=
  match P.underlying t with
  | some (.slice e)=>match P.underlying e with
    | some (.int .u8)=>true
    | _=>false
  | _=>false
theorem A4k{c:Nat}(hx:ev l x=some (.slice (some ⟨b,0,none⟩) n c))(hc:C2x C.P t=true)(hu:Upd M b (blk cs e') (.cells cs.toArray e' (cs.length,cs.length+1)) M')
    (hd:Nat.blt d C.N=true) (k:K ((d,.slice (some ⟨b,0,none⟩) n c)::l) M' J):OpL C ⟨some d,.convert t t x,ty,pos,af,g⟩ l M J K:=by
  intro Qp a w ha hw;unfold C2x at hc;split at hc<;>try cases hc
  rename_i e h1;split at hc<;>try cases hc
  rename_i h2;have hb:=hw.mem _ _ (Ae _ hu.mem);have hsh:w.shape? b=some (e',cs.length):=by unfold World.shape?;rw [hb];simp [blk]
  have hlt:=T4 hb
  have hrun:(execOp a.eval ⟨some d,.convert t t x,ty,pos,af,g⟩).run C.P w=.ok (.value (.slice (some ⟨b,0,none⟩) n c)) (w.freeze ⟨b,cs.length,none⟩ 1):=by simp [execOp,ha.ev hx,convert,run_underlying h1,run_underlying h2,markStringish,hsh]
  unfold Oper.wp;rw [hrun];refine ⟨_,M',J,ha.put (P1 hd) _,hw.upd hu ?_ ?_ ?_ E E E,k⟩
  . simp only [World.freeze];rw [if_neg (by decide)];simp [Array.getElem?_modify,hb,blk]
  . intro j hj;simp only [World.freeze];rw [if_neg (by decide)];simp [Array.getElem?_modify,Ne.symm hj]
  . simp [World.freeze]
theorem B8B{us ws':List Nat}(hx:ev l x=some (.slice (some ⟨b,0,none⟩) m m))(hy:ev l y=some u)(ht:A10 C.P t=some (e,1,by_))
    (hr:Rd (M++(J++C.A)) 1 u n (nums k us)) (hn:n<=m) (hm:ws.length=m) (hw':ws'=us++ws.drop n) (hu:Upd M b (blk (nums k ws) e') (blk (nums k ws') e') M') (hd:Nat.blt d C.N=true) (h:K ((d,.int .i64 n)::l) M' J) :
    OpL C ⟨some d,.call { callee:=.builtin .copy,args:=#[x,y],argTypes:=#[t,t] },ty,pos,af,g⟩ l M J K:=by
  intro Qp a w ha hw;obtain ⟨i,z,hut,hi,hz,hzs,his,hib⟩:=T6 ht;obtain ⟨pu,cu,rfl,hul,huc,hub⟩:=hr
  have hru:Rd (M++(J++C.A)) 1 (.slice pu n cu) n (nums k us):=⟨pu,cu,E,hul,huc,hub⟩
  have hb:=hw.mem _ _ (Ae _ hu.mem);have hf:=A3R (P:=C.P) (m:=n) (c2:=cu) hru hw.fx;have hus:us.length=n:=by simpa using hul
  have hst:=run_storeCells_at (P:=C.P) b 0 e' (nums k us) 0 (nums k ws).toArray w hb (by simp [hus,hm];exact hn) E9;simp only [Nat.add_zero,Nat.zero_add,List.take_zero,Ct,nums_len,hus] at hst;rw [<- A0U,<- H6,<- hw'] at hst
  have hrun:(execOp a.eval ⟨some d,.call { callee:=.builtin .copy,args:=#[x,y],argTypes:=#[t,t] },ty,pos,af,g⟩).run C.P w=.ok (.value (.int .i64 n)) (w.setRow b (nums k ws').toArray):=by simp [execOp,resolve,invoke,builtin,ha.ev hx,ha.ev hy,Builtin.copy_,run_underlying hut,sizeOf,typeInfo,hi,his,Builtin.lenOf,Nat.min_eq_left hn,hf,hst,goInt]
  unfold Oper.wp;rw [hrun];exact ⟨_,M',J,ha.put (P1 hd) _,hw.setRow hu,h⟩
end loud
variable{e:TypeId}
theorem Sl.fresh(h:cs.length=n*sz)(hn:n<=maxLen):Sl sz (.slice (some ⟨b,0,none⟩) n n) n cs [(b,blk cs e)] :=
  .inr ⟨b,0,n,cs,e,E,E,Av _,hn,by omega,h,λj u hj=>by rwa [Nat.zero_add]⟩
theorem Rd.cel(h:Rd R sz v n xs):Cel v [v]:=by obtain ⟨p,c,rfl,_⟩:=h;exact ⟨E⟩
theorem Sl.cel(h:Sl sz v n xs B):Cel v [v]:=by obtain ⟨p,c,rfl,_⟩:=h.val;exact ⟨E⟩
def mkT(P:Program)(t:TypeId):Option (TypeId×IntKind×Nat) :=
  match P.underlying t with
  | some (.slice e)=>match P.info? e with
    | some i=>match i.zero with
      | some (.int k 0)=>if i.size=1 then some (e,k,i.bytes) else none
      | _=>none
    | none=>none
  | _=>none
theorem B1K(k:IntKind)(n:Nat):madeCells #[.int k 0] n=(nums k (List.replicate n 0)).toArray:=by
  apply Array.ext
  . simp [madeCells]
  . intro i h1 h2;simp [madeCells,nums,Nat.mod_one]
variable{K:Env->Mem->Mem->Prop}{ty:TypeId}{pos:String}{af:Array Edge}{g:Option (Nat×Bool)}{y:Operand}
theorem A0N{C:Cx}{l:Env}{J:Mem}{x:Operand}{d:Nat}{kl kc:IntKind}{j:Int}(n:Nat)(hx:ev l x=some (.int kl i))(hy:ev l y=some (.int kc j))(ht:mkT C.P t=some (e,k,by_))(hi:i=n)(hj:j=n)
    (hb:by_*n<=281474976710656) (hn:n<=9223372036854775807) (hd:Nat.blt d C.N=true) (h:∀b,K ((d,.slice (some ⟨b,0,none⟩) n n)::l) ((b,blk (nums k (List.replicate n 0)) e)::M) J) :
    OpL C ⟨some d,.makeSlice t x y,ty,pos,af,g⟩ l M J K:=by
  intro Qp a w ha hw;subst hi;subst hj;unfold mkT at ht;split at ht<;>try cases ht
  rename_i e' hu;split at ht<;>try cases ht
  rename_i inf hi;split at ht<;>try cases ht
  rename_i k' hz;split at ht<;>simp only [Option.some.injEq,Prod.mk.injEq,reduceCtorEq] at ht;rename_i hs;obtain ⟨rfl,rfl,rfl⟩:=ht;have hb':(inf.bytes:Int)*(n:Int)<=281474976710656:=by rw [<- Int.natCast_mul];omega
  have hr:=run_make (P:=C.P) w t e' inf _ hu hi hz kl kc n n (by omega) (by omega) hb' (by omega);simp only [Int.toNat_natCast,hs,Nat.mul_one] at hr;rw [show (Value.int k' 0).cells=#[.int k' 0] from rfl,B1K] at hr;unfold Oper.wp;simp only [execOp,ha.ev hx,ha.ev hy,Sem.run_bind,hr,Result.andThen_ok,Sem.run_pure];exact ⟨_,_,J,ha.put (P1 hd) _,hw.alloc _,h _⟩
theorem C4R{C:Cx}{l:Env}{J:Mem}{x:Operand}{u:Nat}{M0:Mem}(h:Sl 1 v n (nums k ws) B)(hx:ev l x=some (vAt 1 j v))(hy:ev l y=some (.int k (u:Int)))
    (ht:P4 C.P t=some 1) (hj:j<n) (hM:M.Perm (B++M0)) (h2:∀B',Sl 1 v n (nums k (ws.set j u)) B'->K l (B'++M0) J) :
    OpL C ⟨none,.store t x y,ty,pos,af,g⟩ l M J K:=by
  suffices hh:OpL C ⟨none,.store t x y,ty,pos,af,g⟩ l (B++M0) J K from λQp a w ha hw=>hh Qp a w ha (hw.fit (Fit.perm hM) λ_ h=>h)
  clear hM;rcases h with ⟨p,rfl,rfl,hx2,rfl⟩|⟨b,o,cap,cs,e,rfl,rfl,h3,h4,h5,h6,h7⟩
  . omega
  . simp only [vAt,Addr.add_mid,Nat.mul_one] at hx;refine E4 hx hy E ht (A3T (by omega)) .hd (h2 [_] (.inr ⟨b,o,cap,_,e,E,E,h3,h4,by simpa using h5,by simpa using h6,?_⟩));intro i w hi;rw [A54] at hi;rw [List.getElem?_set] at hi ⊢;by_cases hij:j=i
    . subst hij;simp only [if_true] at hi ⊢;simp at hi h6;rw [if_pos (by omega)];rw [<- hi.2]
    . rw [if_neg hij] at hi;rw [if_neg (by omega)];exact h7 i w hi
variable{n':Nat}{xs':List Value}
theorem A0C(h:Rd R 1 v n xs)(h1:n=n')(h2:xs=xs'):Rd R 1 v n' xs':=by subst h1;subst h2;exact h
theorem W8(h:Sl 1 v n xs B)(h1:n=n')(h2:xs=xs'):Sl 1 v n' xs' B:=by subst h1;subst h2;exact h
end Go.Px

namespace Go.Proofs.YtglbhoeolghndaaGreatDoor
open Go.Px
def B1L(R:Mem)(v:Value)(ps:List (LN)):Prop :=
  ∃vs:List Value,Rd R 1 v ps.length vs∧∀(i:Nat) (p:LN),ps[i]? = some p->(∀x∈p,x<256)∧∃u,vs[i]? = some u∧Rd R 1 u p.length (nums .u8 p)
def A15(ps:List (LN))(i:Nat):LN:=(ps.take i).flatten
variable{ps:List (LN)}{i:Nat}
theorem B1M{p:LN}(h:ps[i]? = some p):A15 ps (i+1)=A15 ps i++p:=by unfold A15;rw [Bh,h];simp
theorem A59(ps:List (LN)):A15 ps ps.length=ps.flatten:=by unfold A15;rw [List.take_length]
theorem B9U(ps:List (LN))(i:Nat):(A15 ps i).length<=ps.flatten.length:=by have h:=congrArg (λl=>(List.flatten l).length) (List.take_append_drop i ps);simp only [List.flatten_append,List.length_append] at h;unfold A15;omega
theorem B1N(h:∀(i:Nat) (p:LN),ps[i]? = some p->∀x∈p,x<256)(i:Nat):∀x∈A15 ps i,x<256:=by intro x hx;obtain ⟨p,hp,hx⟩:=List.mem_flatten.1 hx;obtain ⟨j,hj⟩:=List.getElem?_of_mem (Bw hp);exact h j p hj x hx
theorem B0B(m:LN):(N2 m).length=64*((N2 m).length/64)∧64*(m.length/64)<=(N2 m).length∧(N2 m).length<=m.length+73:=by
  have e:(N2 m).length=m.length+1+A4f m.length+8:=by simp [N2,B6d];omega
  have hz:A4f m.length=(119-m.length%64)%64:=rfl;omega
theorem A8D(m:LN)(k:Nat)(h:64*k<=m.length):(N2 m).drop (64*k)=m.drop (64*k)++(128::(List.replicate (A4f m.length) 0++B6d m.length 8)):=by unfold N2;rw [List.drop_append_of_le_length h]
theorem B1O{m:LN}(h:∀x∈m,x<256):∀x∈N2 m,x<256:=by
  intro x hx;unfold N2 at hx;rcases List.mem_append.1 hx with hx|hx
  . exact h x hx
  . rcases List.mem_cons.1 hx with rfl|hx
    . decide
    . rcases List.mem_append.1 hx with hx|hx
      . rw [(List.mem_replicate.1 hx).2];decide
      . obtain ⟨i,_,rfl⟩:=List.mem_map.1 hx;exact Ad _ qD
variable{k:IntKind}
theorem A7o{ws:LN}(n:Nat):(nums k ws).take (n*1)=nums k (ws.take n):=by rw [Nat.mul_one,A1m]
theorem A7p{ws:LN}(n:Nat):(nums k ws).drop (n*1)=nums k (ws.drop n):=by rw [Nat.mul_one,A0U]
theorem B1P(s t:S8):(nums .u32 s.list).length=(nums .u32 t.list).length:=by rw [nums_len,nums_len];simp [S8.list]
theorem B1Q(n k:Nat):B6d n (k+1)=B6d n k++[(8*n) >>> (56-8*k)%256]:=by simp [B6d,List.range_succ]
variable{ef ek:TypeId}{ff fk:Nat×Nat}
theorem A1O(v:Value)(ps:List (LN))(A:Mem)(hv:B1L A v ps)(htot:ps.flatten.length<=2147483648)(hcnt:ps.length<=2147483648)(h0:(0,Obj.cells (nums .u32 A3w.list).toArray ef ff)∈A)(h1:(1,Obj.cells (nums .u32 A2x).toArray ek fk)∈A) :
  FnX prog 82 [v] [] A λr M J=>J=[]∧Sl 1 r 32 (nums .u8 (Y4 ps.flatten)) M:=by
 obtain ⟨vs,hvs,hps⟩:=hv;refine Ck (N:=90) func82 E E E λw=>?_;refine A8 (D4 0) (A1 (as_ (A0 (D4 0) (A1 ?_))));refine lQ_ (H1 (cs:=nums .u32 A3w.list) (n:=8) E kR (mA h0) qR) ?_;refine A2 E (C2 (cs:=[D3,D3,D3,D3,D3,D3,D3,D3]) kR E λb3=>?_);refine A9n E E kR qR E9 ?_;refine aS_ E (A0 (D6 0 3 4) (A1 (aS_ E (A0 (D7 0 3 4 5) (A3 (A1 (mV_ E (lQ_ (A1f hvs E kR) (mv_ (A0 (G7 3 4 5 13 14 15) (A7 ?_)))))))))));refine E5 (α:=Nat×Value×Mem) (λx=>[(3,(vP b3)),(4,.int .i64 ((A15 ps x.1).length:Int)),(5,x.2.1),(13,v),(14,.int .i64 (ps.length:Int)),(15,.int .i64 (x.1:Int))]) (λx=>x.2.2++[(b3,blk (nums .u32 (A5h A2x ((A15 ps x.1).length/64) A3w (A15 ps x.1)).list) 184)]) (λ_=>[]) (λx=>x.1<=ps.length∧Sl 1 x.2.1 ((A15 ps x.1).length-64*((A15 ps x.1).length/64)) (nums .u8 ((A15 ps x.1).drop (64*((A15 ps x.1).length/64)))) x.2.2) (λx=>ps.length-x.1) (0,vS,[]) ⟨Am _,W8 Sl.nil (by simp [A15]) (by simp [A15,nums])⟩ (G7 3 4 5 13 14 15) (Ce (by simp [A15,A5h])) qI ?_;rintro ⟨i,rv,B⟩ ⟨hi,hsl⟩;dsimp only at hi hsl ⊢;refine A1 (lQ_ (E8 E E E) (A0 (N9 3 4 5 13 14 15 16) (A3 ?_)));refine C3 E ?_ ?_<;>intro hc
 .
  have hlt:i<ps.length:=by simp at hc;omega
  obtain ⟨q,hq⟩:∃q,ps[i]? = some q:=⟨_,Ab hlt⟩
  obtain ⟨hq256,u,hu,hqr⟩:=hps i q hq;have hps1:=B1M hq;have hle1:=B9U ps (i+1);have hpl:(A15 ps (i+1)).length=(A15 ps i).length+q.length:=by rw [hps1,An]
  generalize hm:A15 ps i=m at *;refine A6 (nx (G7 3 4 5 13 14 15) (A3 (A7 (A1 ?_))));refine lQ_ (B6f hvs E E kR i E hlt) ?_;refine lQ_ (Z4 (hvs.mono λ_ h=>mA h) E kR hu) (aS_ E (A0 (N9 3 4 5 7 13 14 15) (A1 (mV_ E (mV_ E (lQ_ (A1f hqr E kR) ?_))))));refine lQ_ (D5 (((A15 ps (i+1)).length:Nat):Int) E E (F7 qO qO qO)) ?_;refine as_ (A0 (N9 3 4 5 7 13 14 15) (A1 (mv_ (mv_ ?_))));refine A2 E (V6 (e:=5) (sz:=1) (by_:=1) (m:=q.length) (B:=B) E E kR E hsl (hqr.mono λ_ h=>mA h) E9 (.refl _) (by unfold maxLen;omega) qO E λrv1 B1 hsl1=>?_);have hsl1:Sl 1 rv1 ((A15 ps (i+1)).length-64*(m.length/64)) (nums .u8 ((A15 ps (i+1)).drop (64*(m.length/64)))) B1:=W8 hsl1 qO (by rw [hps1,List.drop_append_of_le_length qO,H6]);refine as_ (A0 (G7 3 4 5 13 14 15) (A7 ?_));refine E5 (α:=Nat×Value×Mem) (λx=>[(3,(vP b3)),(4,.int .i64 ((A15 ps (i+1)).length:Int)),(5,x.2.1),(13,v),(14,.int .i64 (ps.length:Int)),(15,.int .i64 (i:Int))]) (λx=>x.2.2++[(b3,blk (nums .u32 (A5h A2x x.1 A3w (A15 ps (i+1))).list) 184)]) (λ_=>[]) (λx=>64*x.1<=(A15 ps (i+1)).length∧Sl 1 x.2.1 ((A15 ps (i+1)).length-64*x.1) (nums .u8 ((A15 ps (i+1)).drop (64*x.1))) x.2.2) (λx=>(A15 ps (i+1)).length-64*x.1) (m.length/64,rv1,B1) ⟨by dsimp only;omega,hsl1⟩ (G7 3 4 5 13 14 15) (Ce (by dsimp only;rw [hps1,A57 _ _ _ _ _ qO])) qI ?_;clear hsl1 hsl;rintro ⟨k,rv,B⟩ ⟨hk1,hsl⟩;dsimp only at hk1 hsl ⊢;refine A3 (A1 (mV_ E (lQ_ (A1f (hsl.rd λ_ h=>h) E kR) (lQ_ (E8 E E E) (A0 (N9 3 4 5 13 14 15 28) ?_)))));refine C3 E ?_ ?_<;>intro hc
  .
   have hge:64<=(A15 ps (i+1)).length-64*k:=by simp at hc;omega
   obtain ⟨B2,hB2,hsl2⟩:=hsl.loV 64 hge;refine A6 (nx (G7 3 4 5 13 14 15) (A7 ?_));refine A2g (_) [0,1,2] [(0,1),(1,0),(2,0),(3,2),(4,2)] kR kR qI λhs=>?_;refine A5e hs E (H1 (n:=8) E kR Cc qR) E ?_;refine L9 hs E qm_ E ?_;refine L9 hs E (B9S (hsl.rd λ_ h=>h) E E kR 64 E hge) E ?_;refine A2h E E E (R6 (aS E (aS E a0)) kR (A5s _ (A56 _ _ _ A55) _ (λx hx=>(B1N (λj p hp=>(hps j p hp).1) (i+1)) x (List.mem_of_mem_drop (Bw hx))) _ _ (A0C ((hsl.rd λ_ h=>by simp [h]).hiV 64 hge) E (A7o 64)) (mA h1)) E ?_);refine A2h E E E (A5 E E E kR (B1P _ _) E9 Cs ?_);refine A4d (G7 3 4 5 13 14 15) ?_;refine C1 (mV_ E (lQ_ (B9T (hsl.rd λ_ h=>h) E E kR 64 E hge) (as_ (C5 (nb ?_)))));refine rn (k+1,_,B2) ⟨by dsimp only;omega,W8 hsl2 (by dsimp only;omega) (by rw [A7p,List.drop_drop];rfl)⟩ (by dsimp only;omega) (G7 3 4 5 13 14 15) ?_ qI;dsimp only;rw [A4g];exact Ci (List.Sublist.append hB2 (Ao _))
  .
   have hge:k=(A15 ps (i+1)).length/64:=by simp at hc;omega
   subst hge;refine D8 (te (re (be E (nb (nx (G7 3 4 5 13 14 15) (C1 ?_))))));refine lQ_ (D5 ((i+1:Nat):Int) E E (F7 qO qO qO)) ?_;refine mv_ (C5 ?_);refine rn (i+1,_,B) ⟨by dsimp only;omega,hsl⟩ (by dsimp only;omega) (G7 3 4 5 13 14 15) .rfl qI
 .
  have hlt:i=ps.length:=by simp at hc;omega
  subst hlt;rw [A59] at hsl;simp only [A59];generalize hm:ps.flatten=m at *;refine D8 (te (re (be E (nx (D6 3 4 5) (A1 (mv_ ?_))))));refine A2 E (C4 (e:=5) (sz:=1) (z:=[zu8]) kR (eS E e0) (bdS 0 1 E qR bd0) E λb37=>?_);have hm256:∀x∈m,x<256:=by rw [<- hm,<- A59];exact B1N (λj p hp=>(hps j p hp).1) _
  have htot':m.length<=2147483648:=htot;refine A2 E (V6 (e:=5) (sz:=1) (by_:=1) (m:=1) (B:=B) (ys:=nums .u8 [128]) (M0:=(b37,_)::_) E E kR E hsl (Co (n:=1) m0 qR) E9 pkB (by unfold maxLen;omega) qO E λrv1 B1 hsl1=>?_);clear hsl;have hsl1:Sl 1 rv1 (m.length%64+1) (nums .u8 (m.drop (64*(m.length/64))++[128])) B1:=W8 hsl1 qO (by rw [H6]);refine as_ (A0 (D6 3 4 5) (A3 (A7 ?_)));refine E5 (α:=Nat×Value×Mem) (λx=>[(3,(vP b3)),(4,.int .i64 (m.length:Int)),(5,x.2.1)]) (λx=>x.2.2++[(b3,blk (nums .u32 (A5h A2x (m.length/64) A3w m).list) 184)]) (λ_=>[]) (λx=>x.1<=A4f m.length∧Sl 1 x.2.1 (m.length%64+1+x.1) (nums .u8 (m.drop (64*(m.length/64))++(128::List.replicate x.1 0))) x.2.2) (λx=>A4f m.length-x.1) (0,rv1,B1) ⟨Am _,hsl1⟩ (D6 3 4 5) (Fit.head1' (Ao _)) qI ?_;clear hsl1;rintro ⟨z,rv,B⟩ ⟨hz,hsl⟩;dsimp only at hz hsl ⊢;have hzz:A4f m.length=(119-m.length%64)%64:=rfl;refine A3 (A1 (mV_ E (lQ_ (A1f (hsl.rd λ_ h=>h) E kR) ?_)));refine lQ_ (B1C (b:=64) E E qD) ?_;refine lQ_ (E8 E E E) (A0 (D7 3 4 5 42) ?_);refine C3 E ?_ ?_<;>intro hc
  .
   have hlt:z<A4f m.length:=by simp at hc;omega
   refine A6 (nx (D6 3 4 5) (A7 (C1 (mv_ ?_))));refine A2 E (C4 (e:=5) (sz:=1) (z:=[zu8]) kR (eS E e0) (bdS 0 1 E qR bd0) E λb44=>?_);refine A2 E (V6 (e:=5) (sz:=1) (by_:=1) (m:=1) (B:=B) (ys:=nums .u8 [0]) (M0:=(b44,_)::_) E E kR E hsl (Co (n:=1) m0 qR) E9 pkB (by unfold maxLen;omega) qO E λrv1 B1 hsl1=>?_);refine as_ (C5 (nb ?_));refine rn (z+1,rv1,B1) ⟨by dsimp only;omega,W8 hsl1 (by dsimp only;omega) ?_⟩ (by dsimp only;omega) (D6 3 4 5) (Fit.head1' (Ao _)) qI;dsimp only;rw [<- H6,Ap,List.cons_append,<- List.replicate_succ']
  .
   have hlt:z=A4f m.length:=by simp at hc;omega
   subst hlt;refine D8 (te (re (be E (nx (D6 3 4 5) (A3 (A1 (mV_ E (A0 (D7 3 4 5 46) (A7 ?_)))))))));refine E5 (α:=Nat×Value×Mem) (λx=>[(3,(vP b3)),(4,.int .i64 (m.length:Int)),(5,x.2.1),(46,.int .i64 (x.1:Int))]) (λx=>x.2.2++[(b3,blk (nums .u32 (A5h A2x (m.length/64) A3w m).list) 184)]) (λ_=>[]) (λx=>x.1<=8∧Sl 1 x.2.1 (m.length%64+1+A4f m.length+x.1) (nums .u8 (m.drop (64*(m.length/64))++(128::(List.replicate (A4f m.length) 0++B6d m.length x.1)))) x.2.2) (λx=>8-x.1) (0,rv,B) ⟨Am _,W8 hsl E (by simp [B6d])⟩ (D7 3 4 5 46) .rfl qI ?_;clear hsl;rintro ⟨i,rv,B⟩ ⟨hi,hsl⟩;dsimp only at hi hsl ⊢;refine A1 (lQ_ (E8 E E E) (A0 (F2 3 4 5 46 47) (A3 ?_)));refine C3 E ?_ ?_<;>intro hc
   .
    have hlt:i<8:=by simp at hc;omega
    refine A6 (nx (D7 3 4 5 46) (A3 (A7 (A1 (mV_ E (aS_ E (A0 (F2 3 4 5 8 46) (C1 (mv_ (mv_ ?_))))))))));refine lQ_ (D5 ((8*m.length:Nat):Int) E E (A11 qO qO qO)) ?_;refine lQ_ (A14 (k':=.u64) E kR (by show _<9223372036854775808;omega)) ?_;refine mv_ ?_;refine lQ_ (D5 ((8*i:Nat):Int) E E (A11 qO qO qO)) ?_;refine lQ_ (D5 ((56-8*i:Nat):Int) E E (W7 qO qO qO)) ?_;refine lQ_ (T9 (56-8*i) E E E (by show _<=64;omega)) ?_;refine lQ_ (A12 E kR) ?_;refine A2 E (C4 (e:=5) (sz:=1) (z:=[zu8]) kR (eS E e0) (bdS 0 1 E qR bd0) E λb58=>?_);refine A2 E (V6 (e:=5) (sz:=1) (by_:=1) (m:=1) (B:=B) (ys:=nums .u8 [(8*m.length) >>> (56-8*i)%256]) (M0:=(b58,_)::_) E E kR E hsl (Co (n:=1) m0 qR) E9 pkB (by unfold maxLen;omega) qO E λrv1 B1 hsl1=>?_);refine as_ (C5 (nb (nx (D7 3 4 5 46) (C1 ?_))));refine lQ_ (D5 ((i+1:Nat):Int) E E (F7 qO qO qO)) ?_;refine mv_ (C5 ?_);refine rn (i+1,rv1,B1) ⟨by dsimp only;omega,W8 hsl1 (by dsimp only;omega) ?_⟩ (by dsimp only;omega) (D7 3 4 5 46) (Fit.head1' (Ao _)) qI;dsimp only;rw [<- H6,Ap,List.cons_append,Ap,<- B1Q]
   .
    have hlt:i=8:=by simp at hc;omega
    subst hlt;refine D8 (te (re (be E (nx (D0 3 5) (A3 (A7 ?_))))));obtain ⟨hp1,hp2,hp3⟩:=B0B m;have hsl0:=W8 (n':=(N2 m).length-64*(m.length/64)) (xs':=nums .u8 ((N2 m).drop (64*(m.length/64)))) hsl (by simp [N2,B6d];omega) (by rw [A8D _ _ qO]);clear hsl;refine E5 (α:=Nat×Value×Mem) (λx=>[(3,(vP b3)),(5,x.2.1)]) (λx=>x.2.2++[(b3,blk (nums .u32 (A5h A2x x.1 A3w (N2 m)).list) 184)]) (λ_=>[]) (λx=>64*x.1<=(N2 m).length∧Sl 1 x.2.1 ((N2 m).length-64*x.1) (nums .u8 ((N2 m).drop (64*x.1))) x.2.2) (λx=>(N2 m).length-64*x.1) (m.length/64,rv,B) ⟨hp2,hsl0⟩ (D0 3 5) (Ce (by dsimp only;unfold N2;rw [A57 _ _ _ _ _ qO])) qI ?_;clear hsl0;rintro ⟨k,rv,B⟩ ⟨hk1,hsl⟩;dsimp only at hk1 hsl ⊢;refine A3 (A1 (mV_ E (lQ_ (A1f (hsl.rd λ_ h=>h) E kR) (lQ_ (E8 E E E) (A0 (D6 3 5 63) ?_)))));refine C3 E ?_ ?_<;>intro hc
    .
     have hge:64<=(N2 m).length-64*k:=by simp at hc;omega
     obtain ⟨B2,hB2,hsl2⟩:=hsl.loV 64 hge;refine A6 (nx (D0 3 5) (A3 (A7 ?_)));refine A2z (_) [0,1,2] [(0,1),(1,0),(2,0),(3,2),(4,2)] kR kR qI λhs=>?_;refine A5e hs E (H1 (n:=8) E kR Cc qR) E ?_;refine L9 hs E qm_ E ?_;refine L9 hs E (B9S (hsl.rd λ_ h=>h) E E kR 64 E hge) E ?_;refine A2h E E E (R6 (aS E (aS E a0)) kR (A5s _ (A56 _ _ _ A55) _ (λx hx=>(B1O hm256) x (List.mem_of_mem_drop (Bw hx))) _ _ (A0C ((hsl.rd λ_ h=>by simp [h]).hiV 64 hge) E (A7o 64)) (mA h1)) E ?_);refine A2h E E E (A5 E E E kR (B1P _ _) E9 Cs ?_);refine A7j ?_;refine nb (nx (D0 3 5) (C1 (mV_ E (lQ_ (B9T (hsl.rd λ_ h=>h) E E kR 64 E hge) (as_ (C5 ?_))))));refine rn (k+1,_,B2) ⟨by dsimp only;omega,W8 hsl2 (by dsimp only;omega) (by rw [A7p,List.drop_drop];rfl)⟩ (by dsimp only;omega) (D0 3 5) ?_ qI;dsimp only;rw [A4g];exact Ci (List.Sublist.append hB2 (Ao _))
    .
     have hge:k=(N2 m).length/64:=by simp at hc;omega
     subst hge;refine D8 (te (re (be E (nx (D4 3) (A1 (aS_ E (A0 (D0 3 9) (A3 (A1 ?_)))))))));have hro:=A56 A2x ((N2 m).length/64) (N2 m) A55;generalize hr:A5h A2x ((N2 m).length/64) A3w (N2 m)=r at *;refine B1w (n:=8) E kR qR E ?_;refine mv_ (A0 (D6 9 70 71) (A7 ?_));refine E5 (α:=Nat×Value×Mem) (λx=>[(9,x.2.1),(70,.agg (nums .u32 r.list).toArray),(71,.int .i64 (x.1:Int))]) (λx=>x.2.2) (λ_=>[]) (λx=>x.1<=8∧Sl 1 x.2.1 (4*x.1) (nums .u8 ((r.list.take x.1).flatMap B9N)) x.2.2) (λx=>8-x.1) (0,vS,[]) ⟨Am _,Sl.nil⟩ (D6 9 70 71) (Ci (Aa _)) qI ?_;clear hsl;rintro ⟨i,rv,B⟩ ⟨hi,hsl⟩;dsimp only at hi hsl ⊢;refine A1 (lQ_ (E8 E E E) (A0 (D7 9 70 71 72) (A3 ?_)));refine C3 E ?_ ?_<;>intro hc
     .
      have hlt:i<8:=by simp at hc;omega
      have hx32:r.list.getD i 0<4294967296:=getD_lt hro qD;refine A6 (nx (D6 9 70 71) (A3 (A7 (A1 ?_))));refine lQ_ (A58 (e:=30) (m:=8) (j:=i) E E kR kR kR E hlt (V9 (show i<8 from hlt))) ?_;refine as_ (A0 (D7 9 11 70 71) (C1 (mv_ (mv_ ?_))));refine lQ_ (T9 24 E E E qD) ?_;refine lQ_ (A12 E kR) (mv_ ?_);refine lQ_ (T9 16 E E E qD) ?_;refine lQ_ (A12 E kR) (mv_ ?_);refine lQ_ (T9 8 E E E qD) ?_;refine lQ_ (A12 E kR) (mV_ E (lQ_ (A12 E kR) ?_));refine A2 E (C4 (e:=5) (sz:=1) (z:=[zu8,zu8,zu8,zu8]) kR (eS E (eS E (eS E (eS E e0)))) (bdS 0 1 E qR (bdS 1 1 E qR (bdS 2 1 E qR (bdS 3 1 E qR bd0)))) E λb86=>?_);refine A2 E (V6 (e:=5) (sz:=1) (by_:=1) (m:=4) (B:=B) (ys:=nums .u8 (B9N (r.list.getD i 0))) (M0:=(b86,_)::_) E E kR E hsl (Co (n:=4) m0 qR) E9 pkB0 (by unfold maxLen;omega) qO E λrv1 B1 hsl1=>?_);refine as_ (C5 (nb (nx (D6 9 70 71) (C1 ?_))));refine lQ_ (D5 ((i+1:Nat):Int) E E (F7 qO qO qO)) ?_;refine mv_ (C5 ?_);refine rn (i+1,rv1,B1) ⟨by dsimp only;omega,W8 hsl1 (by dsimp only;omega) ?_⟩ (by dsimp only;omega) (D6 9 70 71) (Ci (Ay _ _)) qI;dsimp only;rw [<- H6,Bh,List.flatMap_append,Ab (show i<r.list.length from hlt),List.getD,Ab (show i<r.list.length from hlt)];simp
     .
      have hlt:i=8:=by simp at hc;omega
      subst hlt;refine D8 (te (re (be E (nx (D4 9) (A1 (mV_ E (aS_ E (A0 (D4 2) (A9 ?_)))))))));refine ⟨_,B,[],H8 E E,Ao _,by simp,E,W8 hsl E ?_⟩;unfold Y4;rw [hr];rfl

def Pv(R:Mem)(vs:List Value)(ps:List (LN)):Prop:=vs.length=ps.length∧∀(i:Nat) (p:LN),ps[i]? = some p->(∀x∈p,x<256)∧∃u,vs[i]? = some u∧Rd R 1 u p.length (nums .u8 p)
variable{R:Mem}
theorem Pv.nil:Pv R [] []:=⟨E,λi p h=>by simp at h⟩
variable{vs:List Value}
theorem Pv.cons{u:Value}{p:LN}(hp:∀x∈p,x<256)(hu:Rd R 1 u p.length (nums .u8 p))(h:Pv R vs ps):Pv R (u::vs) (p::ps):=by
  refine ⟨by simp [h.1],λi q hq=>?_⟩
  cases i with
  | zero=>cases hq;exact ⟨hp,u,E,hu⟩
  | succ i=>exact h.2 i q (by simpa using hq)
theorem Pv.mono{R R':Mem}{vs:List Value}{ps:List (LN)}(h:Pv R vs ps)(hR:∀x,x∈R->x∈R'):Pv R' vs ps:=by refine ⟨h.1,λi p hp=>?_⟩;obtain ⟨h3,u,h4,h5⟩:=h.2 i p hp;exact ⟨h3,u,h4,h5.mono hR⟩
theorem Pv.one(h:Pv R vs ps):∀c∈vs,c.oneCell'=true:=by intro c hc;obtain ⟨i,hi⟩:=List.getElem?_of_mem hc;have hlt:=(Ac.1 hi).1;obtain ⟨_,u,hu,p,c',rfl,_⟩:=h.2 i _ (Ab (h.1▸hlt));rw [hi] at hu;cases hu;rfl
variable{v:Value}
theorem B1L.of{n:Nat}(h:Rd R 1 v n vs)(hn:n=ps.length)(hp:Pv R vs ps):B1L R v ps:=⟨vs,hn▸h,hp.2⟩
theorem B1L.pv(h:B1L R v ps):∃vs,Rd R 1 v ps.length vs∧Pv R vs ps:=by obtain ⟨vs,h1,h2⟩:=h;exact ⟨vs,h1,by have:=h1.len;omega,h2⟩
theorem A4l(p:LN):(Y4 p).length=32:=by simp [Y4,S8.bytes,S8.list,B9N]
theorem A7q(p:LN):∀x∈Y4 p,x<256:=by intro x hx;obtain ⟨y,_,hy⟩:=List.mem_flatMap.1 hx;simp only [B9N,Cv,Cw,or_false] at hy;rcases hy with rfl|rfl|rfl|rfl<;>exact Ad _ qD
def A2i(ks:LN)(x i:Nat):LN:=(ks.take i).map (· ^^^ x)++ks.drop i
theorem A2G(ks:LN)(x i:Nat):(A2i ks x i).length=ks.length:=by simp [A2i];omega
variable{ks:LN}{x:Nat}
theorem A2H(h:i<ks.length):(A2i ks x i).getD i 0=ks.getD i 0:=by
  unfold A2i;have hl:((ks.take i).map (· ^^^ x)).length=i:=by simp;omega
  simp only [List.getD];rw [Aq qO,hl,Nat.sub_self,List.getElem?_drop,Nat.add_zero]
theorem A5u(h:i<ks.length):(A2i ks x i).set i (ks.getD i 0 ^^^ x)=A2i ks x (i+1):=by
  unfold A2i;have hl:((ks.take i).map (· ^^^ x)).length=i:=by simp;omega
  rw [List.set_append_right _ _ qO,hl,Nat.sub_self,Br h,List.set_cons_zero,Bh,List.getD,Ab h];simp only [Option.getD_some,Option.toList_some,List.map_append,List.map_cons,List.map_nil,List.append_assoc,Cu,Ct]
theorem A7r(h:ks.length=i):A2i ks x i=ks.map (· ^^^ x):=by unfold A2i;rw [<- h];simp
variable{key:LN}
theorem B0C(h:key.length<=64)(x:Nat):(A3x key x).length=64:=by simp [A3x];omega
theorem B1R(h:∀x∈key,x<256){y:Nat}(hy:y<256):∀x∈A3x key y,x<256:=by
  intro x hx;obtain ⟨z,hz,rfl⟩:=List.mem_map.1 hx;refine Nat.xor_lt_two_pow (n:=8) ?_ hy;rcases List.mem_append.1 hz with hz|hz
  . exact h z hz
  . rw [(List.mem_replicate.1 hz).2];decide
theorem B0D(key:LN):(A1e key).length<=64:=by
  unfold A1e;split
  . rw [A4l];decide
  . omega
theorem B1S(h:∀x∈key,x<256):∀x∈A1e key,x<256:=by
  unfold A1e;split
  . exact A7q _
  . exact h
theorem A9s(kv pv:Value)(key:LN)(ps:List (LN))(A:Mem)(hkey:Rd A 1 kv key.length (nums .u8 key))(hk256:∀x∈key,x<256)(hk31:key.length<=1073741824)(hp:B1L A pv ps)(htot:ps.flatten.length<=1073741824)(hcnt:ps.length<=1073741824)(h0:(0,Obj.cells (nums .u32 A3w.list).toArray ef ff)∈A)(h1:(1,Obj.cells (nums .u32 A2x).toArray ek fk)∈A) :
  FnX prog 68 [kv,pv] [] A λr M J=>J=[]∧Sl 1 r 32 (nums .u8 (A8r key ps.flatten)) M:=by
 obtain ⟨vs,hvs,hpv⟩:=hp.pv;haveI:=hkey.cel;refine Ck (N:=42) func68 E E E λw=>?_;refine A8 (D0 0 1) (A1 (as_ (A0 (D0 0 1) ?_)));refine P3 (α:=Value×Mem) (λx=>[(0,x.1),(1,pv)]) (λx=>x.2) (λ_=>[]) (λx=>Rd (x.2++A) 1 x.1 (A1e key).length (nums .u8 (A1e key))) ?_ ?_
 .
  refine A1 (mV_ E (lQ_ (A1f hkey E kR) (lQ_ (E8 E E E) (A0 (D6 0 1 10) ?_))));refine C3 E ?_ ?_<;>intro hc
  .
   have hgt:64<key.length:=by simp at hc;omega
   refine C1 (mv_ ?_);refine A2 E (C4 (e:=22) (sz:=1) (z:=[vS]) kR (eS E e0) (bdS 0 1 E qR bd0) E λb12=>?_);refine A2 E (C9 (Mc:=[]) (R:=[_]) (aS E a0) kR (.refl _) (A1O _ [key] _ (B1L.of (Co (n:=1) m0 qR) E (.cons hk256 (hkey.mono λ_ h=>mA h) .nil)) (by simp;omega) qM (mA h0) (mA h1)) E ?_);rintro r M1 J1 ⟨rfl,hr⟩;refine as_ (C5 ?_);refine jn (r,_) ?_ (D0 0 1) .rfl qI;dsimp only;rw [A1e,if_pos hgt,A4l];exact A0C (hr.rd λ_ h=>by simp [h]) E qM
  .
   have hgt:¬ 64<key.length:=by simp at hc;omega
   refine A6 ?_;refine jn (kv,[]) ?_ (D0 0 1) .rfl qI;dsimp only;rw [A1e,if_neg hgt];exact hkey
 .
  rintro ⟨kv1,Mk⟩ hkv;dsimp only at hkv ⊢;have hK64:=B0D key;have hKb:=B1S hk256;have hkl:=B0C hK64;have hklt:=λy hy=>B1R (y:=y) hKb hy;unfold A8r;unfold A3x at *;generalize A1e key=K at *;have hK1:(K++List.replicate (64-K.length) 0).length=64:=by simp;omega
  have hK2:∀x∈K++List.replicate (64-K.length) 0,x<256:=λx hx=>by
   rcases List.mem_append.1 hx with h|h
   . exact hKb x h
   . rw [(List.mem_replicate.1 h).2];decide
  refine A1 ?_;refine A2 E (C2 (cs:=nums .u8 (List.replicate 64 0)) kR E λb5=>?_);refine A2 E (C2 (cs:=nums .u8 (List.replicate 64 0)) kR E λb6=>?_);refine A0 (D7 0 1 5 6) (A1 ?_);refine lQ_ (B6g (e:=5) (sz:=1) (m:=64) E kR kR) ?_;refine mv_ ?_;refine A2 rfl (B8B (e:=5) (by_:=1) (n:=K.length) (m:=64) (ws:=List.replicate 64 0) (us:=K) (ws':=K++List.replicate (64-K.length) 0) rfl rfl kR (hkv.mono λq hq=>by rcases List.mem_append.1 hq with h|h<;>simp [h]) hK64 qM (by rw [List.drop_replicate]) Cs E ?_);refine A0 (D7 0 1 5 6) (A1 ?_);refine lQ_ (B6g (e:=5) (sz:=1) (m:=64) E kR kR) ?_;refine mv_ ?_;refine A2 rfl (B8B (e:=5) (by_:=1) (n:=K.length) (m:=64) (ws:=List.replicate 64 0) (us:=K) (ws':=K++List.replicate (64-K.length) 0) rfl rfl kR (hkv.mono λq hq=>by rcases List.mem_append.1 hq with h|h<;>simp [h]) hK64 qM (by rw [List.drop_replicate]) Cs E ?_);refine A0 (D6 1 5 6) (A3 (A1 (mv_ (A0 (D7 1 5 6 20) (A7 ?_)))));generalize hKK:K++List.replicate (64-K.length) 0=KK at *;refine E5 (α:=Nat) (λi=>[(1,pv),(5,(vP b5)),(6,(vP b6)),(20,.int .i64 (i:Int))]) (λi=>[(b6,blk (nums .u8 (A2i KK 92 i)) 182),(b5,blk (nums .u8 (A2i KK 54 i)) 182)]) (λ_=>[]) (λi=>i<=64) (λi=>64-i) 0 (Am _) (D7 1 5 6 20) (Ci (.cons_cons _ (.cons_cons _ (Aa _)))) qI ?_;intro i hi;refine A1 (lQ_ (E8 E E E) (A0 (F2 1 5 6 20 21) (A3 ?_)));refine C3 E ?_ ?_<;>intro hc
  .
   have hlt:i<64:=by simp at hc;omega
   have hx8:KK.getD i 0<256:=getD_lt hK2 qD;refine A6 (nx (D7 1 5 6 20) (A3 (A7 (A1 (mV_ E (aS_ E (A0 (F2 1 5 6 7 20) (A1 (mv_ ?_)))))))));refine lQ_ (F9 (i:=i) (e:=5) (n:=64) (sz:=1) E E kR kR E qO) ?_;refine lQ_ (I3 (ws:=A2i KK 54 i) i E kR Cc qO (by rw [A2G];omega)) ?_;refine lQ_ (B1F (b:=54) E E (by rw [A2H qO];exact hx8) qD) ?_;refine lQ_ (F9 (i:=i) (e:=5) (n:=64) (sz:=1) E E kR kR E qO) ?_;refine A2 E (K6 (ws:=A2i KK 54 i) i E E kR qO (by rw [A2G];omega) Cs ?_);refine A0 (F2 1 5 6 7 20) (C1 (mv_ ?_));refine lQ_ (F9 (i:=i) (e:=5) (n:=64) (sz:=1) E E kR kR E qO) ?_;refine lQ_ (I3 (ws:=A2i KK 92 i) i E kR Cc qO (by rw [A2G];omega)) ?_;refine lQ_ (B1F (b:=92) E E (by rw [A2H qO];exact hx8) qD) ?_;refine lQ_ (F9 (i:=i) (e:=5) (n:=64) (sz:=1) E E kR kR E qO) ?_;refine A2 E (K6 (ws:=A2i KK 92 i) i E E kR qO (by rw [A2G];omega) Cs ?_);refine C5 (nb (nx (D7 1 5 6 20) (C1 ?_)));refine lQ_ (D5 ((i+1:Nat):Int) E E (F7 qO qO qO)) ?_;refine mv_ (C5 ?_);refine rn (i+1) qO qO (D7 1 5 6 20) (Ce ?_) qI;rw [A2H qO,A2H qO,A5u qO,A5u qO]
  .
   have hlt:i=64:=by simp at hc;omega
   subst hlt;rw [A7r hK1,A7r hK1];refine D8 (te (re (be E (nx (D6 1 5 6) ?_))));refine A2g ([]) [] [(0,0),(1,0),(3,0),(2,2),(4,2),(5,2),(6,2),(7,2),(8,0)] kR kR qM λhs=>?_;refine L9 hs E (B6g (e:=5) (sz:=1) (m:=64) E kR kR) E ?_;refine L9 hs E (B6g (e:=5) (sz:=1) (m:=64) E kR kR) E ?_;refine L9 hs E qm_ E ?_;refine A2h E E E (C4 (e:=22) (sz:=1) (z:=[vS]) kR (eS E e0) (bdS 0 1 E qR bd0) E λb36=>?_);refine A2h E E E (V6 (e:=22) (sz:=1) (by_:=24) (n:=1) (m:=ps.length) (B:=[(b36,_)]) E E kR E (Sl.fresh E qD) (hvs.mono λ_ h=>mA h) hpv.one (.refl _) (by unfold maxLen;omega) qO E λv38 B38 hsl38=>?_);refine A2h E E E (C9 (Mc:=[]) (R:=B38++[_,_]) (aS E a0) kR (.refl _) (A1O v38 (KK.map (· ^^^ 54)::ps) _ (B1L.of (hsl38.rd λ_ h=>by simp [h]) (by rw [List.length_cons];omega) (.cons (hklt 54 qD) (A0C (Co (n:=64) (cs:=nums .u8 (KK.map (· ^^^ 54))) Cc (by simp [hK1])) (hkl 54).symm E) (hpv.mono λ_ h=>mA h))) (by rw [List.flatten_cons,An,List.length_map,hK1];omega) (by rw [List.length_cons];omega) (mA h0) (mA h1)) E ?_);rintro r39 M39 J39 ⟨rfl,hr39⟩;haveI:=hr39.cel;refine A2h E E E (C4 (e:=22) (sz:=1) (z:=[vS,vS]) kR (eS E (eS E e0)) (bdS 0 1 E qR (bdS 1 1 E qR bd0)) E λb40=>?_);refine A2h E E E (C9 (Mc:=[]) (R:=_::(M39++(B38++[_,_]))) (aS E a0) kR (.refl _) (A1O _ [KK.map (· ^^^ 92),Y4 (KK.map (· ^^^ 54)++ps.flatten)] _ (B1L.of (Co (n:=2) m0 qR) E (.cons (hklt 92 qD) (A0C (Co (n:=64) (cs:=nums .u8 (KK.map (· ^^^ 92))) Cc (by simp [hK1])) (hkl 92).symm E) (.cons (A7q _) (A0C (hr39.rd λ_ h=>by simp [h]) (A4l _).symm qM) .nil))) (by simp [hK1,A4l]) qM (mA h0) (mA h1)) E ?_);rintro r41 M41 J41 ⟨rfl,hr41⟩;refine L9 hs E (G3 E) E ?_;refine A4d (D4 4) ?_;refine A9 ?_;refine ⟨_,_,[],H8 E E,Ay _ _,by simp,E,W8 hr41 E ?_⟩;simp
theorem A3y(kv pv:Value)(key p:LN)(A:Mem)(hkey:Rd A 1 kv key.length (nums .u8 key))(hk256:∀x∈key,x<256)(hk31:key.length<=1073741824)(hp:Rd A 1 pv p.length (nums .u8 p))(hp256:∀x∈p,x<256)(htot:p.length<=1073741824)(h0:(0,Obj.cells (nums .u32 A3w.list).toArray ef ff)∈A)(h1:(1,Obj.cells (nums .u32 A2x).toArray ek fk)∈A) :
  FnX prog 34 [kv,pv] [] A λr M J=>J=[]∧Sl 1 r 32 (nums .u8 (A8r key p)) M:=by
 haveI:=hp.cel;refine Ck (N:=9) func34 E E E λw=>?_;refine A8 (D0 0 1) (A1 (as_ (A0 (D0 0 1) (A1 (mv_ (mv_ ?_))))));refine A2 E (C4 (e:=22) (sz:=1) (z:=[vS]) kR (eS E e0) (bdS 0 1 E qR bd0) E λb7=>?_);refine A2 E (C9 (Mc:=[]) (R:=[_]) (aS E (aS E a0)) kR (.refl _) (A9s _ _ key [p] _ (hkey.mono λ_ h=>mA h) hk256 hk31 (B1L.of (Co (n:=1) m0 qR) E (.cons hp256 (hp.mono λ_ h=>mA h) .nil)) (by simpa using htot) qM (mA h0) (mA h1)) E ?_);rintro r M1 J1 ⟨rfl,hr⟩;refine as_ (A0 (D4 4) (A9 ?_));refine ⟨_,_,[],H8 E E,Ay _ _,by simp,E,W8 hr E ?_⟩;simp
theorem C4S{M0 M1 B1 D:Mem}(x:Nat×Obj):(M1++(B1++(x::(M0++D)))).Perm (M0++(M1++(B1++(x::D)))):=by
  have h:(M1++(B1++(x::(M0++D))))=(M1++B1++[x])++(M0++D):=by simp
  have h2:(M0++(M1++(B1++(x::D))))=M0++((M1++B1++[x])++D):=by simp
  rw [h,h2,<- Ap,<- Ap M0];exact List.Perm.append_right _ List.perm_append_comm
def B1m(p:LN):LN:=Y4 (0::p)++Y4 (1::p)
theorem A4m(pv:Value)(ps:List (LN))(A:Mem)(hp:B1L A pv ps)(htot:ps.flatten.length<=1073741824)(hcnt:ps.length<=1073741824)(h0:(0,Obj.cells (nums .u32 A3w.list).toArray ef ff)∈A)(h1:(1,Obj.cells (nums .u32 A2x).toArray ek fk)∈A) :
  FnX prog 103 [pv] [] A λr M J=>J=[]∧Sl 1 r 64 (nums .u8 (B1m ps.flatten)) M:=by
 obtain ⟨vs,hvs,hpv⟩:=hp.pv;refine Ck (N:=16) func103 E E E λw=>?_;refine A8 (D4 0) (A1 (as_ (A0 (D4 0) (A1 ?_))));refine A2 E (C4 (e:=5) (sz:=1) (z:=[zu8]) kR (eS E e0) (bdS 0 1 E qR bd0) E λb4=>?_);refine A2 E (C4 (e:=22) (sz:=1) (z:=[vS]) kR (eS E e0) (bdS 0 1 E qR bd0) E λb5=>?_);refine mv_ ?_;refine A2 E (V6 (e:=22) (sz:=1) (by_:=24) (n:=1) (m:=ps.length) (B:=[(b5,_)]) (M0:=_::[]) E E kR E (Sl.fresh E qD) (hvs.mono λ_ h=>mA h) hpv.one (.refl _) (by unfold maxLen;omega) qO E λv0 B0 hsl0=>?_);refine A2 E (C9 (Mc:=[]) (R:=B0++(_::[])) (aS E a0) kR (.refl _) (A1O v0 ([0]::ps) _ (B1L.of (hsl0.rd λ_ h=>by simp [h]) (by rw [List.length_cons];omega) (.cons qM (Co (n:=1) (b:=b4) (cs:=nums .u8 [0]) Cc qR) (hpv.mono λ_ h=>mA h))) (by rw [List.flatten_cons,An,List.length_singleton];omega) (by rw [List.length_cons];omega) (mA h0) (mA h1)) E ?_);rintro r0 M0 J0 ⟨rfl,hr0⟩;refine as_ (A0 (D0 0 3) (A1 (mv_ ?_)));refine A2 E (C4 (e:=5) (sz:=1) (z:=[zu8]) kR (eS E e0) (bdS 0 1 E qR bd0) E λb10=>?_);refine A2 E (C4 (e:=22) (sz:=1) (z:=[vS]) kR (eS E e0) (bdS 0 1 E qR bd0) E λb11=>?_);refine mv_ ?_;refine A2 E (V6 (e:=22) (sz:=1) (by_:=24) (n:=1) (m:=ps.length) (B:=[(b11,_)]) (M0:=_::(M0++(B0++[_]))) E E kR E (Sl.fresh E qD) (hvs.mono λ_ h=>mA h) hpv.one (.refl _) (by unfold maxLen;omega) qO E λv1 B1 hsl1=>?_);refine A2 E (C9 (Mc:=[]) (R:=B1++(_::(M0++(B0++[_])))) (aS E a0) kR (.refl _) (A1O v1 ([1]::ps) _ (B1L.of (hsl1.rd λ_ h=>by simp [h]) (by rw [List.length_cons];omega) (.cons qM (Co (n:=1) (b:=b10) (cs:=nums .u8 [1]) Cc qR) (hpv.mono λ_ h=>mA h))) (by rw [List.flatten_cons,An,List.length_singleton];omega) (by rw [List.length_cons];omega) (mA h0) (mA h1)) E ?_);rintro r1 M1 J1 ⟨rfl,hr1⟩;refine A2 E (V6 (e:=5) (sz:=1) (by_:=1) (n:=32) (m:=32) (B:=M0) (M0:=M1++(B1++(_::(B0++[_])))) E E kR E hr0 (hr1.rd λ_ h=>by simp [h]) E9 (C4S _) (by unfold maxLen;omega) qO E λv9 B9 hsl9=>?_);refine as_ (A0 (D4 2) (A9 ?_));refine ⟨_,_,[],H8 E E,Ay _ _,by simp,E,W8 hsl9 E ?_⟩;rw [<- H6];rfl

end Go.Proofs.YtglbhoeolghndaaGreatDoor
namespace Go.Px
def nv:List Nat->Nat
  | []=>0
  | w::r=>w+4294967296*nv r
def w32(ws:List Nat):Prop:=∀x∈ws,x<4294967296
def xp(n:Nat):Nat:=4294967296^n
theorem xp0:xp 0=1:=rfl
theorem xpS(n:Nat):xp (n+1)=xp n*4294967296:=Nat.pow_succ _ _
theorem A2I(a b:List Nat):nv (a++b)=nv a+xp a.length*nv b:=by
  induction a with
  | nil=>simp [nv,xp0]
  | cons x a ih=>simp only [Cu,nv,ih,List.length_cons,xpS];grind
theorem A3V(ws:List Nat)(j:Nat)(h:j<=ws.length):nv ws=nv (ws.take j)+xp j*nv (ws.drop j):=by
  conv=>lhs;rw [<- List.take_append_drop j ws,A2I,Bj,Nat.min_eq_left h]
variable{ws:List Nat}
theorem A1o{j:Nat}(h:j<ws.length):nv (ws.take (j+1))=nv (ws.take j)+xp j*ws.getD j 0:=by rw [Bh,Ab h,A2I,Bj,Nat.min_eq_left (by omega),List.getD,Ab h];simp [nv]
theorem B6i(h:w32 ws):nv ws<xp ws.length:=by
  induction ws with
  | nil=>simp [nv,xp0]
  | cons x ws ih =>
    have h1:=h x (by simp);have h2:=ih (λy hy=>h y (by simp [hy]));simp only [nv,List.length_cons,xpS];omega
theorem w32.take{ws:List Nat}(h:w32 ws)(n:Nat):w32 (ws.take n):=λx hx=>h x (Bw hx)
theorem w32.get(h:w32 ws)(n:Nat):ws.getD n 0<4294967296:=getD_lt h (by decide)
variable{a b:List Nat}
theorem w32.app(ha:w32 a)(hb:w32 b):w32 (a++b):=λx hx=>(List.mem_append.1 hx).elim (ha x) (hb x)
def tl(ws:List Nat):Nat->Nat
  | 0=>0
  | n+1=>if ws.getD n 0=0 then tl ws n else n+1
theorem A9t(ha:w32 a){j:Nat}(hj:j<a.length)(hl:a.length=b.length)(hlt:a.getD j 0<b.getD j 0)(he:a.drop (j+1)=b.drop (j+1)):nv a<nv b:=by have h1:=A3V a (j+1) (by omega);have h2:=A3V b (j+1) (by omega);rw [A1o hj,he] at h1;rw [A1o (by omega)] at h2;have h3:=B6i (ha.take j);rw [Bj,Nat.min_eq_left (by omega)] at h3;have h4:xp j*(a.getD j 0+1)<=xp j*b.getD j 0:=Nat.mul_le_mul_left _ hlt;rw [Nat.mul_add,Nat.mul_one] at h4;omega
end Go.Px

namespace Go.Px
def B6j(k p lo b:Nat):Nat:=if (lo+2^b)^k<=p*xp k then lo+2^b else lo
def C2y(k p:Nat):Nat->Nat->Nat
  | 0,lo=>lo
  | j+1,lo=>C2y k p j (B6j k p lo j)
def root(k p:Nat):Nat:=C2y k p 40 0%4294967296
end Go.Px

namespace Go.Px
def exp(key info:List Nat):Nat->List Nat×List Nat
  | 0=>([],[])
  | i+1=>((exp key info i).1++A8r key ((exp key info i).2++(info++[(i+1)%256])),A8r key ((exp key info i).2++(info++[(i+1)%256])))
theorem A0k(p:List Nat):(Y4 p).length=32:=by simp [Y4,S8.bytes,S8.list,B9N]
theorem A6a(key info:List Nat):∀i,(exp key info i).1.length=32*i
  | 0=>rfl
  | i+1=>by rw [exp,An,A6a key info i,A8r,A0k];omega
def rds(n:Int):Nat:=min 255 ((n.toNat+31)/32)
def Z8(key info:List Nat)(n:Int):List Nat:=(exp key info (rds n)).1.take n.toNat
theorem V4(key info:List Nat)(n:Int):(Z8 key info n).length=min n.toNat 8160:=by unfold Z8;rw [Bj,A6a];unfold rds;omega
end Go.Px

namespace Go.Proofs.YtglbhoeolghndaaGreatDoor
open Go.Px
theorem C4T{M B D:Mem}(x y:Nat×Obj):(M++(x::y::(B++D))).Perm (B++((M++[x,y])++D)):=by
  have h:M++(x::y::(B++D))=(M++[x,y])++(B++D):=by simp
  rw [h];exact List.perm_append_comm_assoc _ _ _
theorem A4n(key p:LN):∀x∈A8r key p,x<256:=A7q _
theorem A03(key p:LN):(A8r key p).length=32:=A4l _
theorem B9V(key info:LN):∀i,∀x∈(exp key info i).2,x<256
  | 0=>by simp [exp]
  | i+1=>A4n _ _
theorem B6k(key info:LN)(i:Nat):(exp key info i).2.length<=32:=by
  cases i with
  | zero=>simp [exp]
  | succ i=>rw [exp,A03];decide
theorem B1T(key info:LN):∀i,∀x∈(exp key info i).1,x<256
  | 0=>by simp [exp]
  | i+1=>λx hx=>(List.mem_append.1 hx).elim (B1T key info i x) (A4n _ _ x)
theorem A4o(kv iv:Value)(key info:LN)(n:Int)(A:Mem)(hkey:Rd A 1 kv key.length (nums .u8 key))(hk256:∀x∈key,x<256)(hk31:key.length<=1073741824)(hinfo:Rd A 1 iv info.length (nums .u8 info))(hi256:∀x∈info,x<256)(hi31:info.length<=536870912)(hn:n<1000000)(hn0:-1000000<n){ef ek:TypeId}{ff fk:Nat×Nat}(h0:(0,Obj.cells (nums .u32 A3w.list).toArray ef ff)∈A)(h1:(1,Obj.cells (nums .u32 A2x).toArray ek fk)∈A) :
  FnX prog 33 [kv,iv,.int .i64 n] [] A λr M J=>J=[]∧Rd M 1 r (Z8 key info n).length (nums .u8 (Z8 key info n)):=by
 haveI:=hinfo.cel;refine Ck (N:=40) func33 E E E λw=>?_;refine A8 (D6 0 1 2) (A1 (aS_ E (A0 (D6 0 1 2) (A1 (aS_ E (aS_ E (A0 (F2 0 1 2 7 8) (A3 (A1 (as_ (A0 (G7 0 1 2 7 8 9) (A7 ?_))))))))))));refine E5 (α:=Nat×Value×Value×Mem×Mem) (λx=>[(0,kv),(1,iv),(2,.int .i64 n),(7,x.2.1),(8,x.2.2.1),(9,.int .i64 ((x.1+1:Nat):Int))]) (λx=>x.2.2.2.1++x.2.2.2.2) (λ_=>[]) (λx=>x.1<=rds n∧Sl 1 x.2.1 (32*x.1) (nums .u8 (exp key info x.1).1) x.2.2.2.1∧Sl 1 x.2.2.1 (exp key info x.1).2.length (nums .u8 (exp key info x.1).2) x.2.2.2.2) (λx=>rds n-x.1) (0,vS,vS,[],[]) ⟨Am _,Sl.nil,Sl.nil⟩ (G7 0 1 2 7 8 9) .rfl qI ?_;rintro ⟨i,ov,lv,Bo,Bl⟩ ⟨hi,ho,hl⟩;dsimp only at hi ho hl ⊢;have hrd:rds n=min 255 ((n.toNat+31)/32):=rfl;have hl32:=B6k key info i;haveI:=hl.cel;refine A3 ?_;by_cases h32:(n:Int)<=((32*i:Nat):Int)
 .
  refine A1 (mV_ E (lQ_ (A1f (ho.rd λ_ h=>h) E kR) (mv_ ?_)));refine lQ_ (F5 false E E (ltF qO)) ?_;refine mv_ ?_;refine K0 E E E E ?_;refine K0 E E E E ?_;refine lQ_ (E3 E E) (A0 (N9 0 1 2 7 8 9 17) ?_);refine C7 E ?_;refine D8 (te (re (be E (nx (D0 2 7) (A1 (mV_ E (mV_ E (lQ_ (A1f (ho.rd λ_ h=>h) E kR) (lQ_ (A5q (if ((32*i:Nat):Int)<n then ((32*i:Nat):Int) else n) E E E) ?_)))))))));have hend:i=rds n:=by omega
  subst hend;refine lQ_ (B1B ((min n.toNat (32*rds n):Nat):Int) E E (by split<;>split<;>omega)) ?_;have hkl:min n.toNat (32*rds n)=(Z8 key info n).length:=by rw [V4];omega
  obtain ⟨pp,cc,rfl,hpc⟩:=ho.val;refine as_ (A0 (D0 2 7) (A1 (mv_ (mv_ (mv_ ?_)))));refine lQ_ (A3g (e:=5) (sz:=1) E kR kR o0 (o1 (min n.toNat (32*rds n)) E E) (o1 (min n.toNat (32*rds n)) E E) qM (by simp;omega) qM qM) ?_;refine as_ (A0 (D4 6) (A9 ?_));refine ⟨_,Bo,[],H8 E E,Ay _ _,by simp,E,?_⟩;have:=Rd.part (ho.rd λ_ h=>h) 0 (min n.toNat (32*rds n)) (min n.toNat (32*rds n)) (Am _) (Nat.min_le_right _ _) (Av _);refine A0C this (by simpa using hkl) ?_;rw [Nat.zero_mul,List.drop_zero,Nat.sub_zero,Nat.mul_one,<- A1m]
  have e:((exp key info (rds n)).1).take (min n.toNat (32*rds n))=Z8 key info n:=by unfold Z8;rw [List.take_eq_take_iff,A6a];omega
  rw [e]
 .
  refine A1 (mV_ E (lQ_ (A1f (ho.rd λ_ h=>h) E kR) (mv_ ?_)));refine lQ_ (F5 true E E (ltT qO)) ?_;refine mv_ ?_;refine F4 E E (Cn qm_ E ?_);refine F4 E E (Cn (E8 E E E) E ?_);refine lQ_ (G4 E E) (A0 (N9 0 1 2 7 8 9 17) ?_);refine C3 E ?_ ?_<;>intro hc
  .
   have hlt:i<255:=by simp at hc;omega
   refine A6 (nx (G7 0 1 2 7 8 9) (A3 (A7 (A1 (mV_ E (mV_ E (mV_ E (mV_ E (lQ_ (A12 E kR) ?_)))))))));refine A2 E (C4 (e:=5) (sz:=1) (z:=[zu8]) kR (eS E e0) (bdS 0 1 E qR bd0) E λb25=>?_);refine A2 E (C4 (e:=22) (sz:=1) (z:=[vS,vS,vS]) kR (eS E (eS E (eS E e0))) (bdS 0 1 E qR (bdS 1 1 E qR (bdS 2 1 E qR bd0))) E λb26=>?_);refine A2 E (C9 (Mc:=[]) (R:=_::_::(Bo++Bl)) (aS E (aS E a0)) kR (.refl _) (A9s _ _ key [(exp key info i).2,info,[(i+1)%256]] _ (hkey.mono λ_ h=>mA h) hk256 hk31 (B1L.of (Co (n:=3) m0 qR) E (.cons (B9V _ _ _) (hl.rd λ_ h=>by simp [h]) (.cons hi256 (hinfo.mono λ_ h=>mA h) (.cons (by intro x hx;simp at hx;subst hx;exact Ad _ qD) (Co (n:=1) (cs:=nums .u8 [(i+1)%256]) Cc qR) .nil)))) (by simp;omega) qM (mA h0) (mA h1)) E ?_);rintro r27 M27 J1 ⟨rfl,h27⟩;rw [show [(exp key info i).2,info,[(i+1)%256]].flatten=(exp key info i).2++(info++[(i+1)%256]) from by simp] at h27;refine as_ (A0 (G7 0 1 2 7 8 9) (C1 (mv_ (mv_ ?_))));refine A2 E (V6 (e:=5) (sz:=1) (by_:=1) (m:=32) (B:=Bo) (M0:=(M27++[_,_])++Bl) E E kR E ho (h27.rd λ_ h=>by simp [h]) E9 (C4T _ _) (by unfold maxLen;omega) qO E λov1 Bo1 ho1=>?_);refine as_ (C5 (nb (nx (G7 0 1 2 7 8 9) (C1 (mv_ ?_)))));refine lQ_ (D5 ((i+1+1:Nat):Int) E E (F7 qO qO qO)) ?_;refine as_ (C5 ?_);refine rn (i+1,ov1,r27,Bo1,M27) ⟨by dsimp only;omega,W8 ho1 (by dsimp only;omega) (by rw [<- H6];rfl),W8 h27 (by dsimp only;rw [exp,A03]) E⟩ (by dsimp only;omega) (G7 0 1 2 7 8 9) (Ci (List.Sublist.append (Ao _) ((Ay _ _).trans (Ay _ _)))) qI
  .
   have hend:i=rds n:=by simp at hc;omega
   refine D8 (te (re (be E (nx (D0 2 7) (A1 (mV_ E (mV_ E (lQ_ (A1f (ho.rd λ_ h=>h) E kR) (lQ_ (A5q (if ((32*i:Nat):Int)<n then ((32*i:Nat):Int) else n) E E E) ?_)))))))));subst hend;refine lQ_ (B1B ((min n.toNat (32*rds n):Nat):Int) E E (by split<;>split<;>omega)) ?_;have hkl:min n.toNat (32*rds n)=(Z8 key info n).length:=by rw [V4];omega
   obtain ⟨pp,cc,rfl,hpc⟩:=ho.val;refine as_ (A0 (D0 2 7) (A1 (mv_ (mv_ (mv_ ?_)))));refine lQ_ (A3g (e:=5) (sz:=1) E kR kR o0 (o1 (min n.toNat (32*rds n)) E E) (o1 (min n.toNat (32*rds n)) E E) qM (by simp;omega) qM qM) ?_;refine as_ (A0 (D4 6) (A9 ?_));refine ⟨_,Bo,[],H8 E E,Ay _ _,by simp,E,?_⟩;have:=Rd.part (ho.rd λ_ h=>h) 0 (min n.toNat (32*rds n)) (min n.toNat (32*rds n)) (Am _) (Nat.min_le_right _ _) (Av _);refine A0C this (by simpa using hkl) ?_;rw [Nat.zero_mul,List.drop_zero,Nat.sub_zero,Nat.mul_one,<- A1m]
   have e:((exp key info (rds n)).1).take (min n.toNat (32*rds n))=Z8 key info n:=by unfold Z8;rw [List.take_eq_take_iff,A6a];omega
   rw [e]

end Go.Proofs.YtglbhoeolghndaaGreatDoor
namespace Go.Px
def Sk(K:Nat->Prop)(w w':World):Prop:=∀b,b<w.heap.size->¬K b->w'.heap[b]? = w.heap[b]?
variable{R:Mem}
theorem Sk.fx{K:Nat->Prop}{w w':World}(h:Sk K w w')(hR:∀x∈R,¬K x.1)(hw:Fx R w):Fx R w':=λb o hb=>by have h1:=hw b o hb;rw [h b (T4 h1) (hR _ hb)];exact h1
def XK(C:Cx)(os:List Oper)(Q:XQ)(K:Nat->Prop)(n0:Nat)(nd:List Nat)(plan:List (Nat×Nat))(l:Env)(M J:Mem):Prop :=
  ∀listed,Q9 os.toArray listed->L1 os.toArray nd plan listed=true->∀a w,Ag C.N l a->St C M J w->n0<=w.heap.size ->
    A0E C.P os.toArray (T5 (A8q C Q)) (Sk K) nd.contains plan.length listed a w
variable{ops:Array Oper}{i id d j t:Nat}{c2 c:Code}{l':Env}{op:Op}{ty:TypeId}{pos:String}{af:Array Edge}{g:Option (Nat×Bool)}{v:Value}{o oj:Oper}{b:Bool}
section plan
variable{C:Cx}{Q:XQ}{l:Env}{M J:Mem}{os:List Oper}{K:Nat->Prop}{n0:Nat}{nd:List Nat}{plan:List (Nat×Nat)}
theorem B0E{T:World->Prop}{S:World->World->Prop}{nd:List Nat}{listed:Array Bool}(h:B1u ops nd listed i=true)(hT:∀w w',T w->S w w'->T w')(j:Nat)(hlt:j<ops.size)(hji:j≠i)(hun:listed.getD j true=false):anc ops ops.size j i=true∨∀w w',T w->(nd.contains j=true->S w w')->T w':=by
  have h1:=List.all_eq_true.1 h j (List.mem_range.2 hlt);simp only [Bool.or_eq_true,beq_iff_eq,hji,hun,false_or,Bool.false_eq_true] at h1;rcases h1 with h1|h1
  . exact .inr λw w' hS hw=>hT w w' hS (hw h1)
  . exact .inl h1
theorem Y5(Mv Ms:Mem)(nv:Bool)(nd:List Nat)(plan:List (Nat×Nat))(hm:C.P.follows .mixedOrders=true)(hp:A0d os nd plan=true)(hM:M.Perm (Mv++Ms))
    (h:Region.noSelect os.toArray=true->∀(K:Nat->Prop) n0,(∀x∈Mv,K x.1)->(∀x∈Ms++(J++C.A),¬K x.1)->(nv=true->∀b,n0<=b->K b)->XK C os Q K n0 nd plan l (Mv++Ms) J):XC C (.region id os.toArray true) Q l M J:=by
  intro a w ha hw0;have hw:=hw0.perm hM;simp only [A0d,Bool.and_eq_true,beq_iff_eq] at hp;obtain ⟨⟨h1,h3⟩,h4⟩:=hp;refine Code.wp_mono (Q:=T5 (A8q C Q)) (λe a w h=>by cases e<;>first|exact h|exact h.elim) ?_
  let K:Nat->Prop:=λb=>b∈Mv.map Prod.fst∨(nv=true∧w.heap.size<=b)
  refine wp_region_any hm (A1K (S:=Sk K) (need:=nd.contains) _ _ _ _ ?_);have hK1:∀x∈Mv,K x.1:=λx hx=>.inl (Al (f:=Prod.fst) hx);have hcal:=hw.callee (.refl _)
  have hK2:∀x∈Ms++(J++C.A),¬K x.1:=by
    rintro ⟨b,o⟩ hx hk;have h5:=hcal.sepA b o hx;rcases hk with hk|⟨_,hk⟩
    . exact h5.1 hk
    . exact absurd h5.2 (Nat.not_lt.2 hk)
  have:=h h1 K w.heap.size hK1 hK2 (λhn b hb=>.inr ⟨hn,hb⟩) (Array.replicate os.length false) (λj oj _ hl=>by simp [Array.getElem?_replicate] at hl;split at hl<;>simp at hl) h4 a _ ha hw.drew (Av _);rw [h3] at this;simpa using this
theorem F8(Mv Ms:Mem)(nv:Bool)(nd:List Nat)(plan:List (Nat×Nat))(hm:C.P.follows .mixedOrders=true)(hp:A0d os nd plan=true)(hM:M.Perm (Mv++Ms))
    (h:Region.noSelect os.toArray=true->∀(K:Nat->Prop) n0,(∀x∈Mv,K x.1)->(∀x∈Ms++(J++C.A),¬K x.1)->(nv=true->∀b,n0<=b->K b)->XK C os (A3N C c2 Q) K n0 nd plan l (Mv++Ms) J):XC C (.seq (.region id os.toArray true) c2) Q l M J :=
  A3 (Y5 Mv Ms nv nd plan hm hp hM h)
theorem A3z(h:Q .normal l M J):XK C os Q K n0 nd [] l M J:=by intro listed hcl hp a w ha hw hf;simp only [L1,List.isEmpty_iff] at hp;exact ⟨hp,l,M,J,ha,hw,h⟩
theorem I1(hk:Keep l l')(h:XC C c Q l' M J):XK C os (A3N C c Q) K n0 nd [] l M J:=A3z (A8 hk h)
theorem A2j{M':Mem}(hM:M.Perm M')(h:XK C os Q K n0 nd plan l M' J):XK C os Q K n0 nd plan l M J:=λlisted hcl hp a w ha hw hn=>h listed hcl hp a w ha (hw.perm hM) hn
theorem A6b(hs:Region.noSelect os.toArray=true)
    (hget:nth os i=some ⟨some d,op,ty,pos,af,g⟩) (hR:∀x∈R,x∈M++(J++C.A)) (hn:∀x∈R,¬K x.1)
    (hy:∀a,Ag C.N l a->YieldsIf C.P os.toArray (Fx R) ⟨some d,op,ty,pos,af,g⟩ v a) (hd:Nat.blt d C.N=true)
    (h:XK C os Q K n0 nd plan ((d,v)::l) M J):XK C os Q K n0 nd ((i,1)::plan) l M J:=by
  intro listed hcl hp a w ha hw hf;simp only [L1,Bool.and_eq_true] at hp;obtain ⟨⟨⟨h1,h2⟩,h5⟩,h4⟩:=hp;have hi:os.toArray[i]? = some ⟨some d,op,ty,pos,af,g⟩:=by rw [X0] at hget;simpa using hget
  have hr:i∈Region.ready .any os.toArray listed:=by simpa using h1
  exact Y3 (S:=Sk K) (T:=Fx R) (N:=os.toArray.size) hi (Region.noSelect_spec hs) (λ_ _ _ h=>h) (λ_ _ _ _=>rfl) _ listed a w hcl (Region.free_spec hi h2) (B0E h5 λw w' hT hS=>hS.fx hn hT) hr (hy a ha) (λb o hb=>hw.fx b o (hR _ hb))
    (h _ (I9 hcl hr) h4 _ w (ha.put (P1 hd) v) hw hf)
theorem A6c(hs:Region.noSelect os.toArray=true)
    (hget:nth os i=some ⟨some d,op,ty,pos,af,g⟩)
    (hy:∀a,Ag C.N l a->YieldsIf C.P os.toArray (λ_=>True) ⟨some d,op,ty,pos,af,g⟩ v a) (hd:Nat.blt d C.N=true)
    (h:XK C os Q K n0 nd plan ((d,v)::l) M J):XK C os Q K n0 nd ((i,0)::plan) l M J:=by
  intro listed hcl hp a w ha hw hf;simp only [L1,Bool.and_eq_true] at hp;obtain ⟨⟨h1,h2⟩,h4⟩:=hp;have hi:os.toArray[i]? = some ⟨some d,op,ty,pos,af,g⟩:=by rw [X0] at hget;simpa using hget
  have hr:i∈Region.ready .any os.toArray listed:=by simpa using h1
  exact Y3 (S:=Sk K) (T:=λ_=>True) (N:=0) hi (Region.noSelect_spec hs) (λ_ _ _ h=>h) (λ_ _ _ _=>rfl) _ listed a w hcl (Region.free_spec hi h2) (λ_ _ _ _=>.inr λ_ _ _ _=>trivial) hr (hy a ha) trivial
    (h _ (I9 hcl hr) h4 _ w (ha.put (P1 hd) v) hw hf)
section ops
variable{i d j t:Nat}{op:Op}{ty:TypeId}{pos:String}{af:Array Edge}{b b':Bool}{v:Value}{oj:Oper}{R:Mem}
theorem C4U(hs:Region.noSelect os.toArray=true)(hget:nth os i=some ⟨some d,op,ty,pos,af,none⟩)(hq:OpQ C.P [] ⟨some d,op,ty,pos,af,none⟩ l v)(hd:Nat.blt d C.N=true)
    (h:XK C os Q K n0 nd plan ((d,v)::l) M J):XK C os Q K n0 nd ((i,0)::plan) l M J :=
  A6c hs hget (λa ha=>.inl ⟨rfl,λw hw=>hq C.N a w ha (λ_ _ hb=>by cases hb)⟩) hd h
theorem XK.r(hs:Region.noSelect os.toArray=true)(hget:nth os i=some ⟨some d,op,ty,pos,af,none⟩)(hR:∀x∈R,x∈M++(J++C.A))(hn:∀x∈R,¬K x.1)(hq:OpQ C.P R ⟨some d,op,ty,pos,af,none⟩ l v)(hd:Nat.blt d C.N=true)
    (h:XK C os Q K n0 nd plan ((d,v)::l) M J):XK C os Q K n0 nd ((i,1)::plan) l M J :=
  A6b hs hget hR hn (λa ha=>.inl ⟨E,λw hw=>hq C.N a w ha hw⟩) hd h
theorem A4p(hs:Region.noSelect os.toArray=true)(hget:nth os i=some ⟨some d,op,ty,pos,af,some (j,b)⟩)(hj:nth os j=some oj)(ht:oj.dst=some t)(hl:lk l t=some (.bool b))(hq:OpQ C.P [] ⟨some d,op,ty,pos,af,some (j,b)⟩ l v)(hd:Nat.blt d C.N=true)
    (h:XK C os Q K n0 nd plan ((d,v)::l) M J):XK C os Q K n0 nd ((i,0)::plan) l M J :=
  A6c hs hget (λa ha=>.inl ⟨B1A (i:=i) ha hj ht hl,λw hw=>hq C.N a w ha (λ_ _ hb=>by cases hb)⟩) hd h
theorem B6l(hs:Region.noSelect os.toArray=true)(hget:nth os i=some ⟨some d,op,ty,pos,af,some (j,b)⟩)(hj:nth os j=some oj)(ht:oj.dst=some t)(hl:lk l t=some (.bool b))(hR:∀x∈R,x∈M++(J++C.A))(hn:∀x∈R,¬K x.1)(hq:OpQ C.P R ⟨some d,op,ty,pos,af,some (j,b)⟩ l v)(hd:Nat.blt d C.N=true)
    (h:XK C os Q K n0 nd plan ((d,v)::l) M J):XK C os Q K n0 nd ((i,1)::plan) l M J :=
  A6b hs hget hR hn (λa ha=>.inl ⟨B1A (i:=i) ha hj ht hl,λw hw=>hq C.N a w ha hw⟩) hd h
theorem A0s(hs:Region.noSelect os.toArray=true)(hget:nth os i=some ⟨some d,op,ty,pos,af,some (j,b)⟩)(hj:nth os j=some oj)(ht:oj.dst=some t)(hl:lk l t=some (.bool b'))(hb:(b'==b)=false)(hd:Nat.blt d C.N=true)
    (h:XK C os Q K n0 nd plan ((d,undef)::l) M J):XK C os Q K n0 nd ((i,0)::plan) l M J :=
  A6c hs hget (λa ha=>.inr ⟨A8y (i:=i) ha hj ht hl hb,E⟩) hd h
theorem A6d(hs:Region.noSelect os.toArray=true)(hget:nth os i=some ⟨some d,op,ty,pos,af,some (j,b)⟩)(hj:nth os j=some oj)(ht:oj.dst=some t)(hl:lk l t=some (.bool b'))(hb:(b'==b)=false)(hd:Nat.blt d C.N=true)
    (h:XK C os Q K n0 nd plan ((d,undef)::l) M J):XK C os Q K n0 nd ((i,1)::plan) l M J :=
  A6b (R:=[]) hs hget (λ_ h=>by cases h) (λ_ h=>by cases h) (λa ha=>.inr ⟨A8y (i:=i) ha hj ht hl hb,rfl⟩) hd h
end ops
theorem B1U{Mc:Mem}(hget:nth os i=some o)(hw':∀a,Ag C.N l a->Region.wanted o (yielded os.toArray a.tmps)=true)(hM:M.Perm (Mc++R))(hK:∀x∈Mc,K x.1)
    (h:∀w,OpL ⟨C.P,w,Mc.map Prod.fst,R++(J++C.A),C.N⟩ o l Mc [] (λl' M' J'=>((∀b,n0<=b->K b)->∀x∈M',K x.1)->XK C os Q K n0 nd plan l' (M'++R) (J'++J))) :
    XK C os Q K n0 nd ((i,2)::plan) l M J:=by
  intro listed hcl hp a w ha hw hf;simp only [L1,Bool.and_eq_true,beq_iff_eq] at hp;obtain ⟨h1,h2⟩:=hp;have hi:os.toArray[i]? = some o:=by rw [X0] at hget;simpa using hget
  refine ⟨λh0=>(by rw [h1] at h0;cases h0),λj hj=>?_⟩;have hr:=hj;rw [h1] at hj;simp only [List.mem_singleton] at hj;subst hj;unfold wpOp;simp only [hi];rw [if_pos (hw' a ha)];refine .inl (Oper.wp_mono ?_ (h w _ a w ha (hw.callee hM).cx));rintro a' w' ⟨l',M',J',ha',hs',hk⟩;have hsz:w.heap.size<=w'.heap.size:=hs'.size;refine ⟨λ_ b hb hnk=>hs'.frame b hb λhm=>?_,hk ?_ _ (I9 hcl hr) h2 a' w' ha' (hw.back hM hs'.cx) (Az hf hsz)⟩
  . obtain ⟨x,hx,e⟩:=List.mem_map.1 hm;exact hnk (e▸hK x hx)
  . rintro hup ⟨b,o'⟩ hx;rcases hs'.own b o' (by simp [hx]) with h6|h6
    . obtain ⟨x,hx,e⟩:=List.mem_map.1 h6;exact e▸hK x hx
    . exact hup b (Az hf h6)
theorem H0(Mc R:Mem)(hget:nth os i=some o)(hg:o.guard=none)(hM:M.Perm (Mc++R))(hK:∀x∈Mc,K x.1)
    (h:∀w,OpL ⟨C.P,w,Mc.map Prod.fst,R++(J++C.A),C.N⟩ o l Mc [] (λl' M' J'=>((∀b,n0<=b->K b)->∀x∈M',K x.1)->XK C os Q K n0 nd plan l' (M'++R) (J'++J))) :
    XK C os Q K n0 nd ((i,2)::plan) l M J:=B1U hget (λa ha=>by simp [Region.wanted,hg]) hM hK h
theorem C2z{d:Option Nat}(Mc R:Mem)(hget:nth os i=some ⟨d,op,ty,pos,af,some (j,b)⟩)(hj:nth os j=some oj)(ht:oj.dst=some t)(hl:lk l t=some (.bool b))(hM:M.Perm (Mc++R))(hK:∀x∈Mc,K x.1)
    (h:∀w,OpL ⟨C.P,w,Mc.map Prod.fst,R++(J++C.A),C.N⟩ ⟨d,op,ty,pos,af,some (j,b)⟩ l Mc [] (λl' M' J'=>((∀b,n0<=b->K b)->∀x∈M',K x.1)->XK C os Q K n0 nd plan l' (M'++R) (J'++J))) :
    XK C os Q K n0 nd ((i,2)::plan) l M J:=B1U hget (λa ha=>by
      have hj':os.toArray[j]? = some oj:=by rw [X0] at hj;simpa using hj
      simp only [Region.wanted,yielded,hj',Option.bind_some,ht,ha.slot _ _ hl];simp) hM hK h
theorem B9W(hget:nth os i=some ⟨some d,op,ty,pos,af,g⟩)(hw':∀a,Ag C.N l a->Region.wanted ⟨some d,op,ty,pos,af,g⟩ (yielded os.toArray a.tmps)=false)(hd:Nat.blt d C.N=true)
    (h:XK C os Q K n0 nd plan ((d,undef)::l) M J):XK C os Q K n0 nd ((i,2)::plan) l M J:=by
  intro listed hcl hp a w ha hw hf;simp only [L1,Bool.and_eq_true,beq_iff_eq] at hp;obtain ⟨h1,h2⟩:=hp;have hi:os.toArray[i]? = some ⟨some d,op,ty,pos,af,g⟩:=by rw [X0] at hget;simpa using hget
  refine ⟨λh0=>(by rw [h1] at h0;cases h0),λj hj=>?_⟩;have hr:=hj;rw [h1] at hj;simp only [List.mem_singleton] at hj;subst hj;unfold wpOp;simp only [hi];rw [if_neg (by rw [hw' a ha];simp)];exact ⟨λ_ _ _ _=>rfl,h _ (I9 hcl hr) h2 _ w (ha.put (P1 hd) undef) hw hf⟩
theorem B6m{b':Bool}(hget:nth os i=some ⟨some d,op,ty,pos,af,some (j,b)⟩)(hj:nth os j=some oj)(ht:oj.dst=some t)(hl:lk l t=some (.bool b'))(hb:(b'==b)=false)(hd:Nat.blt d C.N=true)
    (h:XK C os Q K n0 nd plan ((d,undef)::l) M J):XK C os Q K n0 nd ((i,2)::plan) l M J :=
  B9W hget (λa ha=>A8y (i:=i) ha hj ht hl hb) hd h
theorem A3W(hl:lk l t=some (.bool b))(h1:b=true->XK C os Q K n0 nd plan ((t,.bool true)::l) M J)(h2:b=false->XK C os Q K n0 nd plan ((t,.bool false)::l) M J) :
    XK C os Q K n0 nd plan l M J:=by
  intro listed hcl hp a w ha hw hf
  have key:∀b',b=b'->Ag C.N ((t,.bool b')::l) a:=by
    rintro b' rfl;refine ha.sub ?_;intro i v hi;simp only [lk] at hi;by_cases e:t=i
    . subst e;simp at hi;subst hi;exact hl
    . simpa only [A0m e,cond_false] using hi
  cases b
  . exact h2 E listed hcl hp a w (key _ E) hw hf
  . exact h1 E listed hcl hp a w (key _ E) hw hf
end plan
def XF(C:Cx)(os:List Oper)(Q:XQ)(nd:List Nat)(plan:List (Nat×Nat))(l:Env)(M J:Mem):Prop:=XK C os Q (λ_=>False) 0 nd plan l M J
section free
variable{C:Cx}{Q:XQ}{l:Env}{M J:Mem}{os:List Oper}{nd:List Nat}{plan:List (Nat×Nat)}
theorem H3(nd:List Nat)(plan:List (Nat×Nat))(hm:C.P.follows .mixedOrders=true)(hp:A0d os nd plan=true)(h:Region.noSelect os.toArray=true->XF C os Q nd plan l M J):XC C (.region id os.toArray true) Q l M J:=by intro a w ha hw;simp only [A0d,Bool.and_eq_true,beq_iff_eq] at hp;obtain ⟨⟨h1,h3⟩,h4⟩:=hp;refine Code.wp_mono (Q:=T5 (A8q C Q)) (λe a w h=>by cases e<;>first|exact h|exact h.elim) ?_;refine wp_region_any hm (A1K (S:=Sk λ_=>False) (need:=nd.contains) _ _ _ _ ?_);have:=h h1 (Array.replicate os.length false) (λj oj _ hl=>by simp [Array.getElem?_replicate] at hl;split at hl<;>simp at hl) h4 a _ ha hw.drew (Am _);rw [h3] at this;simpa using this
theorem C8(nd:List Nat)(plan:List (Nat×Nat))(hm:C.P.follows .mixedOrders=true)(hp:A0d os nd plan=true)(h:Region.noSelect os.toArray=true->XF C os (A3N C c2 Q) nd plan l M J):XC C (.seq (.region id os.toArray true) c2) Q l M J :=
  A3 (H3 nd plan hm hp h)
theorem R7(h:Q .normal l M J):XF C os Q nd [] l M J:=A3z h
theorem E0(hk:Keep l l')(h:XC C c Q l' M J):XF C os (A3N C c Q) nd [] l M J:=I1 hk h
theorem X9(hl:lk l t=some (.bool b))(h1:b=true->XF C os Q nd plan ((t,.bool true)::l) M J)(h2:b=false->XF C os Q nd plan ((t,.bool false)::l) M J):XF C os Q nd plan l M J:=A3W hl h1 h2
section ops
variable{i d j t:Nat}{op:Op}{ty:TypeId}{pos:String}{af:Array Edge}{b b':Bool}{v:Value}{oj:Oper}
theorem C4V(hs:Region.noSelect os.toArray=true)(hget:nth os i=some ⟨some d,op,ty,pos,af,none⟩)(hq:OpQ C.P [] ⟨some d,op,ty,pos,af,none⟩ l v)(hd:Nat.blt d C.N=true)
    (h:XF C os Q nd plan ((d,v)::l) M J):XF C os Q nd ((i,0)::plan) l M J:=C4U hs hget hq hd h
theorem XF.r(hs:Region.noSelect os.toArray=true)(hget:nth os i=some ⟨some d,op,ty,pos,af,none⟩)(hq:OpQ C.P (M++(J++C.A)) ⟨some d,op,ty,pos,af,none⟩ l v)(hd:Nat.blt d C.N=true)
    (h:XF C os Q nd plan ((d,v)::l) M J):XF C os Q nd ((i,1)::plan) l M J:=XK.r hs hget (λ_ h=>h) (λ_ _ h=>h) hq hd h
theorem C4W(hs:Region.noSelect os.toArray=true)(hget:nth os i=some ⟨some d,op,ty,pos,af,some (j,b)⟩)(hj:nth os j=some oj)(ht:oj.dst=some t)(hl:lk l t=some (.bool b))(hq:OpQ C.P [] ⟨some d,op,ty,pos,af,some (j,b)⟩ l v)(hd:Nat.blt d C.N=true)
    (h:XF C os Q nd plan ((d,v)::l) M J):XF C os Q nd ((i,0)::plan) l M J:=A4p hs hget hj ht hl hq hd h
theorem C4X(hs:Region.noSelect os.toArray=true)(hget:nth os i=some ⟨some d,op,ty,pos,af,some (j,b)⟩)(hj:nth os j=some oj)(ht:oj.dst=some t)(hl:lk l t=some (.bool b))(hq:OpQ C.P (M++(J++C.A)) ⟨some d,op,ty,pos,af,some (j,b)⟩ l v)(hd:Nat.blt d C.N=true)
    (h:XF C os Q nd plan ((d,v)::l) M J):XF C os Q nd ((i,1)::plan) l M J:=B6l hs hget hj ht hl (λ_ h=>h) (λ_ _ h=>h) hq hd h
theorem C4Y(hs:Region.noSelect os.toArray=true)(hget:nth os i=some ⟨some d,op,ty,pos,af,some (j,b)⟩)(hj:nth os j=some oj)(ht:oj.dst=some t)(hl:lk l t=some (.bool b'))(hb:(b'==b)=false)(hd:Nat.blt d C.N=true)
    (h:XF C os Q nd plan ((d,undef)::l) M J):XF C os Q nd ((i,0)::plan) l M J:=A0s hs hget hj ht hl hb hd h
theorem C4Z(hs:Region.noSelect os.toArray=true)(hget:nth os i=some ⟨some d,op,ty,pos,af,some (j,b)⟩)(hj:nth os j=some oj)(ht:oj.dst=some t)(hl:lk l t=some (.bool b'))(hb:(b'==b)=false)(hd:Nat.blt d C.N=true)
    (h:XF C os Q nd plan ((d,undef)::l) M J):XF C os Q nd ((i,1)::plan) l M J:=A6d hs hget hj ht hl hb hd h
theorem A7s(hs:Region.noSelect os.toArray=true)(hget:nth os i=some ⟨some d,op,ty,pos,af,some (j,b)⟩)(hj:nth os j=some oj)(ht:oj.dst=some t)(hl:lk l t=some (.bool b'))(hb:(b'==b)=false)(hd:Nat.blt d C.N=true)
    (h:XF C os Q nd plan ((d,undef)::l) M J):XF C os Q nd ((i,2)::plan) l M J:=B6m hget hj ht hl hb hd h
end ops
theorem B6n(hget:nth os i=some o)(hg:o.guard=none)
    (h:∀w,OpL ⟨C.P,w,[],M++(J++C.A),C.N⟩ o l [] [] (λl' M' J'=>XF C os Q nd plan l' (M'++M) (J'++J))):XF C os Q nd ((i,2)::plan) l M J :=
  H0 [] M hget hg (.refl _) (λ_ h=>by cases h) λw=>(h w).mono λ_ _ _ hh _=>hh
theorem C2A{d:Option Nat}(hget:nth os i=some ⟨d,op,ty,pos,af,some (j,b)⟩)(hj:nth os j=some oj)(ht:oj.dst=some t)(hl:lk l t=some (.bool b))
    (h:∀w,OpL ⟨C.P,w,[],M++(J++C.A),C.N⟩ ⟨d,op,ty,pos,af,some (j,b)⟩ l [] [] (λl' M' J'=>XF C os Q nd plan l' (M'++M) (J'++J))):XF C os Q nd ((i,2)::plan) l M J :=
  C2z [] M hget hj ht hl (.refl _) (λ_ h=>by cases h) λw=>(h w).mono λ_ _ _ hh _=>hh
end free
section tails
variable{C:Cx}{Q:XQ}{l:Env}{M J:Mem}{os:List Oper}{K:Nat->Prop}{n0:Nat}{nd:List Nat}{plan:List (Nat×Nat)}
theorem B1V(hget:nth os i=some o)(hw':∀a,Ag C.N l a->Region.wanted o (yielded os.toArray a.tmps)=true)(hnd:nd.contains i=false)
    (h:OpL C o l M J (λl' M' J'=>XK C os Q K 0 nd plan l' M' J')):XK C os Q K 0 nd ((i,2)::plan) l M J:=by
  intro listed hcl hp a w ha hw hf;simp only [L1,Bool.and_eq_true,beq_iff_eq] at hp;obtain ⟨h1,h2⟩:=hp;have hi:os.toArray[i]? = some o:=by rw [X0] at hget;simpa using hget
  refine ⟨λh0=>(by rw [h1] at h0;cases h0),λj hj=>?_⟩;have hr:=hj;rw [h1] at hj;simp only [List.mem_singleton] at hj;subst hj;unfold wpOp;simp only [hi];rw [if_pos (hw' a ha)];refine .inl (Oper.wp_mono ?_ (h _ a w ha hw));rintro a' w' ⟨l',M',J',ha',hs',hk⟩;exact ⟨λhn=>absurd hn (by rw [hnd];decide),hk _ (I9 hcl hr) h2 a' w' ha' hs' (Am _)⟩
theorem G1(hget:nth os i=some o)(hg:o.guard=none)(hnd:nd.contains i=false)(h:OpL C o l M J (λl' M' J'=>XF C os Q nd plan l' M' J')):XF C os Q nd ((i,2)::plan) l M J :=
  B1V hget (λa ha=>by simp [Region.wanted,hg]) hnd h
end tails
def XR(C:Cx)(c:Code)(Q:XQ)(n:Nat)(l:Env)(M J:Mem):Prop:=∀a w,Ag C.N l a->St C M J w->Code.rounds C.P c (A8q C Q) n a w
def unX(C:Cx)(c:Code)(Q:XQ)(n:Nat):XQ
  | .normal,l,M,J=>XR C c Q n l M J
  | e,l,M,J=>Q e l M J
section unroll
variable{C:Cx}{Q:XQ}{l l':Env}{M J:Mem}{c:Code}{n:Nat}
theorem Y6(n:Nat)(h:XR C c Q n l M J):XC C (.loop c) Q l M J:=λa w ha hw=>wp_loop_rounds n (h a w ha hw)
theorem I2(h:XC C c (unX C c Q n) l M J):XR C c Q (n+1) l M J:=by
  intro a w ha hw;refine Code.wp_mono ?_ (h a w ha hw);rintro e a' w' ⟨l',M',J',ha',hw',hq⟩
  cases e with
  | normal=>exact hq a' w' ha' hw'
  | _=>exact ⟨l',M',J',ha',hw',hq⟩
theorem un(hk:Keep l l')(h:XR C c Q n l' M J):unX C c Q n .normal l M J:=λa w ha hw=>h a w (ha.sub hk.lk) hw
theorem ue(h:Q (.exit i) l M J):unX C c Q n (.exit i) l M J:=h
end unroll
variable{rest:List Oper}
section call
variable{C:Cx}{Q:XQ}{l:Env}{M J:Mem}{d i j t:Nat}{ty:TypeId}{pos:String}{af:Array Edge}{b:Bool}{f:FuncId}{xs:List Operand}{vs:List Value}{ts:Array TypeId}{post:Value->Mem->Mem->Prop}{K:Env->Mem->Mem->Prop}{g:Option (Nat×Bool)}
theorem E2(hx:Evs l xs vs)(hc:K8 C.P f=true)
    (hf:FnX C.P f vs [] (M++(J++C.A)) post) (hd:Nat.blt d C.N=true) (k:∀v M' J',post v M' J'->K ((d,v)::l) (M'++M) (J'++J)) :
    OpL C ⟨some d,.call { callee:=.value (.func f),args:=xs.toArray,argTypes:=ts },ty,pos,af,g⟩ l M J K:=C9 (Mc:=[]) (R:=M) hx hc (.refl _) hf hd k
theorem C6(hx:Evs l xs vs)(hc:K8 C.P f=true)(hf:FnX C.P f vs [] (M++(J++C.A)) post)(hd:Nat.blt d C.N=true)
    (k:∀v M' J',post v M' J'->XL C ops rest Q ((d,v)::l) (M'++M) (J'++J)) :
    XL C ops (⟨some d,.call { callee:=.value (.func f),args:=xs.toArray,argTypes:=ts },ty,pos,af,none⟩::rest) Q l M J:=A2 E (E2 hx hc hf hd k)
theorem B6o(ht:(ops[j]?).bind (·.dst)=some t)(hl:lk l t=some (.bool b))(hx:Evs l xs vs)(hc:K8 C.P f=true)(hf:FnX C.P f vs [] (M++(J++C.A)) post)(hd:Nat.blt d C.N=true)
    (k:∀v M' J',post v M' J'->XL C ops rest Q ((d,v)::l) (M'++M) (J'++J)) :
    XL C ops (⟨some d,.call { callee:=.value (.func f),args:=xs.toArray,argTypes:=ts },ty,pos,af,some (j,b)⟩::rest) Q l M J:=F4 ht hl (E2 hx hc hf hd k)
variable{os:List Oper}{nd:List Nat}{plan:List (Nat×Nat)}{oj:Oper}
theorem G5(hget:nth os i=some ⟨some d,.call { callee:=.value (.func f),args:=xs.toArray,argTypes:=ts },ty,pos,af,none⟩)(hx:Evs l xs vs)(hc:K8 C.P f=true)(hf:FnX C.P f vs [] (M++(J++C.A)) post)(hd:Nat.blt d C.N=true)
    (k:∀v M' J',post v M' J'->XF C os Q nd plan ((d,v)::l) (M'++M) (J'++J)):XF C os Q nd ((i,2)::plan) l M J :=
  B6n hget E λw=>E2 hx hc hf hd λv M' J' hp=>by simpa using k v M' J' hp
theorem A2J(hget:nth os i=some ⟨some d,.call { callee:=.value (.func f),args:=xs.toArray,argTypes:=ts },ty,pos,af,some (j,b)⟩)(hj:nth os j=some oj)(ht:oj.dst=some t)(hl:lk l t=some (.bool b))(hx:Evs l xs vs)(hc:K8 C.P f=true)(hf:FnX C.P f vs [] (M++(J++C.A)) post)(hd:Nat.blt d C.N=true)
    (k:∀v M' J',post v M' J'->XF C os Q nd plan ((d,v)::l) (M'++M) (J'++J)):XF C os Q nd ((i,2)::plan) l M J :=
  C2A hget hj ht hl λw=>E2 hx hc hf hd λv M' J' hp=>by simpa using k v M' J' hp
theorem E6(hx:Evs l xs vs)(hc:K8 C.P f=true)(hf:FnV C.P f vs (M++(J++C.A)) v)(hd:Nat.blt d C.N=true)(k:XL C ops rest Q ((d,v)::l) M J) :
    XL C ops (⟨some d,.call { callee:=.value (.func f),args:=xs.toArray,argTypes:=ts },ty,pos,af,none⟩::rest) Q l M J:=C6 hx hc hf hd λr M' J' h=>by obtain ⟨rfl,rfl,rfl⟩:=h;exact k
theorem A7t(ht:(ops[j]?).bind (·.dst)=some t)(hl:lk l t=some (.bool b))(hx:Evs l xs vs)(hc:K8 C.P f=true)(hf:FnV C.P f vs (M++(J++C.A)) v)(hd:Nat.blt d C.N=true)(k:XL C ops rest Q ((d,v)::l) M J) :
    XL C ops (⟨some d,.call { callee:=.value (.func f),args:=xs.toArray,argTypes:=ts },ty,pos,af,some (j,b)⟩::rest) Q l M J:=B6o ht hl hx hc hf hd λr M' J' h=>by obtain ⟨rfl,rfl,rfl⟩:=h;exact k
theorem N4(hget:nth os i=some ⟨some d,.call { callee:=.value (.func f),args:=xs.toArray,argTypes:=ts },ty,pos,af,none⟩)(hx:Evs l xs vs)(hc:K8 C.P f=true)(hf:FnV C.P f vs (M++(J++C.A)) v)(hd:Nat.blt d C.N=true)
    (k:XF C os Q nd plan ((d,v)::l) M J):XF C os Q nd ((i,2)::plan) l M J:=G5 hget hx hc hf hd λr M' J' h=>by obtain ⟨rfl,rfl,rfl⟩:=h;exact k
theorem A2K(hget:nth os i=some ⟨some d,.call { callee:=.value (.func f),args:=xs.toArray,argTypes:=ts },ty,pos,af,some (j,b)⟩)(hj:nth os j=some oj)(ht:oj.dst=some t)(hl:lk l t=some (.bool b))(hx:Evs l xs vs)(hc:K8 C.P f=true)(hf:FnV C.P f vs (M++(J++C.A)) v)(hd:Nat.blt d C.N=true)
    (k:XF C os Q nd plan ((d,v)::l) M J):XF C os Q nd ((i,2)::plan) l M J:=A2J hget hj ht hl hx hc hf hd λr M' J' h=>by obtain ⟨rfl,rfl,rfl⟩:=h;exact k
end call
end Go.Px

namespace Go.Px
theorem kr_{X Z Y:Mem}:∀x∈Z++Y,x∈(X++Z)++Y:=λx hx=>by rw [Ap];exact Ai _ hx
def zp:Nat->List Nat->List (Nat×Nat)
  | _,[]=>[]
  | i,c::r=>(i,c)::zp (i+1) r
section
variable{C:Cx}{Q:XQ}{l:Env}{M J:Mem}{os:List Oper}{K:Nat->Prop}{n0:Nat}{nd:List Nat}{plan:List (Nat×Nat)}{i d j t:Nat}{op:Op}{ty:TypeId}{pos:String}{af:Array Edge}{b b':Bool}{v:Value}{oj:Oper}{x:Operand}
theorem fm_(h:XF C os Q nd plan ((d,v)::l) M J)(hget:nth os i=some ⟨some d,.move x,ty,pos,af,none⟩:=by exact E)(hx:ev l x=some v:=by exact E)(hd:Nat.blt d C.N=true:=by exact E)(hs:Region.noSelect os.toArray=true:=by assumption):XF C os Q nd ((i,0)::plan) l M J:=C4V hs hget (A9k hx) hd h
theorem fM_(hget:nth os i=some ⟨some d,.move x,ty,pos,af,none⟩)(hx:ev l x=some v)(h:XF C os Q nd plan ((d,v)::l) M J)(hd:Nat.blt d C.N=true:=by exact E)(hs:Region.noSelect os.toArray=true:=by assumption):XF C os Q nd ((i,0)::plan) l M J:=fm_ h hget hx hd hs
theorem fa_(h:XF C os Q nd plan ((d,v)::l) M J)(hget:nth os i=some ⟨some d,.assign x,ty,pos,af,none⟩:=by exact E)(hx:ev l x=some v:=by exact E)(hd:Nat.blt d C.N=true:=by exact E)(hs:Region.noSelect os.toArray=true:=by assumption):XF C os Q nd ((i,0)::plan) l M J:=C4V hs hget (G3 hx) hd h
theorem fA_(hget:nth os i=some ⟨some d,.assign x,ty,pos,af,none⟩)(hx:ev l x=some v)(h:XF C os Q nd plan ((d,v)::l) M J)(hd:Nat.blt d C.N=true:=by exact E)(hs:Region.noSelect os.toArray=true:=by assumption):XF C os Q nd ((i,0)::plan) l M J:=fa_ h hget hx hd hs
theorem km_(h:XK C os Q K n0 nd plan ((d,v)::l) M J)(hget:nth os i=some ⟨some d,.move x,ty,pos,af,none⟩:=by exact E)(hx:ev l x=some v:=by exact E)(hd:Nat.blt d C.N=true:=by exact E)(hs:Region.noSelect os.toArray=true:=by assumption):XK C os Q K n0 nd ((i,0)::plan) l M J:=C4U hs hget (A9k hx) hd h
theorem kM_(hget:nth os i=some ⟨some d,.move x,ty,pos,af,none⟩)(hx:ev l x=some v)(h:XK C os Q K n0 nd plan ((d,v)::l) M J)(hd:Nat.blt d C.N=true:=by exact E)(hs:Region.noSelect os.toArray=true:=by assumption):XK C os Q K n0 nd ((i,0)::plan) l M J:=km_ h hget hx hd hs
theorem fQ_(hget:nth os i=some ⟨some d,op,ty,pos,af,none⟩)(hq:OpQ C.P [] ⟨some d,op,ty,pos,af,none⟩ l v)(h:XF C os Q nd plan ((d,v)::l) M J)(hd:Nat.blt d C.N=true:=by exact E)(hs:Region.noSelect os.toArray=true:=by assumption):XF C os Q nd ((i,0)::plan) l M J:=C4V hs hget hq hd h
theorem fR_(hget:nth os i=some ⟨some d,op,ty,pos,af,none⟩)(hq:OpQ C.P (M++(J++C.A)) ⟨some d,op,ty,pos,af,none⟩ l v)(h:XF C os Q nd plan ((d,v)::l) M J)(hd:Nat.blt d C.N=true:=by exact E)(hs:Region.noSelect os.toArray=true:=by assumption):XF C os Q nd ((i,1)::plan) l M J:=XF.r hs hget hq hd h
theorem fG_(hget:nth os i=some ⟨some d,op,ty,pos,af,some (j,b)⟩)(hq:OpQ C.P [] ⟨some d,op,ty,pos,af,some (j,b)⟩ l v)(h:XF C os Q nd plan ((d,v)::l) M J)(hj:nth os j=some oj:=by exact E)(ht:oj.dst=some t:=by exact E)(hl:lk l t=some (.bool b):=by exact E)(hd:Nat.blt d C.N=true:=by exact E)(hs:Region.noSelect os.toArray=true:=by assumption):XF C os Q nd ((i,0)::plan) l M J:=C4W hs hget hj ht hl hq hd h
theorem fH_(hget:nth os i=some ⟨some d,op,ty,pos,af,some (j,b)⟩)(hq:OpQ C.P (M++(J++C.A)) ⟨some d,op,ty,pos,af,some (j,b)⟩ l v)(h:XF C os Q nd plan ((d,v)::l) M J)(hj:nth os j=some oj:=by exact E)(ht:oj.dst=some t:=by exact E)(hl:lk l t=some (.bool b):=by exact E)(hd:Nat.blt d C.N=true:=by exact E)(hs:Region.noSelect os.toArray=true:=by assumption):XF C os Q nd ((i,1)::plan) l M J:=C4X hs hget hj ht hl hq hd h
theorem kQ_(hget:nth os i=some ⟨some d,op,ty,pos,af,none⟩)(hq:OpQ C.P [] ⟨some d,op,ty,pos,af,none⟩ l v)(h:XK C os Q K n0 nd plan ((d,v)::l) M J)(hd:Nat.blt d C.N=true:=by exact E)(hs:Region.noSelect os.toArray=true:=by assumption):XK C os Q K n0 nd ((i,0)::plan) l M J:=C4U hs hget hq hd h
theorem K9(hs:Region.noSelect os.toArray=true)(h:XF C os Q nd plan ((d,undef)::l) M J)(hget:nth os i=some ⟨some d,op,ty,pos,af,some (j,b)⟩:=by exact E)(hj:nth os j=some oj:=by exact E)(ht:oj.dst=some t:=by exact E)(hl:lk l t=some (.bool b'):=by exact E)(hb:(b'==b)=false:=by exact E)(hd:Nat.blt d C.N=true:=by exact E):XF C os Q nd ((i,0)::plan) l M J:=C4Y hs hget hj ht hl hb hd h
theorem W1(hs:Region.noSelect os.toArray=true)(h:XF C os Q nd plan ((d,undef)::l) M J)(hget:nth os i=some ⟨some d,op,ty,pos,af,some (j,b)⟩:=by exact E)(hj:nth os j=some oj:=by exact E)(ht:oj.dst=some t:=by exact E)(hl:lk l t=some (.bool b'):=by exact E)(hb:(b'==b)=false:=by exact E)(hd:Nat.blt d C.N=true:=by exact E):XF C os Q nd ((i,1)::plan) l M J:=C4Z hs hget hj ht hl hb hd h
theorem I8{R:Mem}(hs:Region.noSelect os.toArray=true)(hget:nth os i=some ⟨some d,op,ty,pos,af,none⟩)(hn:∀x∈R,¬K x.1)(hq:OpQ C.P R ⟨some d,op,ty,pos,af,none⟩ l v)(h:XK C os Q K n0 nd plan ((d,v)::l) M J)(hR:∀x∈R,x∈M++(J++C.A):=by first|exact λx hx=>by rw [Ap];exact Ai _ hx|exact SubC.sub)(hd:Nat.blt d C.N=true:=by exact E):XK C os Q K n0 nd ((i,1)::plan) l M J:=XK.r hs hget hR hn hq hd h
end
end Go.Px

namespace Go.Px
structure Gm where
  i:Nat
  d:Nat
  φ:Value->Mem->Prop
def A3O(G:List Gm)(vs:Nat->Value):Env:=G.map λg=>(g.d,vs g.i)
def enc:List Nat->List (Nat×Nat)
  | []=>[]
  | [i]=>[(i,4)]
  | i::j::r=>(i,3)::enc (j::r)
inductive GOk(ops:Array Oper):Array Bool->List Nat->Array Bool->Prop
  | nil {A:Array Bool}:GOk ops A [] A
  | cons {A B:Array Bool} {i:Nat} {r:List Nat} (hr:i∈Region.ready .any ops A) (ho:∀j,j<ops.size->A.getD j true=false->j∉i::r->anc ops ops.size j i=true) (h:GOk ops (A.setIfInBounds i true) r B):GOk ops A (i::r) B
theorem B9X(i:Nat)(r:List Nat)(plan:List (Nat×Nat)):grp (enc (i::r)++plan)=i::r:=by
  induction r generalizing i with
  | nil=>rfl
  | cons j r ih=>simp only [enc,Cu,grp];rw [ih j]
theorem A9u{ops:Array Oper}{nd:List Nat}{plan:List (Nat×Nat)}:∀ {is:List Nat} {A:Array Bool},L1 ops nd (enc is++plan) A=true->∃B,GOk ops A is B∧L1 ops nd plan B=true
  | [],A,h=>⟨A,.nil,h⟩
  | [i],A,h=>by
    simp only [enc,Cu,Ct,L1,A8w,Bool.and_eq_true,List.all_eq_true,List.mem_range,Bool.or_eq_true] at h;refine ⟨_,.cons (by simpa using h.1.1) (λj hj hu hn=>?_) .nil,h.2⟩;rcases h.1.2 j hj with (h1|h1)|h1
    . rw [hu] at h1;cases h1
    . exact absurd (by simpa using h1) hn
    . exact h1
  | i::j::r,A,h=>by
    simp only [enc,Cu,L1,A8w,Bool.and_eq_true,List.all_eq_true,List.mem_range,Bool.or_eq_true,B9X] at h;obtain ⟨B,hB,hp⟩:=A9u (is:=j::r) h.2;refine ⟨B,.cons (by simpa using h.1.1) (λj hj hu hn=>?_) hB,hp⟩;rcases h.1.2 j hj with (h1|h1)|h1
    . rw [hu] at h1;cases h1
    . exact absurd (by simpa using h1) hn
    . exact h1
def mark(A:Array Bool)(X:List Nat):Array Bool:=X.foldl (λB i=>B.setIfInBounds i true) A
theorem A2L(X:List Nat):∀(A:Array Bool) (j:Nat),(mark A X)[j]? = if j∈X∧j<A.size then some true else A[j]?:=by
  induction X with
  | nil=>intro A j;simp [mark]
  | cons i X ih =>
    intro A j;have:=ih (A.setIfInBounds i true) j;simp only [mark,List.foldl_cons] at this ⊢;rw [this];simp only [Array.size_setIfInBounds,Cv];by_cases h1:j<A.size
    . by_cases h2:j∈X
      . simp [h1,h2]
      . by_cases h3:i=j
        . subst h3;simp [h1,h2]
        . have h3':j≠i:=λh=>h3 h.symm;simp [h1,h2,h3,h3',Array.getElem?_setIfInBounds]
    . simp [h1]
theorem U3(A:Array Bool)(X:List Nat)(i:Nat):mark A (X++[i])=(mark A X).setIfInBounds i true:=by simp [mark]
variable{A:Array Bool}{X Y:List Nat}
theorem A6e(h:∀j,j∈X↔j∈Y):mark A X=mark A Y:=by apply Array.ext_getElem?;intro j;rw [A2L,A2L];simp only [h]
variable{j:Nat}
theorem I7:(mark A X).getD j true=false↔(A.getD j true=false∧¬(j∈X∧j<A.size)):=by
  have:=A2L X A j;simp only [Array.getD_eq_getD_getElem?,this];split
  . simp_all
  . simp_all
theorem A0t(h:(mark A X).getD j false=true):A.getD j false=true∨j∈X:=by
  have:=A2L X A j;simp only [Array.getD_eq_getD_getElem?,this] at h ⊢;split at h
  . rename_i hh;exact .inr hh.1
  . exact .inl h
theorem GOk.mark{ops:Array Oper}{A B:Array Bool}{is:List Nat}(h:GOk ops A is B):B=mark A is:=by
  induction h with
  | nil=>rfl
  | cons _ _ _ ih=>rw [ih];rfl
variable{ops:Array Oper}{i:Nat}
theorem L2(h:i∈Region.ready .any ops A):A.getD i true=false:=(mem_ready.1 h).1
theorem A3X(h:i∈Region.ready .any ops A):i<ops.size:=by obtain ⟨_,oj,hoj,_⟩:=mem_ready.1 h;exact (Array.getElem?_eq_some_iff.1 hoj).1
variable{B:Array Bool}{is:List Nat}
theorem GOk.outer(h:GOk ops A is B):∀i∈is,∀j,j<ops.size->A.getD j true=false->j∉is->anc ops ops.size j i=true:=by
  induction h with
  | nil=>intro i hi;cases hi
  | @cons A B i r hr ho h ih =>
    intro k hk j hj hu hn;rcases List.mem_cons.1 hk with rfl|hk
    . exact ho j hj hu hn
    . have hne:i≠j:=λe=>hn (e▸Ax);exact ih k hk j hj (by rw [getD_set_ne true hne];exact hu) (λhm=>hn (Bb _ hm))
variable{A':Array Bool}
theorem A5v(hr:i∈Region.ready .any ops A)(hu:A'.getD i true=false)(hm:∀j,A.getD j false=true->A'.getD j false=true):i∈Region.ready .any ops A':=by obtain ⟨h1,oj,hoj,hall⟩:=mem_ready.1 hr;exact mem_ready.2 ⟨hu,oj,hoj,λe he hb=>hm _ (hall e he hb)⟩
theorem Y7(h:A.getD i true=false):i<A.size:=by
  rcases Nat.lt_or_ge i A.size with h1|h1
  . exact h1
  . simp [Array.getElem?_eq_none h1] at h
theorem GOk.first(h:GOk ops A is B)(hsz:A'.size=A.size)(hm:∀j,A.getD j false=true->A'.getD j false=true){k:Nat}(hk:k∈is)(hk':A'.getD k true=false):∃i,i∈Region.ready .any ops A':=by
  induction h generalizing k with
  | nil=>cases hk
  | @cons A B i r hr ho h ih =>
    by_cases hi:A'.getD i true=false
    . exact ⟨i,A5v hr hi hm⟩
    . rcases List.mem_cons.1 hk with rfl|hk
      . exact absurd hk' hi
      . refine ih (by simpa using hsz) (λj hj=>?_) hk hk';by_cases e:i=j
        . subst e;have hlt:=Y7 (L2 hr);have hlt':i<A'.size:=by omega
          simp [hlt'] at hi ⊢;exact hi
        . rw [getD_set_ne false e] at hj;exact hm j hj
theorem A1p(A:Array Bool)(X:List Nat):(mark A X).size=A.size:=by
  induction X generalizing A with
  | nil=>rfl
  | cons i X ih=>simp only [mark,List.foldl_cons] at ih ⊢;rw [ih];simp
theorem A1q(h:A.getD j false=true):(mark A X).getD j false=true:=by
  have:=A2L X A j;simp only [Array.getD_eq_getD_getElem?,this] at h ⊢;split
  . rfl
  . exact h
theorem St.freezeAll{C:Cx}{M J:Mem}{w:World}:∀ {B:Mem},St C (B++M) J w->St C M (B++J) w
  | [],h=>h
  | x::B,h=>by
    have h1:=St.freezeAll (B:=B) (h.freeze)
    exact h1.drop (Ao _) λy hy=>by simp only [Cu,Cv,List.mem_append] at hy ⊢;rcases hy with hy|hy|hy<;>simp [hy]
theorem A2M:∀ {Y:List Nat},X.Nodup->(∀x∈X,x∈Y)->X.length<=Y.length:=by
  induction X with
  | nil=>intros;simp
  | cons x X ih =>
    intro Y hn hs;simp only [List.nodup_cons] at hn;have h1:=ih (Y:=Y.erase x) hn.2 λz hz=>(List.mem_erase_of_ne (λe=>hn.1 (by rw [<- e];exact hz))).2 (hs z (Bb _ hz));have h2:=List.length_erase_of_mem (hs x Ax);have h3:0<Y.length:=List.length_pos_of_mem (hs x Ax);simp only [List.length_cons];omega
theorem A2N(hn:X.Nodup)(hs:∀x∈X,x∈Y)(hl:Y.length<=X.length):∀y∈Y,y∈X:=by
  intro y hy;apply Classical.byContradiction;intro hno
  have:=A2M (X:=y::X) (Y:=Y) (List.nodup_cons.2 ⟨hno,hn⟩) (λz hz=>by
    rcases List.mem_cons.1 hz with rfl|hz
    . exact hy
    . exact hs z hz)
  simp at this;omega
variable{G:List Gm}{g:Gm}
theorem B8C(h:(G.map (·.i)).Nodup){g':Gm}(hg:g∈G)(hg':g'∈G)(e:g.i=g'.i):g=g':=by
  induction G with
  | nil=>cases hg
  | cons x G ih =>
    simp only [List.map_cons,List.nodup_cons] at h;rcases List.mem_cons.1 hg with h1|h1<;>rcases List.mem_cons.1 hg' with h2|h2
    . rw [h1,h2]
    . exact absurd (by rw [<- h1,e];exact Al (f:=Gm.i) h2) h.1
    . exact absurd (by rw [<- h2,<- e];exact Al (f:=Gm.i) h1) h.1
    . exact ih h.2 h1 h2
theorem A2O{N:Nat}{l:Env}{vs:Nat->Value}{a:Act}(hg:g∈G)(hd:(G.map (·.d)).Nodup)(hi:(G.map (·.i)).Nodup){v:Value}(h:Ag N ((g.d,v)::(A3O G vs++l)) a) :
    Ag N (A3O G (λk=>if k=g.i then v else vs k)++l) a:=by
  refine h.sub ?_
  have key:∀(G:List Gm),g∈G->(G.map (·.d)).Nodup->(G.map (·.i)).Nodup->∀k u,lk (A3O G (λk=>if k=g.i then v else vs k)++l) k=some u->lk ((g.d,v)::(A3O G vs++l)) k=some u:=by
    intro G
    have step:∀(G:List Gm),(∀x∈G,x.i≠g.i)->A3O G (λk=>if k=g.i then v else vs k)=A3O G vs:=by intro G hG;exact Bt λx hx=>by simp [hG x hx]
    induction G with
    | nil=>intro h;cases h
    | cons x G ih =>
      intro hm hd hi k u hk;simp only [List.map_cons,List.nodup_cons] at hd hi;rcases List.mem_cons.1 hm with rfl|hm
      . have e:=step G λx hx e=>hi.1 (e▸Al (f:=Gm.i) hx);simp only [A3O,List.map_cons,Cu,lk] at hk ⊢;by_cases h1:g.d=k
        . subst h1;simpa using hk
        . simp only [A0m h1,cond_false] at hk ⊢;rw [show List.map (λg_1=>(g_1.d,if g_1.i=g.i then v else vs g_1.i)) G=A3O G vs from e] at hk;exact hk
      . have hne:x.i≠g.i:=λe=>hi.1 (e▸Al (f:=Gm.i) hm);have hned:x.d≠g.d:=λe=>hd.1 (e▸Al (f:=Gm.d) hm);simp only [A3O,List.map_cons,Cu,lk,hne,if_false] at hk ⊢;by_cases h1:g.d=k
        . subst h1;simp only [A0m hned,cond_false] at hk;have:=ih hm hd.2 hi.2 g.d u hk;simp only [lk] at this ⊢;simpa using this
        . simp only [A0m h1,cond_false];by_cases h2:x.d=k
          . subst h2;simpa using hk
          . simp only [A0m h2,cond_false] at hk ⊢;have:=ih hm hd.2 hi.2 k u hk;simp only [lk,A0m h1,cond_false] at this;exact this
  exact key G hg hd hi
section group
variable{C:Cx}{Q:XQ}{l:Env}{M J:Mem}{os:List Oper}{K:Nat->Prop}{n0:Nat}{nd:List Nat}{plan:List (Nat×Nat)}
def B6p(os:List Oper)(l:Env)(o:Oper):Prop:=o.guard=none∨∃j t b oj,o.guard=some (j,b)∧nth os j=some oj∧oj.dst=some t∧lk l t=some (.bool b)
theorem B6p.wanted{o:Oper}(h:B6p os l o){a:Act}(ha:Ag C.N l a):Region.wanted o (yielded os.toArray a.tmps)=true:=by
  rcases h with h|⟨j,t,b,oj,h1,h2,h3,h4⟩
  . simp [Region.wanted,h]
  . have hj':os.toArray[j]? = some oj:=by rw [X0] at h2;simpa using h2
    simp only [Region.wanted,h1,yielded,hj',Option.bind_some,h3,ha.slot _ _ h4];simp
def C4u(C:Cx)(os:List Oper)(l:Env)(M J:Mem)(G:List Gm)(g:Gm):Prop :=
  ∃o,nth os g.i=some o∧∀(vs:Nat->Value) (R:Mem) (w:World),(∀x∈M++(J++C.A),x∈R)->(∀g'∈G,anc os.toArray os.toArray.size g.i g'.i=true->g'.φ (vs g'.i) R) ->
    B6p os (A3O G vs++l) o∧OpL ⟨C.P,w,[],R,C.N⟩ o (A3O G vs++l) [] [] (λl' M' J'=>∃v,l'=(g.d,v)::(A3O G vs++l)∧g.φ v (M'++(J'++R)))
def B6q(φ:Value->Mem->Prop):Prop:=∀v R R',(∀x∈R,x∈R')->φ v R->φ v R'
theorem B6r(hmono:∀g∈G,B6q g.φ)(hd:(G.map (·.d)).Nodup)(hi:(G.map (·.i)).Nodup)(hdN:∀g∈G,g.d<C.N)(hob:∀g∈G,C4u C os l M J G g)(hok:GOk os.toArray A (G.map (·.i)) B)
    (hfin:∀(vs:Nat->Value) Jn a w,(∀g∈G,g.φ (vs g.i) (M++((Jn++J)++C.A)))->Ag C.N (A3O G vs++l) a->St C M (Jn++J) w->n0<=w.heap.size->A0E C.P os.toArray (T5 (A8q C Q)) (Sk K) nd.contains plan.length B a w) :
    ∀(n:Nat) (X:List Nat) (vs:Nat->Value) (Jn:Mem) (a:Act) (w:World),X.Nodup->(∀i∈X,i∈G.map (·.i))->n+X.length=G.length->Q9 os.toArray (mark A X) ->
      (∀g∈G,g.i∈X->g.φ (vs g.i) (M++((Jn++J)++C.A)))->Ag C.N (A3O G vs++l) a->St C M (Jn++J) w->n0<=w.heap.size ->
      A0E C.P os.toArray (T5 (A8q C Q)) (Sk K) nd.contains (n+plan.length) (mark A X) a w:=by
  intro n
  induction n with
  | zero =>
    intro X vs Jn a w hnd hX hlen hcl hφ ha hw hn
    have hall:∀i,i∈X↔i∈G.map (·.i):=λi=>⟨hX i,A2N hnd hX (by simp;omega) i⟩
    rw [Nat.zero_add,A6e hall,<- hok.mark];exact hfin vs Jn a w (λg hg=>hφ g hg ((hall _).2 (Al (f:=Gm.i) hg))) ha hw hn
  | succ n ih =>
    intro X vs Jn a w hnd hX hlen hcl hφ ha hw hn
    have hmiss:∃k∈G.map (·.i),k∉X:=by apply Classical.byContradiction;intro hno;have hs:∀k∈G.map (·.i),k∈X:=λk hk=>Classical.byContradiction λh=>hno ⟨k,hk,h⟩;have:=A2M hi hs;simp at this;omega
    obtain ⟨k,hkG,hkX⟩:=hmiss
    have hun:∀i∈G.map (·.i),A.getD i true=false:=by
      have:∀ {is A B},GOk os.toArray A is B->∀i∈is,A.getD i true=false:=by
        intro is A B h
        induction h with
        | nil=>intro i hi;cases hi
        | @cons A B i r hr ho h ih =>
          intro k hk;rcases List.mem_cons.1 hk with rfl|hk
          . exact L2 hr
          . have h2:=ih k hk;by_cases e:i=k
            . subst e;exact L2 hr
            . rwa [getD_set_ne true e] at h2
      exact this hok
    have hkun:(mark A X).getD k true=false:=I7.2 ⟨hun k hkG,λh=>hkX h.1⟩;rw [show n+1+plan.length=(n+plan.length)+1 by omega];refine ⟨λh0=>?_,λi hir=>?_⟩
    . obtain ⟨i,hir⟩:=hok.first (A1p A X) (λj hj=>A1q hj) hkG hkun;rw [h0] at hir;cases hir
    . have hiG:i∈G.map (·.i):=by apply Classical.byContradiction;intro hno;have h1:=I7.1 (L2 hir);have h2:=hok.outer k hkG i (A3X hir) h1.1 hno;exact U6 hkun (R5 hcl h2 hir)
      obtain ⟨g,hg,rfl⟩:=List.mem_map.1 hiG;have hiX:g.i∉X:=λh=>(I7.1 (L2 hir)).2 ⟨h,Y7 (hun _ hiG)⟩;obtain ⟨o,hget,howe⟩:=hob g hg;have hi':os.toArray[g.i]? = some o:=by rw [X0] at hget;simpa using hget
      obtain ⟨hask,hop⟩:=howe vs (M++((Jn++J)++C.A)) w (λx hx=>by simp only [List.mem_append] at hx ⊢;rcases hx with h|h|h<;>simp [h]) (λg' hg' hanc=>hφ g' hg' (by
        have h3:=R5 hcl hanc hir;rcases A0t h3 with h4|h4
        . exact (U6 (hun _ (Al (f:=Gm.i) hg')) h4).elim
        . exact h4))
      unfold wpOp;simp only [hi'];rw [if_pos (hask.wanted ha)];have hcal:=hw.callee (Mc:=[]) (R:=M) (.refl _);refine .inl (Oper.wp_mono ?_ (hop _ a w ha hcal.cx));rintro a' w' ⟨l',M',J',ha',hs',v,rfl,hφv⟩;have hsz:w.heap.size<=w'.heap.size:=hs'.size;have hb:=hw.back (Mc:=[]) (R:=M) (.refl _) hs'.cx;have hfr:=St.freezeAll hb
      have hfr2:St C M ((M'++(J'++Jn))++J) w':=hfr.drop (Ao _) λx hx=>by simp only [List.mem_append] at hx ⊢;rcases hx with (h|h|h)|h<;>simp [h]
      refine ⟨λ_ b hb' hnk=>hs'.frame b hb' (by simp),?_⟩;rw [<- U3];refine ih (X++[g.i]) (λk=>if k=g.i then v else vs k) (M'++(J'++Jn)) a' w' ?_ ?_ (by simp;omega) ?_ ?_ (A2O hg hd hi ha') hfr2 (Az hn hsz)
      . rw [List.nodup_append];exact ⟨hnd,by simp,λx hx y hy e=>hiX (by simp at hy;subst hy;exact e▸hx)⟩
      . intro j hj;rcases List.mem_append.1 hj with hj|hj
        . exact hX j hj
        . simp at hj;subst hj;exact hiG
      . rw [U3];exact I9 hcl hir
      . intro g' hg' hm;by_cases e:g'.i=g.i
        . have:g'=g:=B8C hi hg' hg e;subst this;simp only [if_true];exact hmono g' hg' _ _ _ (λx hx=>by simp only [List.mem_append] at hx ⊢;rcases hx with h|h|h|((h|h)|h)<;>simp [h]) hφv
        . simp only [e,if_false];have hm':g'.i∈X:=by simpa [e] using hm
          exact hmono g' hg' _ _ _ (λx hx=>by simp only [List.mem_append] at hx ⊢;rcases hx with h|(h|h)|h<;>simp [h]) (hφ g' hg' hm')
theorem B6s(G:List Gm)(hmono:∀g∈G,B6q g.φ)(hd:(G.map (·.d)).Nodup)(hi:(G.map (·.i)).Nodup)(hdN:∀g∈G,g.d<C.N)(hob:∀g∈G,C4u C os l M J G g)
    (h:∀(vs:Nat->Value) Jn,(∀g∈G,g.φ (vs g.i) (M++((Jn++J)++C.A)))->XK C os Q K n0 nd plan (A3O G vs++l) M (Jn++J)):XK C os Q K n0 nd (enc (G.map (·.i))++plan) l M J:=by
  intro listed hcl hp a w ha hw hn;obtain ⟨B,hok,hp2⟩:=A9u hp
  have hBcl:Q9 os.toArray B:=by
    have:∀ {A is B},GOk os.toArray A is B->Q9 os.toArray A->Q9 os.toArray B:=by
      intro A is B h
      induction h with
      | nil=>exact id
      | cons hr _ _ ih=>exact λhc=>ih (I9 hc hr)
    exact this hok hcl
  have hlen:(enc (G.map (·.i))++plan).length=G.length+plan.length:=by
    have:∀is:List Nat,(enc is).length=is.length:=by
      intro is
      induction is with
      | nil=>rfl
      | cons i r ih=>cases r with
        | nil=>rfl
        | cons j r=>simp only [enc,List.length_cons] at ih ⊢;rw [ih]
    simp [this]
  rw [hlen]
  -- the slots' own content, to begin with
  let vs:Nat->Value:=λk=>match G.find? (λg=>g.i==k) with
    | some g=>(a.tmps[g.d]?).getD undef
    | none=>undef
  have hag:Ag C.N (A3O G vs++l) a:=by
    refine ⟨ha.defers,ha.size,?_⟩;intro k u hk
    have key:∀G':List Gm,(∀g∈G',g∈G)->lk (A3O G' vs++l) k=some u->a.tmps[k]? = some u:=by
      intro G'
      induction G' with
      | nil=>intro _ h;exact ha.slot k u h
      | cons g G' ih =>
        intro hs h;simp only [A3O,List.map_cons,Cu,lk] at h;by_cases e:g.d=k
        . subst e;simp at h
          have hf:G.find? (λx=>x.i==g.i)=some g:=by
            have hgG:=hs g Ax
            cases hq:G.find? (λx=>x.i==g.i) with
            | none=>have:=List.find?_eq_none.1 hq g hgG;simp at this
            | some x =>
              have h1:=List.find?_some hq;have h2:=List.mem_of_find?_eq_some hq;rw [B8C hi h2 hgG (by simpa using h1)]
          have hlt:g.d<a.tmps.size:=by rw [ha.size];exact hdN g (hs g Ax)
          rw [<- h];show a.tmps[g.d]? = some (vs g.i);simp only [vs,hf,Array.getElem?_eq_getElem hlt,Option.getD_some]
        . simp only [A0m e,cond_false] at h;exact ih (λx hx=>hs x (Bb _ hx)) h
    exact key G (λ_ h=>h) hk
  exact B6r (n0:=n0) (K:=K) hmono hd hi hdN hob hok (λvs Jn a w hφ ha hw hn=>h vs Jn hφ B hBcl hp2 a w ha hw hn) G.length [] vs [] a w .nil (λ_ h=>by cases h) (by simp) hcl (λ_ _ h=>by cases h) hag hw hn
end group
variable{α:Type}
theorem ln0:([]:List α).length=([]:List α).length:=rfl
theorem lnS{x y:α}{r s:List α}(h:r.length=s.length):(x::r).length=(y::s).length:=by rw [List.length_cons,List.length_cons,h]
theorem I5{p:α->Prop}:∀x∈([]:List α),p x:=λ_ h=>by cases h
theorem A4{p:α->Prop}{y:α}{r:List α}(h:p y)(hr:∀x∈r,p x):∀x∈y::r,p x:=λx hx=>(List.mem_cons.1 hx).elim (λe=>e▸h) (hr x)
theorem B9Y{u:Value}:B6q λv _=>v=u:=λ_ _ _ _ hp=>hp
def ndL:List Nat->Bool
  | []=>true
  | x::l=>!l.contains x&&ndL l
theorem B8D:∀ {l:List Nat},ndL l=true->l.Nodup
  | [],_=>List.nodup_nil
  | x::l,h=>by unfold ndL at h;rw [Bool.and_eq_true] at h;refine List.nodup_cons.2 ⟨λhm=>?_,B8D h.2⟩;have h1:=h.1;rw [List.contains_iff_mem.2 hm] at h1;cases h1
theorem nd_{l:List Nat}(h:ndL l=true:=by kernel_rfl):l.Nodup:=B8D h
theorem dl_{G:List α}{f:α->Nat}{N:Nat}(h:(G.all λg=>Nat.blt (f g) N)=true:=by kernel_rfl):∀g∈G,f g<N:=λg hg=>P1 (List.all_eq_true.1 h g hg)
theorem gx{G:List α}{p q:α->Prop}{a:α}(i:Nat)(ha:∀g∈G,p g->q g)(h:G[i]? = some a:=by exact E)(hp:p a:=by kernel_rfl):q a:=ha a (As h) hp
theorem gy{G:List α}{q:α->Prop}{a:α}(i:Nat)(ha:∀g∈G,q g)(h:G[i]? = some a:=by exact E):q a:=ha a (As h)
theorem gA{p:α->Prop}{G:List α}(h:∀x∈G,p x:=by repeat' first|exact I5|exact λ_ _ _ _ _ h=>h|refine A4 ?_ ?_):∀x∈G,p x:=h
variable{K:Nat->Prop}
theorem gk0{L:List Mem}(h:L.all (·.isEmpty)=true:=by kernel_rfl):∀m∈L,∀x∈m,K x.1:=λm hm x hx=>by have:=List.all_eq_true.1 h m hm;rw [List.isEmpty_iff] at this;rw [this] at hx;cases hx
theorem gn0:∀x∈([]:Mem),K x.1:=λ_ h=>by cases h
theorem gG{C:Cx}{os:List Oper}{l:Env}{M J:Mem}{Gs:List Gm}{o:Oper}(h:∀(vs:Nat->Value) (R:Mem) (w:World),(∀x∈M++(J++C.A),x∈R)->(∀g'∈G,anc os.toArray os.toArray.size g.i g'.i=true->g'.φ (vs g'.i) R)->OpL ⟨C.P,w,[],R,C.N⟩ o (A3O G vs++l) [] [] (λl' M' J'=>∃v,l'=(g.d,v)::(A3O G vs++l)∧g.φ v (M'++(J'++R))))
    (t:∀g∈Gs,C4u C os l M J G g) (ho:nth os g.i=some o:=by exact E) (hg:o.guard=none:=by exact E):∀x∈g::Gs,C4u C os l M J G x:=A4 ⟨o,ho,λvs R w hb ha=>⟨.inl hg,h vs R w hb ha⟩⟩ t
end Go.Px

namespace Go.Px
variable{x0 x1 y0 y1:Value}
theorem ln2:[x0,x1].length=[y0,y1].length:=rfl
theorem al2(h0:x0.oneCell'=true:=by exact E)(h1:x1.oneCell'=true:=by exact E):∀c∈[x0,x1],c.oneCell'=true:=A4 h0 (A4 h1 (I5))
variable{x2 y2:Value}
theorem ln3:[x0,x1,x2].length=[y0,y1,y2].length:=rfl
theorem al3(h0:x0.oneCell'=true:=by exact E)(h1:x1.oneCell'=true:=by exact E)(h2:x2.oneCell'=true:=by exact E):∀c∈[x0,x1,x2],c.oneCell'=true:=A4 h0 (A4 h1 (A4 h2 (I5)))
variable{x3 y3:Value}
theorem ln4:[x0,x1,x2,x3].length=[y0,y1,y2,y3].length:=rfl
theorem al4(h0:x0.oneCell'=true:=by exact E)(h1:x1.oneCell'=true:=by exact E)(h2:x2.oneCell'=true:=by exact E)(h3:x3.oneCell'=true:=by exact E):∀c∈[x0,x1,x2,x3],c.oneCell'=true:=A4 h0 (A4 h1 (A4 h2 (A4 h3 (I5))))
variable{x4 y4:Value}
theorem ln5:[x0,x1,x2,x3,x4].length=[y0,y1,y2,y3,y4].length:=rfl
theorem al5(h0:x0.oneCell'=true:=by exact E)(h1:x1.oneCell'=true:=by exact E)(h2:x2.oneCell'=true:=by exact E)(h3:x3.oneCell'=true:=by exact E)(h4:x4.oneCell'=true:=by exact E):∀c∈[x0,x1,x2,x3,x4],c.oneCell'=true:=A4 h0 (A4 h1 (A4 h2 (A4 h3 (A4 h4 (I5)))))
variable{x5 y5:Value}
theorem ln6:[x0,x1,x2,x3,x4,x5].length=[y0,y1,y2,y3,y4,y5].length:=rfl
theorem al6(h0:x0.oneCell'=true:=by exact E)(h1:x1.oneCell'=true:=by exact E)(h2:x2.oneCell'=true:=by exact E)(h3:x3.oneCell'=true:=by exact E)(h4:x4.oneCell'=true:=by exact E)(h5:x5.oneCell'=true:=by exact E):∀c∈[x0,x1,x2,x3,x4,x5],c.oneCell'=true:=A4 h0 (A4 h1 (A4 h2 (A4 h3 (A4 h4 (A4 h5 (I5))))))
variable{x6 x7 y6 y7:Value}
theorem ln8:[x0,x1,x2,x3,x4,x5,x6,x7].length=[y0,y1,y2,y3,y4,y5,y6,y7].length:=rfl
theorem al8(h0:x0.oneCell'=true:=by exact E)(h1:x1.oneCell'=true:=by exact E)(h2:x2.oneCell'=true:=by exact E)(h3:x3.oneCell'=true:=by exact E)(h4:x4.oneCell'=true:=by exact E)(h5:x5.oneCell'=true:=by exact E)(h6:x6.oneCell'=true:=by exact E)(h7:x7.oneCell'=true:=by exact E):∀c∈[x0,x1,x2,x3,x4,x5,x6,x7],c.oneCell'=true:=A4 h0 (A4 h1 (A4 h2 (A4 h3 (A4 h4 (A4 h5 (A4 h6 (A4 h7 (I5))))))))
variable{x8 x9 y8 y9:Value}
theorem ln10:[x0,x1,x2,x3,x4,x5,x6,x7,x8,x9].length=[y0,y1,y2,y3,y4,y5,y6,y7,y8,y9].length:=rfl
theorem al10(h0:x0.oneCell'=true:=by exact E)(h1:x1.oneCell'=true:=by exact E)(h2:x2.oneCell'=true:=by exact E)(h3:x3.oneCell'=true:=by exact E)(h4:x4.oneCell'=true:=by exact E)(h5:x5.oneCell'=true:=by exact E)(h6:x6.oneCell'=true:=by exact E)(h7:x7.oneCell'=true:=by exact E)(h8:x8.oneCell'=true:=by exact E)(h9:x9.oneCell'=true:=by exact E):∀c∈[x0,x1,x2,x3,x4,x5,x6,x7,x8,x9],c.oneCell'=true:=A4 h0 (A4 h1 (A4 h2 (A4 h3 (A4 h4 (A4 h5 (A4 h6 (A4 h7 (A4 h8 (A4 h9 (I5))))))))))
variable{x10 x11 y10 y11:Value}
theorem ln12:[x0,x1,x2,x3,x4,x5,x6,x7,x8,x9,x10,x11].length=[y0,y1,y2,y3,y4,y5,y6,y7,y8,y9,y10,y11].length:=rfl
theorem al12(h0:x0.oneCell'=true:=by exact E)(h1:x1.oneCell'=true:=by exact E)(h2:x2.oneCell'=true:=by exact E)(h3:x3.oneCell'=true:=by exact E)(h4:x4.oneCell'=true:=by exact E)(h5:x5.oneCell'=true:=by exact E)(h6:x6.oneCell'=true:=by exact E)(h7:x7.oneCell'=true:=by exact E)(h8:x8.oneCell'=true:=by exact E)(h9:x9.oneCell'=true:=by exact E)(h10:x10.oneCell'=true:=by exact E)(h11:x11.oneCell'=true:=by exact E):∀c∈[x0,x1,x2,x3,x4,x5,x6,x7,x8,x9,x10,x11],c.oneCell'=true:=A4 h0 (A4 h1 (A4 h2 (A4 h3 (A4 h4 (A4 h5 (A4 h6 (A4 h7 (A4 h8 (A4 h9 (A4 h10 (A4 h11 (I5))))))))))))
variable{x12 y12:Value}
theorem ln13:[x0,x1,x2,x3,x4,x5,x6,x7,x8,x9,x10,x11,x12].length=[y0,y1,y2,y3,y4,y5,y6,y7,y8,y9,y10,y11,y12].length:=rfl
theorem al13(h0:x0.oneCell'=true:=by exact E)(h1:x1.oneCell'=true:=by exact E)(h2:x2.oneCell'=true:=by exact E)(h3:x3.oneCell'=true:=by exact E)(h4:x4.oneCell'=true:=by exact E)(h5:x5.oneCell'=true:=by exact E)(h6:x6.oneCell'=true:=by exact E)(h7:x7.oneCell'=true:=by exact E)(h8:x8.oneCell'=true:=by exact E)(h9:x9.oneCell'=true:=by exact E)(h10:x10.oneCell'=true:=by exact E)(h11:x11.oneCell'=true:=by exact E)(h12:x12.oneCell'=true:=by exact E):∀c∈[x0,x1,x2,x3,x4,x5,x6,x7,x8,x9,x10,x11,x12],c.oneCell'=true:=A4 h0 (A4 h1 (A4 h2 (A4 h3 (A4 h4 (A4 h5 (A4 h6 (A4 h7 (A4 h8 (A4 h9 (A4 h10 (A4 h11 (A4 h12 (I5)))))))))))))
variable{x13 x14 x15 y13 y14 y15:Value}
theorem ln16:[x0,x1,x2,x3,x4,x5,x6,x7,x8,x9,x10,x11,x12,x13,x14,x15].length=[y0,y1,y2,y3,y4,y5,y6,y7,y8,y9,y10,y11,y12,y13,y14,y15].length:=rfl
theorem al16(h0:x0.oneCell'=true:=by exact E)(h1:x1.oneCell'=true:=by exact E)(h2:x2.oneCell'=true:=by exact E)(h3:x3.oneCell'=true:=by exact E)(h4:x4.oneCell'=true:=by exact E)(h5:x5.oneCell'=true:=by exact E)(h6:x6.oneCell'=true:=by exact E)(h7:x7.oneCell'=true:=by exact E)(h8:x8.oneCell'=true:=by exact E)(h9:x9.oneCell'=true:=by exact E)(h10:x10.oneCell'=true:=by exact E)(h11:x11.oneCell'=true:=by exact E)(h12:x12.oneCell'=true:=by exact E)(h13:x13.oneCell'=true:=by exact E)(h14:x14.oneCell'=true:=by exact E)(h15:x15.oneCell'=true:=by exact E):∀c∈[x0,x1,x2,x3,x4,x5,x6,x7,x8,x9,x10,x11,x12,x13,x14,x15],c.oneCell'=true:=A4 h0 (A4 h1 (A4 h2 (A4 h3 (A4 h4 (A4 h5 (A4 h6 (A4 h7 (A4 h8 (A4 h9 (A4 h10 (A4 h11 (A4 h12 (A4 h13 (A4 h14 (A4 h15 (I5))))))))))))))))
variable{x16 x17 y16 y17:Value}
theorem ln18:[x0,x1,x2,x3,x4,x5,x6,x7,x8,x9,x10,x11,x12,x13,x14,x15,x16,x17].length=[y0,y1,y2,y3,y4,y5,y6,y7,y8,y9,y10,y11,y12,y13,y14,y15,y16,y17].length:=rfl
theorem al18(h0:x0.oneCell'=true:=by exact E)(h1:x1.oneCell'=true:=by exact E)(h2:x2.oneCell'=true:=by exact E)(h3:x3.oneCell'=true:=by exact E)(h4:x4.oneCell'=true:=by exact E)(h5:x5.oneCell'=true:=by exact E)(h6:x6.oneCell'=true:=by exact E)(h7:x7.oneCell'=true:=by exact E)(h8:x8.oneCell'=true:=by exact E)(h9:x9.oneCell'=true:=by exact E)(h10:x10.oneCell'=true:=by exact E)(h11:x11.oneCell'=true:=by exact E)(h12:x12.oneCell'=true:=by exact E)(h13:x13.oneCell'=true:=by exact E)(h14:x14.oneCell'=true:=by exact E)(h15:x15.oneCell'=true:=by exact E)(h16:x16.oneCell'=true:=by exact E)(h17:x17.oneCell'=true:=by exact E):∀c∈[x0,x1,x2,x3,x4,x5,x6,x7,x8,x9,x10,x11,x12,x13,x14,x15,x16,x17],c.oneCell'=true:=A4 h0 (A4 h1 (A4 h2 (A4 h3 (A4 h4 (A4 h5 (A4 h6 (A4 h7 (A4 h8 (A4 h9 (A4 h10 (A4 h11 (A4 h12 (A4 h13 (A4 h14 (A4 h15 (A4 h16 (A4 h17 (I5))))))))))))))))))
variable{x18 x19:Value}
theorem A3Y{y18 y19:Value}:[x0,x1,x2,x3,x4,x5,x6,x7,x8,x9,x10,x11,x12,x13,x14,x15,x16,x17,x18,x19].length=[y0,y1,y2,y3,y4,y5,y6,y7,y8,y9,y10,y11,y12,y13,y14,y15,y16,y17,y18,y19].length:=rfl
theorem A3Z(h0:x0.oneCell'=true:=by exact E)(h1:x1.oneCell'=true:=by exact E)(h2:x2.oneCell'=true:=by exact E)(h3:x3.oneCell'=true:=by exact E)(h4:x4.oneCell'=true:=by exact E)(h5:x5.oneCell'=true:=by exact E)(h6:x6.oneCell'=true:=by exact E)(h7:x7.oneCell'=true:=by exact E)(h8:x8.oneCell'=true:=by exact E)(h9:x9.oneCell'=true:=by exact E)(h10:x10.oneCell'=true:=by exact E)(h11:x11.oneCell'=true:=by exact E)(h12:x12.oneCell'=true:=by exact E)(h13:x13.oneCell'=true:=by exact E)(h14:x14.oneCell'=true:=by exact E)(h15:x15.oneCell'=true:=by exact E)(h16:x16.oneCell'=true:=by exact E)(h17:x17.oneCell'=true:=by exact E)(h18:x18.oneCell'=true:=by exact E)(h19:x19.oneCell'=true:=by exact E):∀c∈[x0,x1,x2,x3,x4,x5,x6,x7,x8,x9,x10,x11,x12,x13,x14,x15,x16,x17,x18,x19],c.oneCell'=true:=A4 h0 (A4 h1 (A4 h2 (A4 h3 (A4 h4 (A4 h5 (A4 h6 (A4 h7 (A4 h8 (A4 h9 (A4 h10 (A4 h11 (A4 h12 (A4 h13 (A4 h14 (A4 h15 (A4 h16 (A4 h17 (A4 h18 (A4 h19 (I5))))))))))))))))))))
end Go.Px

