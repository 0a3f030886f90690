/- Part 3 of the texts of this claim, one behind the other. -/
import Derived.Test.YtjkpfgjfpbihaaaGreatDoorB2
import Derived.LoopN
set_option linter.unusedVariables false
set_option linter.unusedSimpArgs false
set_option maxRecDepth 100000
namespace Go
open Go.Px
abbrev Ce:=@Fit.eq
end Go
namespace Go.Proofs.YtjkpfgjfpbihaaaGreatDoor
open Go.Px
def B0N(R:Mem)(v:Value)(ps:List (LN)):Prop :=
  ∃ vs:List Value,Rd R 1 v ps.length vs∧∀ (i:Nat) (p:LN),ps[i]? = some p->(∀ x∈p,x < 256)∧∃ u,vs[i]? = some u∧Rd R 1 u p.length (nums .u8 p)
def A1L(ps:List (LN))(i:Nat):LN:=(ps.take i).flatten
variable{ps:List (LN)}{i:Nat}
theorem B0O{p:LN}(h:ps[i]? = some p):A1L ps (i+1)=A1L ps i++p:=by unfold A1L; rw [Bh,h]; simp
theorem A5p(ps:List (LN)):A1L ps ps.length=ps.flatten:=by unfold A1L; rw [List.take_length]
theorem B8l(ps:List (LN))(i:Nat):(A1L ps i).length<=ps.flatten.length:=by have h:=congrArg (λ l=>(List.flatten l).length) (List.take_append_drop i ps);simp only [List.flatten_append,List.length_append] at h;unfold A1L; omega
theorem B0P(h:∀ (i:Nat) (p:LN),ps[i]? = some p->∀ x∈p,x < 256)(i:Nat):∀ x∈A1L ps i,x < 256:=by intro x hx;obtain ⟨p,hp,hx⟩:=List.mem_flatten.1 hx;obtain ⟨j,hj⟩:=List.getElem?_of_mem (Bw hp);exact h j p hj x hx
theorem A9E(m:LN):(N2 m).length=64 * ((N2 m).length / 64)∧64 * (m.length / 64)<=(N2 m).length∧(N2 m).length<=m.length+73:=by
  have e:(N2 m).length=m.length+1+A3I m.length+8:=by simp [N2,B4C]; omega
  have hz:A3I m.length=(119 - m.length % 64) % 64:=rfl;omega
theorem A7J(m:LN)(k:Nat)(h:64 * k<=m.length):(N2 m).drop (64 * k)=m.drop (64 * k)++(128::(List.replicate (A3I m.length) 0++B4C m.length 8)):=by unfold N2; rw [List.drop_append_of_le_length h]
theorem B0Q{m:LN}(h:∀ x∈m,x < 256):∀ x∈N2 m,x < 256:=by
  intro x hx;unfold N2 at hx;rcases List.mem_append.1 hx with hx | hx
  . exact h x hx
  . rcases List.mem_cons.1 hx with rfl | hx
    . decide
    . rcases List.mem_append.1 hx with hx | hx
      . rw [(List.mem_replicate.1 hx).2]; decide
      . obtain ⟨i,_,rfl⟩:=List.mem_map.1 hx;exact Ad _ qD
variable{k:IntKind}
theorem A6A{ws:LN}(n:Nat):(nums k ws).take (n * 1)=nums k (ws.take n):=by rw [Nat.mul_one,A1a]
theorem A6B{ws:LN}(n:Nat):(nums k ws).drop (n * 1)=nums k (ws.drop n):=by rw [Nat.mul_one,A0J]
theorem B0R(s t:S8):(nums .u32 s.list).length=(nums .u32 t.list).length:=by rw [nums_len,nums_len]; simp [S8.list]
theorem B0S(n k:Nat):B4C n (k+1)=B4C n k++[(8 * n) >>> (56 - 8 * k) % 256]:=by simp [B4C,List.range_succ]
variable{ef ek:TypeId}{ff fk:Nat×Nat}
theorem A1w(v:Value)(ps:List (LN))(A:Mem)(hv:B0N A v ps)(htot:ps.flatten.length<=2147483648)(hcnt:ps.length<=2147483648)(h0:(0,Obj.cells (nums .u32 A27.list).toArray ef ff)∈A)(h1:(1,Obj.cells (nums .u32 A2c).toArray ek fk)∈A) :
  FnX Tryz.prog 79 [v] [] A λ r M J=>J=[]∧Sl 1 r 32 (nums .u8 (X8 ps.flatten)) M:=by
 obtain ⟨vs,hvs,hps⟩:=hv;refine Ck (N:=90) Tryz.func79 E E E λ w=>?_;refine A9 (D5 0) (A1 (as_ (A0 (D5 0) (A1 ?_))));refine A2 (H6 (cs:=nums .u32 A27.list) (n:=8) E kR (mA h0) qR) E ?_;refine A3 E (C3 (cs:=[D3,D3,D3,D3,D3,D3,D3,D3]) kR E λ b3=>?_);refine A8r E E kR qR E9 ?_;refine as_ (A0 (D6 0 3 4) (A1 (as_ (A0 (D8 0 3 4 5) (A4 (A1 (mv_ ?_)))))));refine A2 (A02 hvs E kR) E ?_;refine mv_ (A0 (H1 3 4 5 13 14 15) (A8 ?_));refine E5 (α:=Nat×Value×Mem) (λ x=>[(3,(vP b3)),(4,.int .i64 ((A1L ps x.1).length:Int)),(5,x.2.1),(13,v),(14,.int .i64 (ps.length:Int)),(15,.int .i64 (x.1:Int))]) (λ x=>x.2.2++[(b3,blk (nums .u32 (A4D A2c ((A1L ps x.1).length / 64) A27 (A1L ps x.1)).list) 206)]) (λ _=>[]) (λ x=>x.1<=ps.length∧Sl 1 x.2.1 ((A1L ps x.1).length - 64 * ((A1L ps x.1).length / 64)) (nums .u8 ((A1L ps x.1).drop (64 * ((A1L ps x.1).length / 64)))) x.2.2) (λ x=>ps.length - x.1) (0,vS,[]) ⟨Am _,W6 Sl.nil (by simp [A1L]) (by simp [A1L,nums])⟩ (H1 3 4 5 13 14 15) (Ce (by simp [A1L,A4D])) qI ?_;rintro ⟨i,rv,B⟩ ⟨hi,hsl⟩;dsimp only at hi hsl ⊢;refine A1 ?_;refine A2 (F0 E E E) E ?_;refine A0 (N9 3 4 5 13 14 15 16) (A4 ?_);refine C4 E ?_ ?_ <;> intro hc
 .
  have hlt:i < ps.length:=by simp at hc; omega
  obtain ⟨q,hq⟩:∃ q,ps[i]? = some q:=⟨_,Ab hlt⟩
  obtain ⟨hq256,u,hu,hqr⟩:=hps i q hq;have hps1:=B0O hq;have hle1:=B8l ps (i+1);have hpl:(A1L ps (i+1)).length=(A1L ps i).length+q.length:=by rw [hps1,An]
  generalize hm:A1L ps i=m at *;refine A6 (nx (H1 3 4 5 13 14 15) (A4 (A8 (A1 ?_))));refine A2 (B4E hvs E E kR i E hlt) E ?_;refine A2 (Y9 (hvs.mono λ _ h=>mA h) E kR hu) E ?_;refine as_ (A0 (N9 3 4 5 7 13 14 15) (A1 (mv_ (mv_ ?_))));refine A2 (A02 hqr E kR) E ?_;refine A2 (D7 (((A1L ps (i+1)).length:Nat):Int) E E (F7 qO qO qO)) E ?_;refine as_ (A0 (N9 3 4 5 7 13 14 15) (A1 (mv_ (mv_ ?_))));refine A3 E (V7 (e:=5) (sz:=1) (by_:=1) (m:=q.length) (B:=B) E E kR E hsl (hqr.mono λ _ h=>mA h) E9 (.refl _) (by unfold maxLen; omega) qO E λ rv1 B1 hsl1=>?_);have hsl1:Sl 1 rv1 ((A1L ps (i+1)).length - 64 * (m.length / 64)) (nums .u8 ((A1L ps (i+1)).drop (64 * (m.length / 64)))) B1:=W6 hsl1 qO (by rw [hps1,List.drop_append_of_le_length qO,H8]);refine as_ (A0 (H1 3 4 5 13 14 15) (A8 ?_));refine E5 (α:=Nat×Value×Mem) (λ x=>[(3,(vP b3)),(4,.int .i64 ((A1L ps (i+1)).length:Int)),(5,x.2.1),(13,v),(14,.int .i64 (ps.length:Int)),(15,.int .i64 (i:Int))]) (λ x=>x.2.2++[(b3,blk (nums .u32 (A4D A2c x.1 A27 (A1L ps (i+1))).list) 206)]) (λ _=>[]) (λ x=>64 * x.1<=(A1L ps (i+1)).length∧Sl 1 x.2.1 ((A1L ps (i+1)).length - 64 * x.1) (nums .u8 ((A1L ps (i+1)).drop (64 * x.1))) x.2.2) (λ x=>(A1L ps (i+1)).length - 64 * x.1) (m.length / 64,rv1,B1) ⟨by dsimp only; omega,hsl1⟩ (H1 3 4 5 13 14 15) (Ce (by dsimp only; rw [hps1,A5n _ _ _ _ _ qO])) qI ?_;clear hsl1 hsl;rintro ⟨k,rv,B⟩ ⟨hk1,hsl⟩;dsimp only at hk1 hsl ⊢;refine A4 (A1 (mv_ ?_));refine A2 (A02 (hsl.rd λ _ h=>h) E kR) E ?_;refine A2 (F0 E E E) E ?_;refine A0 (N9 3 4 5 13 14 15 28) ?_;refine C4 E ?_ ?_ <;> intro hc
  .
   have hge:64<=(A1L ps (i+1)).length - 64 * k:=by simp at hc; omega
   obtain ⟨B2,hB2,hsl2⟩:=hsl.loV 64 hge;refine A6 (nx (H1 3 4 5 13 14 15) (A8 ?_));refine A1W (_) [0,1,2] [(0,1),(1,0),(2,0),(3,2),(4,2)] kR kR qI λ hs=>?_;refine A4A hs E (H6 (n:=8) E kR Cc qR) E ?_;refine L9 hs E qm_ E ?_;refine L9 hs E (B8j (hsl.rd λ _ h=>h) E E kR 64 E hge) E ?_;refine A1X E E E (R8 (aS E (aS E a0)) kR (A4O _ (A5m _ _ _ A5l) _ (λ x hx=>(B0P (λ j p hp=>(hps j p hp).1) (i+1)) x (List.mem_of_mem_drop (Bw hx))) _ _ (A0x ((hsl.rd λ _ h=>by simp [h]).hiV 64 hge) E (A6A 64)) (mA h1)) E ?_);refine A1X E E E (A7 E E E kR (B0R _ _) E9 Cs ?_);refine A3G (H1 3 4 5 13 14 15) ?_;refine C2 (mv_ ?_);refine A2 (B8k (hsl.rd λ _ h=>h) E E kR 64 E hge) E ?_;refine as_ (C6 (nb ?_));refine rn (k+1,_,B2) ⟨by dsimp only; omega,W6 hsl2 (by dsimp only; omega) (by rw [A6B,List.drop_drop]; rfl)⟩ (by dsimp only; omega) (H1 3 4 5 13 14 15) ?_ qI;dsimp only;rw [A3J];exact Ci (List.Sublist.append hB2 (Ao _))
  .
   have hge:k=(A1L ps (i+1)).length / 64:=by simp at hc; omega
   subst hge;refine D9 (te (re (be E (nb (nx (H1 3 4 5 13 14 15) (C2 ?_))))));refine A2 (D7 ((i+1:Nat):Int) E E (F7 qO qO qO)) E ?_;refine mv_ (C6 ?_);refine rn (i+1,_,B) ⟨by dsimp only; omega,hsl⟩ (by dsimp only; omega) (H1 3 4 5 13 14 15) .rfl qI
 .
  have hlt:i=ps.length:=by simp at hc; omega
  subst hlt;rw [A5p] at hsl;simp only [A5p];generalize hm:ps.flatten=m at *;refine D9 (te (re (be E (nx (D6 3 4 5) (A1 (mv_ ?_))))));refine A3 E (C5 (e:=5) (sz:=1) (z:=[.int .u8 0]) kR (eS E e0) (bdS 0 1 E qR bd0) E λ b37=>?_);have hm256:∀ x∈m,x < 256:=by rw [<- hm,<- A5p]; exact B0P (λ j p hp=>(hps j p hp).1) _
  have htot':m.length<=2147483648:=htot;refine A3 E (V7 (e:=5) (sz:=1) (by_:=1) (m:=1) (B:=B) (ys:=nums .u8 [128]) (M0:=(b37,_)::_) E E kR E hsl (Co (n:=1) m0 qR) E9 pkB (by unfold maxLen; omega) qO E λ rv1 B1 hsl1=>?_);clear hsl;have hsl1:Sl 1 rv1 (m.length % 64+1) (nums .u8 (m.drop (64 * (m.length / 64))++[128])) B1:=W6 hsl1 qO (by rw [H8]);refine as_ (A0 (D6 3 4 5) (A4 (A8 ?_)));refine E5 (α:=Nat×Value×Mem) (λ x=>[(3,(vP b3)),(4,.int .i64 (m.length:Int)),(5,x.2.1)]) (λ x=>x.2.2++[(b3,blk (nums .u32 (A4D A2c (m.length / 64) A27 m).list) 206)]) (λ _=>[]) (λ x=>x.1<=A3I m.length∧Sl 1 x.2.1 (m.length % 64+1+x.1) (nums .u8 (m.drop (64 * (m.length / 64))++(128::List.replicate x.1 0))) x.2.2) (λ x=>A3I m.length - x.1) (0,rv1,B1) ⟨Am _,hsl1⟩ (D6 3 4 5) (Fit.head1' (Ao _)) qI ?_;clear hsl1;rintro ⟨z,rv,B⟩ ⟨hz,hsl⟩;dsimp only at hz hsl ⊢;have hzz:A3I m.length=(119 - m.length % 64) % 64:=rfl;refine A4 (A1 (mv_ ?_));refine A2 (A02 (hsl.rd λ _ h=>h) E kR) E ?_;refine A2 (B0E (b:=64) E E qD) E ?_;refine A2 (F0 E E E) E ?_;refine A0 (D8 3 4 5 42) ?_;refine C4 E ?_ ?_ <;> intro hc
  .
   have hlt:z < A3I m.length:=by simp at hc; omega
   refine A6 (nx (D6 3 4 5) (A8 (C2 (mv_ ?_))));refine A3 E (C5 (e:=5) (sz:=1) (z:=[.int .u8 0]) kR (eS E e0) (bdS 0 1 E qR bd0) E λ b44=>?_);refine A3 E (V7 (e:=5) (sz:=1) (by_:=1) (m:=1) (B:=B) (ys:=nums .u8 [0]) (M0:=(b44,_)::_) E E kR E hsl (Co (n:=1) m0 qR) E9 pkB (by unfold maxLen; omega) qO E λ rv1 B1 hsl1=>?_);refine as_ (C6 (nb ?_));refine rn (z+1,rv1,B1) ⟨by dsimp only; omega,W6 hsl1 (by dsimp only; omega) ?_⟩ (by dsimp only; omega) (D6 3 4 5) (Fit.head1' (Ao _)) qI;dsimp only;rw [<- H8,Ap,List.cons_append,<- List.replicate_succ']
  .
   have hlt:z=A3I m.length:=by simp at hc; omega
   subst hlt;refine D9 (te (re (be E (nx (D6 3 4 5) (A4 (A1 (mv_ ?_)))))));refine A0 (D8 3 4 5 46) (A8 ?_);refine E5 (α:=Nat×Value×Mem) (λ x=>[(3,(vP b3)),(4,.int .i64 (m.length:Int)),(5,x.2.1),(46,.int .i64 (x.1:Int))]) (λ x=>x.2.2++[(b3,blk (nums .u32 (A4D A2c (m.length / 64) A27 m).list) 206)]) (λ _=>[]) (λ x=>x.1<=8∧Sl 1 x.2.1 (m.length % 64+1+A3I m.length+x.1) (nums .u8 (m.drop (64 * (m.length / 64))++(128::(List.replicate (A3I m.length) 0++B4C m.length x.1)))) x.2.2) (λ x=>8 - x.1) (0,rv,B) ⟨Am _,W6 hsl E (by simp [B4C])⟩ (D8 3 4 5 46) .rfl qI ?_;clear hsl;rintro ⟨i,rv,B⟩ ⟨hi,hsl⟩;dsimp only at hi hsl ⊢;refine A1 ?_;refine A2 (F0 E E E) E ?_;refine A0 (E8 3 4 5 46 47) (A4 ?_);refine C4 E ?_ ?_ <;> intro hc
   .
    have hlt:i < 8:=by simp at hc; omega
    refine A6 (nx (D8 3 4 5 46) (A4 (A8 (A1 (mv_ (as_ (A0 (E8 3 4 5 8 46) (C2 ?_))))))));refine mv_ (mv_ ?_);refine A2 (D7 ((8 * m.length:Nat):Int) E E (A1I qO qO qO)) E ?_;refine A2 (A1K (k':=.u64) E kR (by show _ < 9223372036854775808; omega)) E ?_;refine mv_ ?_;refine A2 (D7 ((8 * i:Nat):Int) E E (A1I qO qO qO)) E ?_;refine A2 (D7 ((56 - 8 * i:Nat):Int) E E (W5 qO qO qO)) E ?_;refine A2 (T7 (56 - 8 * i) E E E (by show _<=64; omega)) E ?_;refine A2 (A04 E kR) E ?_;refine A3 E (C5 (e:=5) (sz:=1) (z:=[.int .u8 0]) kR (eS E e0) (bdS 0 1 E qR bd0) E λ b58=>?_);refine A3 E (V7 (e:=5) (sz:=1) (by_:=1) (m:=1) (B:=B) (ys:=nums .u8 [(8 * m.length) >>> (56 - 8 * i) % 256]) (M0:=(b58,_)::_) E E kR E hsl (Co (n:=1) m0 qR) E9 pkB (by unfold maxLen; omega) qO E λ rv1 B1 hsl1=>?_);refine as_ (C6 (nb (nx (D8 3 4 5 46) (C2 ?_))));refine A2 (D7 ((i+1:Nat):Int) E E (F7 qO qO qO)) E ?_;refine mv_ (C6 ?_);refine rn (i+1,rv1,B1) ⟨by dsimp only; omega,W6 hsl1 (by dsimp only; omega) ?_⟩ (by dsimp only; omega) (D8 3 4 5 46) (Fit.head1' (Ao _)) qI;dsimp only;rw [<- H8,Ap,List.cons_append,Ap,<- B0S]
   .
    have hlt:i=8:=by simp at hc; omega
    subst hlt;refine D9 (te (re (be E (nx (D2 3 5) (A4 (A8 ?_))))));obtain ⟨hp1,hp2,hp3⟩:=A9E m;have hsl0:=W6 (n':=(N2 m).length - 64 * (m.length / 64)) (xs':=nums .u8 ((N2 m).drop (64 * (m.length / 64)))) hsl (by simp [N2,B4C]; omega) (by rw [A7J _ _ qO]);clear hsl;refine E5 (α:=Nat×Value×Mem) (λ x=>[(3,(vP b3)),(5,x.2.1)]) (λ x=>x.2.2++[(b3,blk (nums .u32 (A4D A2c x.1 A27 (N2 m)).list) 206)]) (λ _=>[]) (λ x=>64 * x.1<=(N2 m).length∧Sl 1 x.2.1 ((N2 m).length - 64 * x.1) (nums .u8 ((N2 m).drop (64 * x.1))) x.2.2) (λ x=>(N2 m).length - 64 * x.1) (m.length / 64,rv,B) ⟨hp2,hsl0⟩ (D2 3 5) (Ce (by dsimp only; unfold N2; rw [A5n _ _ _ _ _ qO])) qI ?_;clear hsl0;rintro ⟨k,rv,B⟩ ⟨hk1,hsl⟩;dsimp only at hk1 hsl ⊢;refine A4 (A1 (mv_ ?_));refine A2 (A02 (hsl.rd λ _ h=>h) E kR) E ?_;refine A2 (F0 E E E) E ?_;refine A0 (D6 3 5 63) ?_;refine C4 E ?_ ?_ <;> intro hc
    .
     have hge:64<=(N2 m).length - 64 * k:=by simp at hc; omega
     obtain ⟨B2,hB2,hsl2⟩:=hsl.loV 64 hge;refine A6 (nx (D2 3 5) (A4 (A8 ?_)));refine A2f (_) [0,1,2] [(0,1),(1,0),(2,0),(3,2),(4,2)] kR kR qI λ hs=>?_;refine A4A hs E (H6 (n:=8) E kR Cc qR) E ?_;refine L9 hs E qm_ E ?_;refine L9 hs E (B8j (hsl.rd λ _ h=>h) E E kR 64 E hge) E ?_;refine A1X E E E (R8 (aS E (aS E a0)) kR (A4O _ (A5m _ _ _ A5l) _ (λ x hx=>(B0Q hm256) x (List.mem_of_mem_drop (Bw hx))) _ _ (A0x ((hsl.rd λ _ h=>by simp [h]).hiV 64 hge) E (A6A 64)) (mA h1)) E ?_);refine A1X E E E (A7 E E E kR (B0R _ _) E9 Cs ?_);refine A6v ?_;refine nb (nx (D2 3 5) (C2 (mv_ ?_)));refine A2 (B8k (hsl.rd λ _ h=>h) E E kR 64 E hge) E ?_;refine as_ (C6 ?_);refine rn (k+1,_,B2) ⟨by dsimp only; omega,W6 hsl2 (by dsimp only; omega) (by rw [A6B,List.drop_drop]; rfl)⟩ (by dsimp only; omega) (D2 3 5) ?_ qI;dsimp only;rw [A3J];exact Ci (List.Sublist.append hB2 (Ao _))
    .
     have hge:k=(N2 m).length / 64:=by simp at hc; omega
     subst hge;refine D9 (te (re (be E (nx (D5 3) (A1 (as_ (A0 (D2 3 9) ?_)))))));refine A4 (A1 ?_);have hro:=A5m A2c ((N2 m).length / 64) (N2 m) A5l;generalize hr:A4D A2c ((N2 m).length / 64) A27 (N2 m)=r at *;refine B0y (n:=8) E kR qR E ?_;refine mv_ (A0 (D6 9 70 71) (A8 ?_));refine E5 (α:=Nat×Value×Mem) (λ x=>[(9,x.2.1),(70,.agg (nums .u32 r.list).toArray),(71,.int .i64 (x.1:Int))]) (λ x=>x.2.2) (λ _=>[]) (λ x=>x.1<=8∧Sl 1 x.2.1 (4 * x.1) (nums .u8 ((r.list.take x.1).flatMap B8e)) x.2.2) (λ x=>8 - x.1) (0,vS,[]) ⟨Am _,Sl.nil⟩ (D6 9 70 71) (Ci (Aa _)) qI ?_;clear hsl;rintro ⟨i,rv,B⟩ ⟨hi,hsl⟩;dsimp only at hi hsl ⊢;refine A1 ?_;refine A2 (F0 E E E) E ?_;refine A0 (D8 9 70 71 72) (A4 ?_);refine C4 E ?_ ?_ <;> intro hc
     .
      have hlt:i < 8:=by simp at hc; omega
      have hx32:r.list.getD i 0 < 4294967296:=getD_lt hro qD;refine A6 (nx (D6 9 70 71) (A4 (A8 (A1 ?_))));refine A2 (A5o (e:=31) (m:=8) (j:=i) E E kR kR kR E hlt (V9 (show i < 8 from hlt))) E ?_;refine as_ (A0 (D8 9 11 70 71) (C2 (mv_ (mv_ ?_))));refine A2 (T7 24 E E E qD) E ?_;refine A2 (A04 E kR) E ?_;refine mv_ ?_;refine A2 (T7 16 E E E qD) E ?_;refine A2 (A04 E kR) E ?_;refine mv_ ?_;refine A2 (T7 8 E E E qD) E ?_;refine A2 (A04 E kR) E ?_;refine mv_ ?_;refine A2 (A04 E kR) E ?_;refine A3 E (C5 (e:=5) (sz:=1) (z:=[zu8,zu8,zu8,zu8]) kR (eS E (eS E (eS E (eS E e0)))) (bdS 0 1 E qR (bdS 1 1 E qR (bdS 2 1 E qR (bdS 3 1 E qR bd0)))) E λ b86=>?_);refine A3 E (V7 (e:=5) (sz:=1) (by_:=1) (m:=4) (B:=B) (ys:=nums .u8 (B8e (r.list.getD i 0))) (M0:=(b86,_)::_) E E kR E hsl (Co (n:=4) m0 qR) E9 pkB0 (by unfold maxLen; omega) qO E λ rv1 B1 hsl1=>?_);refine as_ (C6 (nb (nx (D6 9 70 71) (C2 ?_))));refine A2 (D7 ((i+1:Nat):Int) E E (F7 qO qO qO)) E ?_;refine mv_ (C6 ?_);refine rn (i+1,rv1,B1) ⟨by dsimp only; omega,W6 hsl1 (by dsimp only; omega) ?_⟩ (by dsimp only; omega) (D6 9 70 71) (Ci (Ay _ _)) qI;dsimp only;rw [<- H8,Bh,List.flatMap_append,Ab (show i < r.list.length from hlt),List.getD,Ab (show i < r.list.length from hlt)];simp
     .
      have hlt:i=8:=by simp at hc; omega
      subst hlt;refine D9 (te (re (be E (nx (D5 9) (A1 (mv_ (as_ (A0 (D5 2) ?_))))))));refine C0 ?_;refine ⟨_,B,[],I0 E E,Ao _,by simp,E,W6 hsl E ?_⟩;unfold X8; rw [hr]; rfl

def Pv(R:Mem)(vs:List Value)(ps:List (LN)):Prop:=vs.length=ps.length∧∀ (i:Nat) (p:LN),ps[i]? = some p->(∀ x∈p,x < 256)∧∃ u,vs[i]? = some u∧Rd R 1 u p.length (nums .u8 p)
variable{R:Mem}
theorem Pv.nil:Pv R [] []:=⟨E,λ i p h=>by simp at h⟩
variable{vs:List Value}
theorem Pv.cons{u:Value}{p:LN}(hp:∀ x∈p,x < 256)(hu:Rd R 1 u p.length (nums .u8 p))(h:Pv R vs ps):Pv R (u::vs) (p::ps):=by
  refine ⟨by simp [h.1],λ i q hq=>?_⟩
  cases i with
  | zero=>cases hq; exact ⟨hp,u,E,hu⟩
  | succ i=>exact h.2 i q (by simpa using hq)
theorem Pv.mono{R R':Mem}{vs:List Value}{ps:List (LN)}(h:Pv R vs ps)(hR:∀ x,x∈R->x∈R'):Pv R' vs ps:=by refine ⟨h.1,λ i p hp=>?_⟩;obtain ⟨h3,u,h4,h5⟩:=h.2 i p hp;exact ⟨h3,u,h4,h5.mono hR⟩
theorem Pv.one(h:Pv R vs ps):∀ c∈vs,c.oneCell'=true:=by intro c hc;obtain ⟨i,hi⟩:=List.getElem?_of_mem hc;have hlt:=(Ac.1 hi).1;obtain ⟨_,u,hu,p,c',rfl,_⟩:=h.2 i _ (Ab (h.1▸hlt));rw [hi] at hu; cases hu; rfl
variable{v:Value}
theorem B0N.of{n:Nat}(h:Rd R 1 v n vs)(hn:n=ps.length)(hp:Pv R vs ps):B0N R v ps:=⟨vs,hn▸h,hp.2⟩
theorem B0N.pv(h:B0N R v ps):∃ vs,Rd R 1 v ps.length vs∧Pv R vs ps:=by obtain ⟨vs,h1,h2⟩:=h;exact ⟨vs,h1,by have:=h1.len; omega,h2⟩
theorem A3O(p:LN):(X8 p).length=32:=by simp [X8,S8.bytes,S8.list,B8e]
theorem A6C(p:LN):∀ x∈X8 p,x < 256:=by intro x hx;obtain ⟨y,_,hy⟩:=List.mem_flatMap.1 hx;simp only [B8e,List.mem_cons,List.not_mem_nil,or_false] at hy;rcases hy with rfl | rfl | rfl | rfl <;> exact Ad _ qD
def A1Y(ks:LN)(x i:Nat):LN:=(ks.take i).map (· ^^^ x)++ks.drop i
theorem A2l(ks:LN)(x i:Nat):(A1Y ks x i).length=ks.length:=by simp [A1Y]; omega
variable{ks:LN}{x:Nat}
theorem A2m(h:i < ks.length):(A1Y ks x i).getD i 0=ks.getD i 0:=by
  unfold A1Y;have hl:((ks.take i).map (· ^^^ x)).length=i:=by simp; omega
  simp only [List.getD];rw [Aq qO,hl,Nat.sub_self,List.getElem?_drop,Nat.add_zero]
theorem A4Q(h:i < ks.length):(A1Y ks x i).set i (ks.getD i 0 ^^^ x)=A1Y ks x (i+1):=by
  unfold A1Y;have hl:((ks.take i).map (· ^^^ x)).length=i:=by simp; omega
  rw [List.set_append_right _ _ qO,hl,Nat.sub_self,Br h,List.set_cons_zero,Bh,List.getD,Ab h];simp only [Option.getD_some,Option.toList_some,List.map_append,List.map_cons,List.map_nil,List.append_assoc,List.cons_append,List.nil_append]
theorem A6D(h:ks.length=i):A1Y ks x i=ks.map (· ^^^ x):=by unfold A1Y; rw [<- h]; simp
variable{key:LN}
theorem A9F(h:key.length<=64)(x:Nat):(A28 key x).length=64:=by simp [A28]; omega
theorem B0T(h:∀ x∈key,x < 256){y:Nat}(hy:y < 256):∀ x∈A28 key y,x < 256:=by
  intro x hx;obtain ⟨z,hz,rfl⟩:=List.mem_map.1 hx;refine Nat.xor_lt_two_pow (n:=8) ?_ hy;rcases List.mem_append.1 hz with hz | hz
  . exact h z hz
  . rw [(List.mem_replicate.1 hz).2]; decide
theorem A9G(key:LN):(A01 key).length<=64:=by
  unfold A01; split
  . rw [A3O]; decide
  . omega
theorem B0U(h:∀ x∈key,x < 256):∀ x∈A01 key,x < 256:=by
  unfold A01; split
  . exact A6C _
  . exact h
theorem A8x(kv pv:Value)(key:LN)(ps:List (LN))(A:Mem)(hkey:Rd A 1 kv key.length (nums .u8 key))(hk256:∀ x∈key,x < 256)(hk31:key.length<=1073741824)(hp:B0N A pv ps)(htot:ps.flatten.length<=1073741824)(hcnt:ps.length<=1073741824)(h0:(0,Obj.cells (nums .u32 A27.list).toArray ef ff)∈A)(h1:(1,Obj.cells (nums .u32 A2c).toArray ek fk)∈A) :
  FnX Tryz.prog 102 [kv,pv] [] A λ r M J=>J=[]∧Sl 1 r 32 (nums .u8 (A7y key ps.flatten)) M:=by
 obtain ⟨vs,hvs,hpv⟩:=hp.pv;haveI:=hkey.cel;refine Ck (N:=42) Tryz.func102 E E E λ w=>?_;refine A9 (D2 0 1) (A1 (as_ (A0 (D2 0 1) ?_)));refine P8 (α:=Value×Mem) (λ x=>[(0,x.1),(1,pv)]) (λ x=>x.2) (λ _=>[]) (λ x=>Rd (x.2++A) 1 x.1 (A01 key).length (nums .u8 (A01 key))) ?_ ?_
 .
  refine A1 (mv_ ?_);refine A2 (A02 hkey E kR) E ?_;refine A2 (F0 E E E) E ?_;refine A0 (D6 0 1 10) ?_;refine C4 E ?_ ?_ <;> intro hc
  .
   have hgt:64 < key.length:=by simp at hc; omega
   refine C2 (mv_ ?_);refine A3 E (C5 (e:=28) (sz:=1) (z:=[vS]) kR (eS E e0) (bdS 0 1 E qR bd0) E λ b12=>?_);refine A3 E (D0 (Mc:=[]) (R:=[_]) (aS E a0) kR (.refl _) (A1w _ [key] _ (B0N.of (Co (n:=1) m0 qR) E (.cons hk256 (hkey.mono λ _ h=>mA h) .nil)) (by simp; omega) qM (mA h0) (mA h1)) E ?_);rintro r M1 J1 ⟨rfl,hr⟩;refine as_ (C6 ?_);refine jn (r,_) ?_ (D2 0 1) .rfl qI;dsimp only;rw [A01,if_pos hgt,A3O];exact A0x (hr.rd λ _ h=>by simp [h]) E qM
  .
   have hgt:¬ 64 < key.length:=by simp at hc; omega
   refine A6 ?_;refine jn (kv,[]) ?_ (D2 0 1) .rfl qI;dsimp only;rw [A01,if_neg hgt];exact hkey
 .
  rintro ⟨kv1,Mk⟩ hkv;dsimp only at hkv ⊢;have hK64:=A9G key;have hKb:=B0U hk256;have hkl:=A9F hK64;have hklt:=λ y hy=>B0T (y:=y) hKb hy;unfold A7y;unfold A28 at *;generalize A01 key=K at *;have hK1:(K++List.replicate (64 - K.length) 0).length=64:=by simp; omega
  have hK2:∀ x∈K++List.replicate (64 - K.length) 0,x < 256:=λ x hx=>by
   rcases List.mem_append.1 hx with h | h
   . exact hKb x h
   . rw [(List.mem_replicate.1 h).2]; decide
  refine A1 ?_;refine A3 E (C3 (cs:=nums .u8 (List.replicate 64 0)) kR E λ b5=>?_);refine A3 E (C3 (cs:=nums .u8 (List.replicate 64 0)) kR E λ b6=>?_);refine A0 (D8 0 1 5 6) (A1 ?_);refine A2 (B4F (e:=5) (sz:=1) (m:=64) E kR kR) E ?_;refine mv_ ?_;refine A3 rfl (B67 (e:=5) (by_:=1) (n:=K.length) (m:=64) (ws:=List.replicate 64 0) (us:=K) (ws':=K++List.replicate (64 - K.length) 0) rfl rfl kR (hkv.mono λ q hq=>by rcases List.mem_append.1 hq with h | h <;> simp [h]) hK64 qM (by rw [List.drop_replicate]) Cs E ?_);refine A0 (D8 0 1 5 6) (A1 ?_);refine A2 (B4F (e:=5) (sz:=1) (m:=64) E kR kR) E ?_;refine mv_ ?_;refine A3 rfl (B67 (e:=5) (by_:=1) (n:=K.length) (m:=64) (ws:=List.replicate 64 0) (us:=K) (ws':=K++List.replicate (64 - K.length) 0) rfl rfl kR (hkv.mono λ q hq=>by rcases List.mem_append.1 hq with h | h <;> simp [h]) hK64 qM (by rw [List.drop_replicate]) Cs E ?_);refine A0 (D6 1 5 6) (A4 (A1 (mv_ (A0 (D8 1 5 6 20) (A8 ?_)))));generalize hKK:K++List.replicate (64 - K.length) 0=KK at *;refine E5 (α:=Nat) (λ i=>[(1,pv),(5,(vP b5)),(6,(vP b6)),(20,.int .i64 (i:Int))]) (λ i=>[(b6,blk (nums .u8 (A1Y KK 92 i)) 224),(b5,blk (nums .u8 (A1Y KK 54 i)) 224)]) (λ _=>[]) (λ i=>i<=64) (λ i=>64 - i) 0 (Am _) (D8 1 5 6 20) (Ci (.cons_cons _ (.cons_cons _ (Aa _)))) qI ?_;intro i hi;refine A1 ?_;refine A2 (F0 E E E) E ?_;refine A0 (E8 1 5 6 20 21) (A4 ?_);refine C4 E ?_ ?_ <;> intro hc
  .
   have hlt:i < 64:=by simp at hc; omega
   have hx8:KK.getD i 0 < 256:=getD_lt hK2 qD;refine A6 (nx (D8 1 5 6 20) (A4 (A8 (A1 (mv_ (as_ (A0 (E8 1 5 6 7 20) (A1 ?_))))))));refine mv_ ?_;refine A2 (G2 (i:=i) (e:=5) (n:=64) (sz:=1) E E kR kR E qO) E ?_;refine A2 (I6 (ws:=A1Y KK 54 i) i E kR Cc qO (by rw [A2l]; omega)) E ?_;refine A2 (B0H (b:=54) E E (by rw [A2m qO]; exact hx8) qD) E ?_;refine A2 (G2 (i:=i) (e:=5) (n:=64) (sz:=1) E E kR kR E qO) E ?_;refine A3 E (K8 (ws:=A1Y KK 54 i) i E E kR qO (by rw [A2l]; omega) Cs ?_);refine A0 (E8 1 5 6 7 20) (C2 (mv_ ?_));refine A2 (G2 (i:=i) (e:=5) (n:=64) (sz:=1) E E kR kR E qO) E ?_;refine A2 (I6 (ws:=A1Y KK 92 i) i E kR Cc qO (by rw [A2l]; omega)) E ?_;refine A2 (B0H (b:=92) E E (by rw [A2m qO]; exact hx8) qD) E ?_;refine A2 (G2 (i:=i) (e:=5) (n:=64) (sz:=1) E E kR kR E qO) E ?_;refine A3 E (K8 (ws:=A1Y KK 92 i) i E E kR qO (by rw [A2l]; omega) Cs ?_);refine C6 (nb (nx (D8 1 5 6 20) (C2 ?_)));refine A2 (D7 ((i+1:Nat):Int) E E (F7 qO qO qO)) E ?_;refine mv_ (C6 ?_);refine rn (i+1) qO qO (D8 1 5 6 20) (Ce ?_) qI;rw [A2m qO,A2m qO,A4Q qO,A4Q qO]
  .
   have hlt:i=64:=by simp at hc; omega
   subst hlt;rw [A6D hK1,A6D hK1];refine D9 (te (re (be E (nx (D6 1 5 6) ?_))));refine A1W ([]) [] [(0,0),(1,0),(3,0),(2,2),(4,2),(5,2),(6,2),(7,2),(8,0)] kR kR qM λ hs=>?_;refine L9 hs E (B4F (e:=5) (sz:=1) (m:=64) E kR kR) E ?_;refine L9 hs E (B4F (e:=5) (sz:=1) (m:=64) E kR kR) E ?_;refine L9 hs E qm_ E ?_;refine A1X E E E (C5 (e:=28) (sz:=1) (z:=[vS]) kR (eS E e0) (bdS 0 1 E qR bd0) E λ b36=>?_);refine A1X E E E (V7 (e:=28) (sz:=1) (by_:=24) (n:=1) (m:=ps.length) (B:=[(b36,_)]) E E kR E (Sl.fresh E qD) (hvs.mono λ _ h=>mA h) hpv.one (.refl _) (by unfold maxLen; omega) qO E λ v38 B38 hsl38=>?_);refine A1X E E E (D0 (Mc:=[]) (R:=B38++[_,_]) (aS E a0) kR (.refl _) (A1w v38 (KK.map (· ^^^ 54)::ps) _ (B0N.of (hsl38.rd λ _ h=>by simp [h]) (by rw [List.length_cons]; omega) (.cons (hklt 54 qD) (A0x (Co (n:=64) (cs:=nums .u8 (KK.map (· ^^^ 54))) Cc (by simp [hK1])) (hkl 54).symm E) (hpv.mono λ _ h=>mA h))) (by rw [List.flatten_cons,An,List.length_map,hK1]; omega) (by rw [List.length_cons]; omega) (mA h0) (mA h1)) E ?_);rintro r39 M39 J39 ⟨rfl,hr39⟩;haveI:=hr39.cel;refine A1X E E E (C5 (e:=28) (sz:=1) (z:=[vS,vS]) kR (eS E (eS E e0)) (bdS 0 1 E qR (bdS 1 1 E qR bd0)) E λ b40=>?_);refine A1X E E E (D0 (Mc:=[]) (R:=_::(M39++(B38++[_,_]))) (aS E a0) kR (.refl _) (A1w _ [KK.map (· ^^^ 92),X8 (KK.map (· ^^^ 54)++ps.flatten)] _ (B0N.of (Co (n:=2) m0 qR) E (.cons (hklt 92 qD) (A0x (Co (n:=64) (cs:=nums .u8 (KK.map (· ^^^ 92))) Cc (by simp [hK1])) (hkl 92).symm E) (.cons (A6C _) (A0x (hr39.rd λ _ h=>by simp [h]) (A3O _).symm qM) .nil))) (by simp [hK1,A3O]) qM (mA h0) (mA h1)) E ?_);rintro r41 M41 J41 ⟨rfl,hr41⟩;refine L9 hs E (G4 E) E ?_;refine A3G (D5 4) ?_;refine C0 ?_;refine ⟨_,_,[],I0 E E,Ay _ _,by simp,E,W6 hr41 E ?_⟩;simp
theorem A29(kv pv:Value)(key p:LN)(A:Mem)(hkey:Rd A 1 kv key.length (nums .u8 key))(hk256:∀ x∈key,x < 256)(hk31:key.length<=1073741824)(hp:Rd A 1 pv p.length (nums .u8 p))(hp256:∀ x∈p,x < 256)(htot:p.length<=1073741824)(h0:(0,Obj.cells (nums .u32 A27.list).toArray ef ff)∈A)(h1:(1,Obj.cells (nums .u32 A2c).toArray ek fk)∈A) :
  FnX Tryz.prog 65 [kv,pv] [] A λ r M J=>J=[]∧Sl 1 r 32 (nums .u8 (A7y key p)) M:=by
 haveI:=hp.cel;refine Ck (N:=9) Tryz.func65 E E E λ w=>?_;refine A9 (D2 0 1) (A1 (as_ (A0 (D2 0 1) (A1 (mv_ (mv_ ?_))))));refine A3 E (C5 (e:=28) (sz:=1) (z:=[vS]) kR (eS E e0) (bdS 0 1 E qR bd0) E λ b7=>?_);refine A3 E (D0 (Mc:=[]) (R:=[_]) (aS E (aS E a0)) kR (.refl _) (A8x _ _ key [p] _ (hkey.mono λ _ h=>mA h) hk256 hk31 (B0N.of (Co (n:=1) m0 qR) E (.cons hp256 (hp.mono λ _ h=>mA h) .nil)) (by simpa using htot) qM (mA h0) (mA h1)) E ?_);rintro r M1 J1 ⟨rfl,hr⟩;refine as_ (A0 (D5 4) (C0 ?_));refine ⟨_,_,[],I0 E E,Ay _ _,by simp,E,W6 hr E ?_⟩;simp
theorem C3j{M0 M1 B1 D:Mem}(x:Nat×Obj):(M1++(B1++(x::(M0++D)))).Perm (M0++(M1++(B1++(x::D)))):=by
  have h:(M1++(B1++(x::(M0++D))))=(M1++B1++[x])++(M0++D):=by simp
  have h2:(M0++(M1++(B1++(x::D))))=M0++((M1++B1++[x])++D):=by simp
  rw [h,h2,<- Ap,<- Ap M0];exact List.Perm.append_right _ List.perm_append_comm
def B0p(p:LN):LN:=X8 (0::p)++X8 (1::p)
theorem A3P(pv:Value)(ps:List (LN))(A:Mem)(hp:B0N A pv ps)(htot:ps.flatten.length<=1073741824)(hcnt:ps.length<=1073741824)(h0:(0,Obj.cells (nums .u32 A27.list).toArray ef ff)∈A)(h1:(1,Obj.cells (nums .u32 A2c).toArray ek fk)∈A) :
  FnX Tryz.prog 134 [pv] [] A λ r M J=>J=[]∧Sl 1 r 64 (nums .u8 (B0p ps.flatten)) M:=by
 obtain ⟨vs,hvs,hpv⟩:=hp.pv;refine Ck (N:=16) Tryz.func134 E E E λ w=>?_;refine A9 (D5 0) (A1 (as_ (A0 (D5 0) (A1 ?_))));refine A3 E (C5 (e:=5) (sz:=1) (z:=[.int .u8 0]) kR (eS E e0) (bdS 0 1 E qR bd0) E λ b4=>?_);refine A3 E (C5 (e:=28) (sz:=1) (z:=[vS]) kR (eS E e0) (bdS 0 1 E qR bd0) E λ b5=>?_);refine mv_ ?_;refine A3 E (V7 (e:=28) (sz:=1) (by_:=24) (n:=1) (m:=ps.length) (B:=[(b5,_)]) (M0:=_::[]) E E kR E (Sl.fresh E qD) (hvs.mono λ _ h=>mA h) hpv.one (.refl _) (by unfold maxLen; omega) qO E λ v0 B0 hsl0=>?_);refine A3 E (D0 (Mc:=[]) (R:=B0++(_::[])) (aS E a0) kR (.refl _) (A1w v0 ([0]::ps) _ (B0N.of (hsl0.rd λ _ h=>by simp [h]) (by rw [List.length_cons]; omega) (.cons qM (Co (n:=1) (b:=b4) (cs:=nums .u8 [0]) Cc qR) (hpv.mono λ _ h=>mA h))) (by rw [List.flatten_cons,An,List.length_singleton]; omega) (by rw [List.length_cons]; omega) (mA h0) (mA h1)) E ?_);rintro r0 M0 J0 ⟨rfl,hr0⟩;refine as_ (A0 (D2 0 3) (A1 (mv_ ?_)));refine A3 E (C5 (e:=5) (sz:=1) (z:=[.int .u8 0]) kR (eS E e0) (bdS 0 1 E qR bd0) E λ b10=>?_);refine A3 E (C5 (e:=28) (sz:=1) (z:=[vS]) kR (eS E e0) (bdS 0 1 E qR bd0) E λ b11=>?_);refine mv_ ?_;refine A3 E (V7 (e:=28) (sz:=1) (by_:=24) (n:=1) (m:=ps.length) (B:=[(b11,_)]) (M0:=_::(M0++(B0++[_]))) E E kR E (Sl.fresh E qD) (hvs.mono λ _ h=>mA h) hpv.one (.refl _) (by unfold maxLen; omega) qO E λ v1 B1 hsl1=>?_);refine A3 E (D0 (Mc:=[]) (R:=B1++(_::(M0++(B0++[_])))) (aS E a0) kR (.refl _) (A1w v1 ([1]::ps) _ (B0N.of (hsl1.rd λ _ h=>by simp [h]) (by rw [List.length_cons]; omega) (.cons qM (Co (n:=1) (b:=b10) (cs:=nums .u8 [1]) Cc qR) (hpv.mono λ _ h=>mA h))) (by rw [List.flatten_cons,An,List.length_singleton]; omega) (by rw [List.length_cons]; omega) (mA h0) (mA h1)) E ?_);rintro r1 M1 J1 ⟨rfl,hr1⟩;refine A3 E (V7 (e:=5) (sz:=1) (by_:=1) (n:=32) (m:=32) (B:=M0) (M0:=M1++(B1++(_::(B0++[_])))) E E kR E hr0 (hr1.rd λ _ h=>by simp [h]) E9 (C3j _) (by unfold maxLen; omega) qO E λ v9 B9 hsl9=>?_);refine as_ (A0 (D5 2) (C0 ?_));refine ⟨_,_,[],I0 E E,Ay _ _,by simp,E,W6 hsl9 E ?_⟩;rw [<- H8]; rfl

end Go.Proofs.YtjkpfgjfpbihaaaGreatDoor
namespace Go.Px
def nv:List Nat->Nat
  | []=>0
  | w::r=>w+4294967296 * nv r
def w32(ws:List Nat):Prop:=∀ x∈ws,x < 4294967296
def xp(n:Nat):Nat:=4294967296 ^ n
theorem xp0:xp 0=1:=rfl
theorem xpS(n:Nat):xp (n+1)=xp n * 4294967296:=Nat.pow_succ _ _
theorem A2n(a b:List Nat):nv (a++b)=nv a+xp a.length * nv b:=by
  induction a with
  | nil=>simp [nv,xp0]
  | cons x a ih=>simp only [List.cons_append,nv,ih,List.length_cons,xpS]; grind
theorem A3p(ws:List Nat)(j:Nat)(h:j<=ws.length):nv ws=nv (ws.take j)+xp j * nv (ws.drop j):=by
  conv=>lhs; rw [<- List.take_append_drop j ws,A2n,Bj,Nat.min_eq_left h]
variable{ws:List Nat}
theorem A1c{j:Nat}(h:j < ws.length):nv (ws.take (j+1))=nv (ws.take j)+xp j * ws.getD j 0:=by rw [Bh,Ab h,A2n,Bj,Nat.min_eq_left (by omega),List.getD,Ab h];simp [nv]
theorem B4H(h:w32 ws):nv ws < xp ws.length:=by
  induction ws with
  | nil=>simp [nv,xp0]
  | cons x ws ih =>
    have h1:=h x (by simp);have h2:=ih (λ y hy=>h y (by simp [hy]));simp only [nv,List.length_cons,xpS];omega
theorem w32.take{ws:List Nat}(h:w32 ws)(n:Nat):w32 (ws.take n):=λ x hx=>h x (Bw hx)
theorem w32.get(h:w32 ws)(n:Nat):ws.getD n 0 < 4294967296:=getD_lt h (by decide)
variable{a b:List Nat}
theorem w32.app(ha:w32 a)(hb:w32 b):w32 (a++b):=λ x hx=>(List.mem_append.1 hx).elim (ha x) (hb x)
def tl(ws:List Nat):Nat->Nat
  | 0=>0
  | n+1=>if ws.getD n 0=0 then tl ws n else n+1
theorem A8y(ha:w32 a){j:Nat}(hj:j < a.length)(hl:a.length=b.length)(hlt:a.getD j 0 < b.getD j 0)(he:a.drop (j+1)=b.drop (j+1)):nv a < nv b:=by have h1:=A3p a (j+1) (by omega);have h2:=A3p b (j+1) (by omega);rw [A1c hj,he] at h1;rw [A1c (by omega)] at h2;have h3:=B4H (ha.take j);rw [Bj,Nat.min_eq_left (by omega)] at h3;have h4:xp j * (a.getD j 0+1)<=xp j * b.getD j 0:=Nat.mul_le_mul_left _ hlt;rw [Nat.mul_add,Nat.mul_one] at h4;omega
end Go.Px

namespace Go.Px
def B4I(k p lo b:Nat):Nat:=if (lo+2 ^ b) ^ k<=p * xp k then lo+2 ^ b else lo
def C0R(k p:Nat):Nat->Nat->Nat
  | 0,lo=>lo
  | j+1,lo=>C0R k p j (B4I k p lo j)
def root(k p:Nat):Nat:=C0R k p 40 0 % 4294967296
end Go.Px

namespace Go.Px
def exp(key info:List Nat):Nat->List Nat×List Nat
  | 0=>([],[])
  | i+1=>((exp key info i).1++A7y key ((exp key info i).2++(info++[(i+1) % 256])),A7y key ((exp key info i).2++(info++[(i+1) % 256])))
theorem A0e(p:List Nat):(X8 p).length=32:=by simp [X8,S8.bytes,S8.list,B8e]
theorem A5q(key info:List Nat):∀ i,(exp key info i).1.length=32 * i
  | 0=>rfl
  | i+1=>by rw [exp,An,A5q key info i,A7y,A0e]; omega
def rds(n:Int):Nat:=min 255 ((n.toNat+31) / 32)
def Z5(key info:List Nat)(n:Int):List Nat:=(exp key info (rds n)).1.take n.toNat
theorem A0f(key info:List Nat)(n:Int):(Z5 key info n).length=min n.toNat 8160:=by unfold Z5; rw [Bj,A5q]; unfold rds; omega
end Go.Px

namespace Go.Proofs.YtjkpfgjfpbihaaaGreatDoor
open Go.Px
theorem C3k{M B D:Mem}(x y:Nat×Obj):(M++(x::y::(B++D))).Perm (B++((M++[x,y])++D)):=by
  have h:M++(x::y::(B++D))=(M++[x,y])++(B++D):=by simp
  rw [h];exact List.perm_append_comm_assoc _ _ _
theorem A5r(key p:LN):∀ x∈A7y key p,x < 256:=A6C _
theorem A1x(key p:LN):(A7y key p).length=32:=A3O _
theorem B8m(key info:LN):∀ i,∀ x∈(exp key info i).2,x < 256
  | 0=>by simp [exp]
  | i+1=>A5r _ _
theorem B4J(key info:LN)(i:Nat):(exp key info i).2.length<=32:=by
  cases i with
  | zero=>simp [exp]
  | succ i=>rw [exp,A1x]; decide
theorem B0V(key info:LN):∀ i,∀ x∈(exp key info i).1,x < 256
  | 0=>by simp [exp]
  | i+1=>λ x hx=>(List.mem_append.1 hx).elim (B0V key info i x) (A5r _ _ x)
theorem A3Q(kv iv:Value)(key info:LN)(n:Int)(A:Mem)(hkey:Rd A 1 kv key.length (nums .u8 key))(hk256:∀ x∈key,x < 256)(hk31:key.length<=1073741824)(hinfo:Rd A 1 iv info.length (nums .u8 info))(hi256:∀ x∈info,x < 256)(hi31:info.length<=536870912)(hn:n < 1000000)(hn0:-1000000 < n){ef ek:TypeId}{ff fk:Nat×Nat}(h0:(0,Obj.cells (nums .u32 A27.list).toArray ef ff)∈A)(h1:(1,Obj.cells (nums .u32 A2c).toArray ek fk)∈A) :
  FnX Tryz.prog 64 [kv,iv,.int .i64 n] [] A λ r M J=>J=[]∧Rd M 1 r (Z5 key info n).length (nums .u8 (Z5 key info n)):=by
 haveI:=hinfo.cel;refine Ck (N:=40) Tryz.func64 E E E λ w=>?_;refine A9 (D6 0 1 2) (A1 (as_ (A0 (D6 0 1 2) (A1 (as_ (as_ (A0 (E8 0 1 2 7 8) (A4 ?_))))))));refine A1 (as_ (A0 (H1 0 1 2 7 8 9) (A8 ?_)));refine E5 (α:=Nat×Value×Value×Mem×Mem) (λ x=>[(0,kv),(1,iv),(2,.int .i64 n),(7,x.2.1),(8,x.2.2.1),(9,.int .i64 ((x.1+1:Nat):Int))]) (λ x=>x.2.2.2.1++x.2.2.2.2) (λ _=>[]) (λ x=>x.1<=rds n∧Sl 1 x.2.1 (32 * x.1) (nums .u8 (exp key info x.1).1) x.2.2.2.1∧Sl 1 x.2.2.1 (exp key info x.1).2.length (nums .u8 (exp key info x.1).2) x.2.2.2.2) (λ x=>rds n - x.1) (0,vS,vS,[],[]) ⟨Am _,Sl.nil,Sl.nil⟩ (H1 0 1 2 7 8 9) .rfl qI ?_;rintro ⟨i,ov,lv,Bo,Bl⟩ ⟨hi,ho,hl⟩;dsimp only at hi ho hl ⊢;have hrd:rds n=min 255 ((n.toNat+31) / 32):=rfl;have hl32:=B4J key info i;haveI:=hl.cel;refine A4 ?_;by_cases h32:(n:Int)<=((32 * i:Nat):Int)
 .
  refine A1 (mv_ ?_);refine A2 (A02 (ho.rd λ _ h=>h) E kR) E ?_;refine mv_ ?_;refine A2 (F5 false E E (ltF qO)) E ?_;refine mv_ ?_;refine K3 E E E E ?_;refine K3 E E E E ?_;refine A2 (F2 E E) E ?_;refine A0 (N9 0 1 2 7 8 9 17) ?_;refine C9 E ?_;refine D9 (te (re (be E (nx (D2 2 7) (A1 (mv_ (mv_ ?_)))))));refine A2 (A02 (ho.rd λ _ h=>h) E kR) E ?_;refine A2 (A4M (if ((32 * i:Nat):Int) < n then ((32 * i:Nat):Int) else n) E E E) E ?_;have hend:i=rds n:=by omega
  subst hend;refine A2 (B0D ((min n.toNat (32 * rds n):Nat):Int) E E (by split <;> split <;> omega)) E ?_;have hkl:min n.toNat (32 * rds n)=(Z5 key info n).length:=by rw [A0f]; omega
  obtain ⟨pp,cc,rfl,hpc⟩:=ho.val;refine as_ (A0 (D2 2 7) (A1 (mv_ (mv_ (mv_ ?_)))));refine A2 (A2S (e:=5) (sz:=1) E kR kR o0 (o1 (min n.toNat (32 * rds n)) E E) (o1 (min n.toNat (32 * rds n)) E E) qM (by simp; omega) qM qM) E ?_;refine as_ (A0 (D5 6) (C0 ?_));refine ⟨_,Bo,[],I0 E E,Ay _ _,by simp,E,?_⟩;have:=Rd.part (ho.rd λ _ h=>h) 0 (min n.toNat (32 * rds n)) (min n.toNat (32 * rds n)) (Am _) (Nat.min_le_right _ _) (Av _);refine A0x this (by simpa using hkl) ?_;rw [Nat.zero_mul,List.drop_zero,Nat.sub_zero,Nat.mul_one,<- A1a]
  have e:((exp key info (rds n)).1).take (min n.toNat (32 * rds n))=Z5 key info n:=by unfold Z5;rw [List.take_eq_take_iff,A5q]; omega
  rw [e]
 .
  refine A1 (mv_ ?_);refine A2 (A02 (ho.rd λ _ h=>h) E kR) E ?_;refine mv_ ?_;refine A2 (F5 true E E (ltT qO)) E ?_;refine mv_ ?_;refine F3 E E (Cn qm_ E ?_);refine F3 E E (Cn (F0 E E E) E ?_);refine A2 (G8 E E) E ?_;refine A0 (N9 0 1 2 7 8 9 17) ?_;refine C4 E ?_ ?_ <;> intro hc
  .
   have hlt:i < 255:=by simp at hc; omega
   refine A6 (nx (H1 0 1 2 7 8 9) (A4 (A8 (A1 (mv_ (mv_ (mv_ (mv_ ?_))))))));refine A2 (A04 E kR) E ?_;refine A3 E (C5 (e:=5) (sz:=1) (z:=[.int .u8 0]) kR (eS E e0) (bdS 0 1 E qR bd0) E λ b25=>?_);refine A3 E (C5 (e:=28) (sz:=1) (z:=[vS,vS,vS]) kR (eS E (eS E (eS E e0))) (bdS 0 1 E qR (bdS 1 1 E qR (bdS 2 1 E qR bd0))) E λ b26=>?_);refine A3 E (D0 (Mc:=[]) (R:=_::_::(Bo++Bl)) (aS E (aS E a0)) kR (.refl _) (A8x _ _ key [(exp key info i).2,info,[(i+1) % 256]] _ (hkey.mono λ _ h=>mA h) hk256 hk31 (B0N.of (Co (n:=3) m0 qR) E (.cons (B8m _ _ _) (hl.rd λ _ h=>by simp [h]) (.cons hi256 (hinfo.mono λ _ h=>mA h) (.cons (by intro x hx; simp at hx; subst hx; exact Ad _ qD) (Co (n:=1) (cs:=nums .u8 [(i+1) % 256]) Cc qR) .nil)))) (by simp; omega) qM (mA h0) (mA h1)) E ?_);rintro r27 M27 J1 ⟨rfl,h27⟩;rw [show [(exp key info i).2,info,[(i+1) % 256]].flatten=(exp key info i).2++(info++[(i+1) % 256]) from by simp] at h27;refine as_ (A0 (H1 0 1 2 7 8 9) (C2 (mv_ (mv_ ?_))));refine A3 E (V7 (e:=5) (sz:=1) (by_:=1) (m:=32) (B:=Bo) (M0:=(M27++[_,_])++Bl) E E kR E ho (h27.rd λ _ h=>by simp [h]) E9 (C3k _ _) (by unfold maxLen; omega) qO E λ ov1 Bo1 ho1=>?_);refine as_ (C6 (nb (nx (H1 0 1 2 7 8 9) (C2 (mv_ ?_)))));refine A2 (D7 ((i+1+1:Nat):Int) E E (F7 qO qO qO)) E ?_;refine as_ (C6 ?_);refine rn (i+1,ov1,r27,Bo1,M27) ⟨by dsimp only; omega,W6 ho1 (by dsimp only; omega) (by rw [<- H8]; rfl),W6 h27 (by dsimp only; rw [exp,A1x]) E⟩ (by dsimp only; omega) (H1 0 1 2 7 8 9) (Ci (List.Sublist.append (Ao _) ((Ay _ _).trans (Ay _ _)))) qI
  .
   have hend:i=rds n:=by simp at hc; omega
   refine D9 (te (re (be E (nx (D2 2 7) (A1 (mv_ (mv_ ?_)))))));refine A2 (A02 (ho.rd λ _ h=>h) E kR) E ?_;refine A2 (A4M (if ((32 * i:Nat):Int) < n then ((32 * i:Nat):Int) else n) E E E) E ?_;subst hend;refine A2 (B0D ((min n.toNat (32 * rds n):Nat):Int) E E (by split <;> split <;> omega)) E ?_;have hkl:min n.toNat (32 * rds n)=(Z5 key info n).length:=by rw [A0f]; omega
   obtain ⟨pp,cc,rfl,hpc⟩:=ho.val;refine as_ (A0 (D2 2 7) (A1 (mv_ (mv_ (mv_ ?_)))));refine A2 (A2S (e:=5) (sz:=1) E kR kR o0 (o1 (min n.toNat (32 * rds n)) E E) (o1 (min n.toNat (32 * rds n)) E E) qM (by simp; omega) qM qM) E ?_;refine as_ (A0 (D5 6) (C0 ?_));refine ⟨_,Bo,[],I0 E E,Ay _ _,by simp,E,?_⟩;have:=Rd.part (ho.rd λ _ h=>h) 0 (min n.toNat (32 * rds n)) (min n.toNat (32 * rds n)) (Am _) (Nat.min_le_right _ _) (Av _);refine A0x this (by simpa using hkl) ?_;rw [Nat.zero_mul,List.drop_zero,Nat.sub_zero,Nat.mul_one,<- A1a]
   have e:((exp key info (rds n)).1).take (min n.toNat (32 * rds n))=Z5 key info n:=by unfold Z5;rw [List.take_eq_take_iff,A5q]; omega
   rw [e]

end Go.Proofs.YtjkpfgjfpbihaaaGreatDoor
namespace Go.Px
def Sk(K:Nat->Prop)(w w':World):Prop:=∀ b,b < w.heap.size->¬ K b->w'.heap[b]? = w.heap[b]?
variable{R:Mem}
theorem Sk.fx{K:Nat->Prop}{w w':World}(h:Sk K w w')(hR:∀ x∈R,¬ K x.1)(hw:Fx R w):Fx R w':=λ b o hb=>by have h1:=hw b o hb;rw [h b (T0 h1) (hR _ hb)]; exact h1
def XK(C:Cx)(os:List Oper)(Q:XQ)(K:Nat->Prop)(n0:Nat)(nd:List Nat)(plan:List (Nat×Nat))(l:Env)(M J:Mem):Prop :=
  ∀ listed,R6 os.toArray listed->L1 os.toArray nd plan listed=true->∀ a w,Ag C.N l a->St C M J w->n0<=w.heap.size ->
    A0z C.P os.toArray (T3 (A7x C Q)) (Sk K) nd.contains plan.length listed a w
variable{ops:Array Oper}{i id d j t:Nat}{c2 c:Code}{l':Env}{op:Op}{ty:TypeId}{pos:String}{af:Array Edge}{g:Option (Nat×Bool)}{v:Value}{o oj:Oper}{b:Bool}
section plan
variable{C:Cx}{Q:XQ}{l:Env}{M J:Mem}{os:List Oper}{K:Nat->Prop}{n0:Nat}{nd:List Nat}{plan:List (Nat×Nat)}
theorem A9H{T:World->Prop}{S:World->World->Prop}{nd:List Nat}{listed:Array Bool}(h:B0w ops nd listed i=true)(hT:∀ w w',T w->S w w'->T w')(j:Nat)(hlt:j < ops.size)(hji:j≠i)(hun:listed.getD j true=false):anc ops ops.size j i=true∨∀ w w',T w->(nd.contains j=true->S w w')->T w':=by
  have h1:=List.all_eq_true.1 h j (List.mem_range.2 hlt);simp only [Bool.or_eq_true,beq_iff_eq,hji,hun,false_or,Bool.false_eq_true] at h1;rcases h1 with h1 | h1
  . exact .inr λ w w' hS hw=>hT w w' hS (hw h1)
  . exact .inl h1
theorem X9(Mv Ms:Mem)(nv:Bool)(nd:List Nat)(plan:List (Nat×Nat))(hm:C.P.follows .mixedOrders=true)(hp:Z7 os nd plan=true)(hM:M.Perm (Mv++Ms))
    (h:Region.noSelect os.toArray=true->∀ (K:Nat->Prop) n0,(∀ x∈Mv,K x.1)->(∀ x∈Ms++(J++C.A),¬ K x.1)->(nv=true->∀ b,n0<=b->K b)->XK C os Q K n0 nd plan l (Mv++Ms) J):XC C (.region id os.toArray true) Q l M J:=by
  intro a w ha hw0;have hw:=hw0.perm hM;simp only [Z7,Bool.and_eq_true,beq_iff_eq] at hp;obtain ⟨⟨h1,h3⟩,h4⟩:=hp;refine Code.wp_mono (Q:=T3 (A7x C Q)) (λ e a w h=>by cases e <;> first | exact h | exact h.elim) ?_
  let K:Nat->Prop:=λ b=>b∈Mv.map Prod.fst∨(nv=true∧w.heap.size<=b)
  refine wp_region_any hm (A1t (S:=Sk K) (need:=nd.contains) _ _ _ _ ?_);have hK1:∀ x∈Mv,K x.1:=λ x hx=>.inl (Al (f:=Prod.fst) hx);have hcal:=hw.callee (.refl _)
  have hK2:∀ x∈Ms++(J++C.A),¬ K x.1:=by
    rintro ⟨b,o⟩ hx hk;have h5:=hcal.sepA b o hx;rcases hk with hk | ⟨_,hk⟩
    . exact h5.1 hk
    . exact absurd h5.2 (Nat.not_lt.2 hk)
  have:=h h1 K w.heap.size hK1 hK2 (λ hn b hb=>.inr ⟨hn,hb⟩) (Array.replicate os.length false) (λ j oj _ hl=>by simp [Array.getElem?_replicate] at hl; split at hl <;> simp at hl) h4 a _ ha hw.drew (Av _);rw [h3] at this;simpa using this
theorem F8(Mv Ms:Mem)(nv:Bool)(nd:List Nat)(plan:List (Nat×Nat))(hm:C.P.follows .mixedOrders=true)(hp:Z7 os nd plan=true)(hM:M.Perm (Mv++Ms))
    (h:Region.noSelect os.toArray=true->∀ (K:Nat->Prop) n0,(∀ x∈Mv,K x.1)->(∀ x∈Ms++(J++C.A),¬ K x.1)->(nv=true->∀ b,n0<=b->K b)->XK C os (A3h C c2 Q) K n0 nd plan l (Mv++Ms) J):XC C (.seq (.region id os.toArray true) c2) Q l M J :=
  A4 (X9 Mv Ms nv nd plan hm hp hM h)
theorem A3a(h:Q .normal l M J):XK C os Q K n0 nd [] l M J:=by intro listed hcl hp a w ha hw hf;simp only [L1,List.isEmpty_iff] at hp;exact ⟨hp,l,M,J,ha,hw,h⟩
theorem I3(hk:Keep l l')(h:XC C c Q l' M J):XK C os (A3h C c Q) K n0 nd [] l M J:=A3a (A9 hk h)
theorem A1Z{M':Mem}(hM:M.Perm M')(h:XK C os Q K n0 nd plan l M' J):XK C os Q K n0 nd plan l M J:=λ listed hcl hp a w ha hw hn=>h listed hcl hp a w ha (hw.perm hM) hn
theorem A5s(hs:Region.noSelect os.toArray=true)
    (hget:nth os i=some ⟨some d,op,ty,pos,af,g⟩) (hR:∀ x∈R,x∈M++(J++C.A)) (hn:∀ x∈R,¬ K x.1)
    (hy:∀ a,Ag C.N l a->YieldsIf C.P os.toArray (Fx R) ⟨some d,op,ty,pos,af,g⟩ v a) (hd:Nat.blt d C.N=true)
    (h:XK C os Q K n0 nd plan ((d,v)::l) M J):XK C os Q K n0 nd ((i,1)::plan) l M J:=by
  intro listed hcl hp a w ha hw hf;simp only [L1,Bool.and_eq_true] at hp;obtain ⟨⟨⟨h1,h2⟩,h5⟩,h4⟩:=hp;have hi:os.toArray[i]? = some ⟨some d,op,ty,pos,af,g⟩:=by rw [W7] at hget; simpa using hget
  have hr:i∈Region.ready .any os.toArray listed:=by simpa using h1
  exact X7 (S:=Sk K) (T:=Fx R) (N:=os.toArray.size) hi (Region.noSelect_spec hs) (λ _ _ _ h=>h) (λ _ _ _ _=>rfl) _ listed a w hcl (Region.free_spec hi h2) (A9H h5 λ w w' hT hS=>hS.fx hn hT) hr (hy a ha) (λ b o hb=>hw.fx b o (hR _ hb))
    (h _ (K1 hcl hr) h4 _ w (ha.put (P2 hd) v) hw hf)
theorem A5t(hs:Region.noSelect os.toArray=true)
    (hget:nth os i=some ⟨some d,op,ty,pos,af,g⟩)
    (hy:∀ a,Ag C.N l a->YieldsIf C.P os.toArray (λ _=>True) ⟨some d,op,ty,pos,af,g⟩ v a) (hd:Nat.blt d C.N=true)
    (h:XK C os Q K n0 nd plan ((d,v)::l) M J):XK C os Q K n0 nd ((i,0)::plan) l M J:=by
  intro listed hcl hp a w ha hw hf;simp only [L1,Bool.and_eq_true] at hp;obtain ⟨⟨h1,h2⟩,h4⟩:=hp;have hi:os.toArray[i]? = some ⟨some d,op,ty,pos,af,g⟩:=by rw [W7] at hget; simpa using hget
  have hr:i∈Region.ready .any os.toArray listed:=by simpa using h1
  exact X7 (S:=Sk K) (T:=λ _=>True) (N:=0) hi (Region.noSelect_spec hs) (λ _ _ _ h=>h) (λ _ _ _ _=>rfl) _ listed a w hcl (Region.free_spec hi h2) (λ _ _ _ _=>.inr λ _ _ _ _=>trivial) hr (hy a ha) trivial
    (h _ (K1 hcl hr) h4 _ w (ha.put (P2 hd) v) hw hf)
section ops
variable{i d j t:Nat}{op:Op}{ty:TypeId}{pos:String}{af:Array Edge}{b b':Bool}{v:Value}{oj:Oper}{R:Mem}
theorem G7(hs:Region.noSelect os.toArray=true)(hget:nth os i=some ⟨some d,op,ty,pos,af,none⟩)(hq:OpQ C.P [] ⟨some d,op,ty,pos,af,none⟩ l v)(hd:Nat.blt d C.N=true)
    (h:XK C os Q K n0 nd plan ((d,v)::l) M J):XK C os Q K n0 nd ((i,0)::plan) l M J :=
  A5t hs hget (λ a ha=>.inl ⟨rfl,λ w hw=>hq C.N a w ha (λ _ _ hb=>by cases hb)⟩) hd h
theorem XK.r(hs:Region.noSelect os.toArray=true)(hget:nth os i=some ⟨some d,op,ty,pos,af,none⟩)(hR:∀ x∈R,x∈M++(J++C.A))(hn:∀ x∈R,¬ K x.1)(hq:OpQ C.P R ⟨some d,op,ty,pos,af,none⟩ l v)(hd:Nat.blt d C.N=true)
    (h:XK C os Q K n0 nd plan ((d,v)::l) M J):XK C os Q K n0 nd ((i,1)::plan) l M J :=
  A5s hs hget hR hn (λ a ha=>.inl ⟨E,λ w hw=>hq C.N a w ha hw⟩) hd h
theorem A3R(hs:Region.noSelect os.toArray=true)(hget:nth os i=some ⟨some d,op,ty,pos,af,some (j,b)⟩)(hj:nth os j=some oj)(ht:oj.dst=some t)(hl:lk l t=some (.bool b))(hq:OpQ C.P [] ⟨some d,op,ty,pos,af,some (j,b)⟩ l v)(hd:Nat.blt d C.N=true)
    (h:XK C os Q K n0 nd plan ((d,v)::l) M J):XK C os Q K n0 nd ((i,0)::plan) l M J :=
  A5t hs hget (λ a ha=>.inl ⟨B0C (i:=i) ha hj ht hl,λ w hw=>hq C.N a w ha (λ _ _ hb=>by cases hb)⟩) hd h
theorem B4K(hs:Region.noSelect os.toArray=true)(hget:nth os i=some ⟨some d,op,ty,pos,af,some (j,b)⟩)(hj:nth os j=some oj)(ht:oj.dst=some t)(hl:lk l t=some (.bool b))(hR:∀ x∈R,x∈M++(J++C.A))(hn:∀ x∈R,¬ K x.1)(hq:OpQ C.P R ⟨some d,op,ty,pos,af,some (j,b)⟩ l v)(hd:Nat.blt d C.N=true)
    (h:XK C os Q K n0 nd plan ((d,v)::l) M J):XK C os Q K n0 nd ((i,1)::plan) l M J :=
  A5s hs hget hR hn (λ a ha=>.inl ⟨B0C (i:=i) ha hj ht hl,λ w hw=>hq C.N a w ha hw⟩) hd h
theorem A0o(hs:Region.noSelect os.toArray=true)(hget:nth os i=some ⟨some d,op,ty,pos,af,some (j,b)⟩)(hj:nth os j=some oj)(ht:oj.dst=some t)(hl:lk l t=some (.bool b'))(hb:(b' == b)=false)(hd:Nat.blt d C.N=true)
    (h:XK C os Q K n0 nd plan ((d,undef)::l) M J):XK C os Q K n0 nd ((i,0)::plan) l M J :=
  A5t hs hget (λ a ha=>.inr ⟨A7E (i:=i) ha hj ht hl hb,E⟩) hd h
theorem A5u(hs:Region.noSelect os.toArray=true)(hget:nth os i=some ⟨some d,op,ty,pos,af,some (j,b)⟩)(hj:nth os j=some oj)(ht:oj.dst=some t)(hl:lk l t=some (.bool b'))(hb:(b' == b)=false)(hd:Nat.blt d C.N=true)
    (h:XK C os Q K n0 nd plan ((d,undef)::l) M J):XK C os Q K n0 nd ((i,1)::plan) l M J :=
  A5s (R:=[]) hs hget (λ _ h=>by cases h) (λ _ h=>by cases h) (λ a ha=>.inr ⟨A7E (i:=i) ha hj ht hl hb,rfl⟩) hd h
end ops
theorem B0W{Mc:Mem}(hget:nth os i=some o)(hw':∀ a,Ag C.N l a->Region.wanted o (yielded os.toArray a.tmps)=true)(hM:M.Perm (Mc++R))(hK:∀ x∈Mc,K x.1)
    (h:∀ w,OpL ⟨C.P,w,Mc.map Prod.fst,R++(J++C.A),C.N⟩ o l Mc [] (λ l' M' J'=>((∀ b,n0<=b->K b)->∀ x∈M',K x.1)->XK C os Q K n0 nd plan l' (M'++R) (J'++J))) :
    XK C os Q K n0 nd ((i,2)::plan) l M J:=by
  intro listed hcl hp a w ha hw hf;simp only [L1,Bool.and_eq_true,beq_iff_eq] at hp;obtain ⟨h1,h2⟩:=hp;have hi:os.toArray[i]? = some o:=by rw [W7] at hget; simpa using hget
  refine ⟨λ h0=>(by rw [h1] at h0; cases h0),λ j hj=>?_⟩;have hr:=hj;rw [h1] at hj;simp only [List.mem_singleton] at hj;subst hj;unfold wpOp;simp only [hi];rw [if_pos (hw' a ha)];refine .inl (Oper.wp_mono ?_ (h w _ a w ha (hw.callee hM).cx));rintro a' w' ⟨l',M',J',ha',hs',hk⟩;have hsz:w.heap.size<=w'.heap.size:=hs'.size;refine ⟨λ _ b hb hnk=>hs'.frame b hb λ hm=>?_,hk ?_ _ (K1 hcl hr) h2 a' w' ha' (hw.back hM hs'.cx) (Az hf hsz)⟩
  . obtain ⟨x,hx,e⟩:=List.mem_map.1 hm;exact hnk (e▸hK x hx)
  . rintro hup ⟨b,o'⟩ hx;rcases hs'.own b o' (by simp [hx]) with h6 | h6
    . obtain ⟨x,hx,e⟩:=List.mem_map.1 h6;exact e▸hK x hx
    . exact hup b (Az hf h6)
theorem H3(Mc R:Mem)(hget:nth os i=some o)(hg:o.guard=none)(hM:M.Perm (Mc++R))(hK:∀ x∈Mc,K x.1)
    (h:∀ w,OpL ⟨C.P,w,Mc.map Prod.fst,R++(J++C.A),C.N⟩ o l Mc [] (λ l' M' J'=>((∀ b,n0<=b->K b)->∀ x∈M',K x.1)->XK C os Q K n0 nd plan l' (M'++R) (J'++J))) :
    XK C os Q K n0 nd ((i,2)::plan) l M J:=B0W hget (λ a ha=>by simp [Region.wanted,hg]) hM hK h
theorem C0S{d:Option Nat}(Mc R:Mem)(hget:nth os i=some ⟨d,op,ty,pos,af,some (j,b)⟩)(hj:nth os j=some oj)(ht:oj.dst=some t)(hl:lk l t=some (.bool b))(hM:M.Perm (Mc++R))(hK:∀ x∈Mc,K x.1)
    (h:∀ w,OpL ⟨C.P,w,Mc.map Prod.fst,R++(J++C.A),C.N⟩ ⟨d,op,ty,pos,af,some (j,b)⟩ l Mc [] (λ l' M' J'=>((∀ b,n0<=b->K b)->∀ x∈M',K x.1)->XK C os Q K n0 nd plan l' (M'++R) (J'++J))) :
    XK C os Q K n0 nd ((i,2)::plan) l M J:=B0W hget (λ a ha=>by
      have hj':os.toArray[j]? = some oj:=by rw [W7] at hj; simpa using hj
      simp only [Region.wanted,yielded,hj',Option.bind_some,ht,ha.slot _ _ hl]; simp) hM hK h
theorem B8n(hget:nth os i=some ⟨some d,op,ty,pos,af,g⟩)(hw':∀ a,Ag C.N l a->Region.wanted ⟨some d,op,ty,pos,af,g⟩ (yielded os.toArray a.tmps)=false)(hd:Nat.blt d C.N=true)
    (h:XK C os Q K n0 nd plan ((d,undef)::l) M J):XK C os Q K n0 nd ((i,2)::plan) l M J:=by
  intro listed hcl hp a w ha hw hf;simp only [L1,Bool.and_eq_true,beq_iff_eq] at hp;obtain ⟨h1,h2⟩:=hp;have hi:os.toArray[i]? = some ⟨some d,op,ty,pos,af,g⟩:=by rw [W7] at hget; simpa using hget
  refine ⟨λ h0=>(by rw [h1] at h0; cases h0),λ j hj=>?_⟩;have hr:=hj;rw [h1] at hj;simp only [List.mem_singleton] at hj;subst hj;unfold wpOp;simp only [hi];rw [if_neg (by rw [hw' a ha]; simp)];exact ⟨λ _ _ _ _=>rfl,h _ (K1 hcl hr) h2 _ w (ha.put (P2 hd) undef) hw hf⟩
theorem B4L{b':Bool}(hget:nth os i=some ⟨some d,op,ty,pos,af,some (j,b)⟩)(hj:nth os j=some oj)(ht:oj.dst=some t)(hl:lk l t=some (.bool b'))(hb:(b' == b)=false)(hd:Nat.blt d C.N=true)
    (h:XK C os Q K n0 nd plan ((d,undef)::l) M J):XK C os Q K n0 nd ((i,2)::plan) l M J :=
  B8n hget (λ a ha=>A7E (i:=i) ha hj ht hl hb) hd h
theorem A3q(hl:lk l t=some (.bool b))(h1:b=true->XK C os Q K n0 nd plan ((t,.bool true)::l) M J)(h2:b=false->XK C os Q K n0 nd plan ((t,.bool false)::l) M J) :
    XK C os Q K n0 nd plan l M J:=by
  intro listed hcl hp a w ha hw hf
  have key:∀ b',b=b'->Ag C.N ((t,.bool b')::l) a:=by
    rintro b' rfl;refine ha.sub ?_;intro i v hi;simp only [lk] at hi;by_cases e:t=i
    . subst e; simp at hi; subst hi; exact hl
    . simpa only [A0h e,cond_false] using hi
  cases b
  . exact h2 E listed hcl hp a w (key _ E) hw hf
  . exact h1 E listed hcl hp a w (key _ E) hw hf
end plan
def XF(C:Cx)(os:List Oper)(Q:XQ)(nd:List Nat)(plan:List (Nat×Nat))(l:Env)(M J:Mem):Prop:=XK C os Q (λ _=>False) 0 nd plan l M J
section free
variable{C:Cx}{Q:XQ}{l:Env}{M J:Mem}{os:List Oper}{nd:List Nat}{plan:List (Nat×Nat)}
theorem H7(nd:List Nat)(plan:List (Nat×Nat))(hm:C.P.follows .mixedOrders=true)(hp:Z7 os nd plan=true)(h:Region.noSelect os.toArray=true->XF C os Q nd plan l M J):XC C (.region id os.toArray true) Q l M J:=by intro a w ha hw;simp only [Z7,Bool.and_eq_true,beq_iff_eq] at hp;obtain ⟨⟨h1,h3⟩,h4⟩:=hp;refine Code.wp_mono (Q:=T3 (A7x C Q)) (λ e a w h=>by cases e <;> first | exact h | exact h.elim) ?_;refine wp_region_any hm (A1t (S:=Sk λ _=>False) (need:=nd.contains) _ _ _ _ ?_);have:=h h1 (Array.replicate os.length false) (λ j oj _ hl=>by simp [Array.getElem?_replicate] at hl; split at hl <;> simp at hl) h4 a _ ha hw.drew (Am _);rw [h3] at this;simpa using this
theorem D1(nd:List Nat)(plan:List (Nat×Nat))(hm:C.P.follows .mixedOrders=true)(hp:Z7 os nd plan=true)(h:Region.noSelect os.toArray=true->XF C os (A3h C c2 Q) nd plan l M J):XC C (.seq (.region id os.toArray true) c2) Q l M J :=
  A4 (H7 nd plan hm hp h)
theorem R9(h:Q .normal l M J):XF C os Q nd [] l M J:=A3a h
theorem E3(hk:Keep l l')(h:XC C c Q l' M J):XF C os (A3h C c Q) nd [] l M J:=I3 hk h
theorem Z9(hl:lk l t=some (.bool b))(h1:b=true->XF C os Q nd plan ((t,.bool true)::l) M J)(h2:b=false->XF C os Q nd plan ((t,.bool false)::l) M J):XF C os Q nd plan l M J:=A3q hl h1 h2
section ops
variable{i d j t:Nat}{op:Op}{ty:TypeId}{pos:String}{af:Array Edge}{b b':Bool}{v:Value}{oj:Oper}
theorem C8(hs:Region.noSelect os.toArray=true)(hget:nth os i=some ⟨some d,op,ty,pos,af,none⟩)(hq:OpQ C.P [] ⟨some d,op,ty,pos,af,none⟩ l v)(hd:Nat.blt d C.N=true)
    (h:XF C os Q nd plan ((d,v)::l) M J):XF C os Q nd ((i,0)::plan) l M J:=G7 hs hget hq hd h
theorem F9(hs:Region.noSelect os.toArray=true)(hget:nth os i=some ⟨some d,op,ty,pos,af,none⟩)(hq:OpQ C.P (M++(J++C.A)) ⟨some d,op,ty,pos,af,none⟩ l v)(hd:Nat.blt d C.N=true)
    (h:XF C os Q nd plan ((d,v)::l) M J):XF C os Q nd ((i,1)::plan) l M J:=XK.r hs hget (λ _ h=>h) (λ _ _ h=>h) hq hd h
theorem H9(hs:Region.noSelect os.toArray=true)(hget:nth os i=some ⟨some d,op,ty,pos,af,some (j,b)⟩)(hj:nth os j=some oj)(ht:oj.dst=some t)(hl:lk l t=some (.bool b))(hq:OpQ C.P [] ⟨some d,op,ty,pos,af,some (j,b)⟩ l v)(hd:Nat.blt d C.N=true)
    (h:XF C os Q nd plan ((d,v)::l) M J):XF C os Q nd ((i,0)::plan) l M J:=A3R hs hget hj ht hl hq hd h
theorem Z0(hs:Region.noSelect os.toArray=true)(hget:nth os i=some ⟨some d,op,ty,pos,af,some (j,b)⟩)(hj:nth os j=some oj)(ht:oj.dst=some t)(hl:lk l t=some (.bool b))(hq:OpQ C.P (M++(J++C.A)) ⟨some d,op,ty,pos,af,some (j,b)⟩ l v)(hd:Nat.blt d C.N=true)
    (h:XF C os Q nd plan ((d,v)::l) M J):XF C os Q nd ((i,1)::plan) l M J:=B4K hs hget hj ht hl (λ _ h=>h) (λ _ _ h=>h) hq hd h
theorem C3l(hs:Region.noSelect os.toArray=true)(hget:nth os i=some ⟨some d,op,ty,pos,af,some (j,b)⟩)(hj:nth os j=some oj)(ht:oj.dst=some t)(hl:lk l t=some (.bool b'))(hb:(b' == b)=false)(hd:Nat.blt d C.N=true)
    (h:XF C os Q nd plan ((d,undef)::l) M J):XF C os Q nd ((i,0)::plan) l M J:=A0o hs hget hj ht hl hb hd h
theorem C3m(hs:Region.noSelect os.toArray=true)(hget:nth os i=some ⟨some d,op,ty,pos,af,some (j,b)⟩)(hj:nth os j=some oj)(ht:oj.dst=some t)(hl:lk l t=some (.bool b'))(hb:(b' == b)=false)(hd:Nat.blt d C.N=true)
    (h:XF C os Q nd plan ((d,undef)::l) M J):XF C os Q nd ((i,1)::plan) l M J:=A5u hs hget hj ht hl hb hd h
theorem A6E(hs:Region.noSelect os.toArray=true)(hget:nth os i=some ⟨some d,op,ty,pos,af,some (j,b)⟩)(hj:nth os j=some oj)(ht:oj.dst=some t)(hl:lk l t=some (.bool b'))(hb:(b' == b)=false)(hd:Nat.blt d C.N=true)
    (h:XF C os Q nd plan ((d,undef)::l) M J):XF C os Q nd ((i,2)::plan) l M J:=B4L hget hj ht hl hb hd h
end ops
theorem B4M(hget:nth os i=some o)(hg:o.guard=none)
    (h:∀ w,OpL ⟨C.P,w,[],M++(J++C.A),C.N⟩ o l [] [] (λ l' M' J'=>XF C os Q nd plan l' (M'++M) (J'++J))):XF C os Q nd ((i,2)::plan) l M J :=
  H3 [] M hget hg (.refl _) (λ _ h=>by cases h) λ w=>(h w).mono λ _ _ _ hh _=>hh
theorem C3n{d:Option Nat}(hget:nth os i=some ⟨d,op,ty,pos,af,some (j,b)⟩)(hj:nth os j=some oj)(ht:oj.dst=some t)(hl:lk l t=some (.bool b))
    (h:∀ w,OpL ⟨C.P,w,[],M++(J++C.A),C.N⟩ ⟨d,op,ty,pos,af,some (j,b)⟩ l [] [] (λ l' M' J'=>XF C os Q nd plan l' (M'++M) (J'++J))):XF C os Q nd ((i,2)::plan) l M J :=
  C0S [] M hget hj ht hl (.refl _) (λ _ h=>by cases h) λ w=>(h w).mono λ _ _ _ hh _=>hh
end free
section tails
variable{C:Cx}{Q:XQ}{l:Env}{M J:Mem}{os:List Oper}{K:Nat->Prop}{n0:Nat}{nd:List Nat}{plan:List (Nat×Nat)}
theorem B0X(hget:nth os i=some o)(hw':∀ a,Ag C.N l a->Region.wanted o (yielded os.toArray a.tmps)=true)(hnd:nd.contains i=false)
    (h:OpL C o l M J (λ l' M' J'=>XK C os Q K 0 nd plan l' M' J')):XK C os Q K 0 nd ((i,2)::plan) l M J:=by
  intro listed hcl hp a w ha hw hf;simp only [L1,Bool.and_eq_true,beq_iff_eq] at hp;obtain ⟨h1,h2⟩:=hp;have hi:os.toArray[i]? = some o:=by rw [W7] at hget; simpa using hget
  refine ⟨λ h0=>(by rw [h1] at h0; cases h0),λ j hj=>?_⟩;have hr:=hj;rw [h1] at hj;simp only [List.mem_singleton] at hj;subst hj;unfold wpOp;simp only [hi];rw [if_pos (hw' a ha)];refine .inl (Oper.wp_mono ?_ (h _ a w ha hw));rintro a' w' ⟨l',M',J',ha',hs',hk⟩;exact ⟨λ hn=>absurd hn (by rw [hnd]; decide),hk _ (K1 hcl hr) h2 a' w' ha' hs' (Am _)⟩
theorem G1(hget:nth os i=some o)(hg:o.guard=none)(hnd:nd.contains i=false)(h:OpL C o l M J (λ l' M' J'=>XF C os Q nd plan l' M' J')):XF C os Q nd ((i,2)::plan) l M J :=
  B0X hget (λ a ha=>by simp [Region.wanted,hg]) hnd h
end tails
def XR(C:Cx)(c:Code)(Q:XQ)(n:Nat)(l:Env)(M J:Mem):Prop:=∀ a w,Ag C.N l a->St C M J w->Code.rounds C.P c (A7x C Q) n a w
def unX(C:Cx)(c:Code)(Q:XQ)(n:Nat):XQ
  | .normal,l,M,J=>XR C c Q n l M J
  | e,l,M,J=>Q e l M J
section unroll
variable{C:Cx}{Q:XQ}{l l':Env}{M J:Mem}{c:Code}{n:Nat}
theorem Y0(n:Nat)(h:XR C c Q n l M J):XC C (.loop c) Q l M J:=λ a w ha hw=>wp_loop_rounds n (h a w ha hw)
theorem I4(h:XC C c (unX C c Q n) l M J):XR C c Q (n+1) l M J:=by
  intro a w ha hw;refine Code.wp_mono ?_ (h a w ha hw);rintro e a' w' ⟨l',M',J',ha',hw',hq⟩
  cases e with
  | normal=>exact hq a' w' ha' hw'
  | _=>exact ⟨l',M',J',ha',hw',hq⟩
theorem un(hk:Keep l l')(h:XR C c Q n l' M J):unX C c Q n .normal l M J:=λ a w ha hw=>h a w (ha.sub hk.lk) hw
theorem ue(h:Q (.exit i) l M J):unX C c Q n (.exit i) l M J:=h
end unroll
variable{rest:List Oper}
section call
variable{C:Cx}{Q:XQ}{l:Env}{M J:Mem}{d i j t:Nat}{ty:TypeId}{pos:String}{af:Array Edge}{b:Bool}{f:FuncId}{xs:List Operand}{vs:List Value}{ts:Array TypeId}{post:Value->Mem->Mem->Prop}{K:Env->Mem->Mem->Prop}{g:Option (Nat×Bool)}
theorem E2(hx:Evs l xs vs)(hc:L0 C.P f=true)
    (hf:FnX C.P f vs [] (M++(J++C.A)) post) (hd:Nat.blt d C.N=true) (k:∀ v M' J',post v M' J'->K ((d,v)::l) (M'++M) (J'++J)) :
    OpL C ⟨some d,.call { callee:=.value (.func f),args:=xs.toArray,argTypes:=ts },ty,pos,af,g⟩ l M J K:=D0 (Mc:=[]) (R:=M) hx hc (.refl _) hf hd k
theorem C7(hx:Evs l xs vs)(hc:L0 C.P f=true)(hf:FnX C.P f vs [] (M++(J++C.A)) post)(hd:Nat.blt d C.N=true)
    (k:∀ v M' J',post v M' J'->XL C ops rest Q ((d,v)::l) (M'++M) (J'++J)) :
    XL C ops (⟨some d,.call { callee:=.value (.func f),args:=xs.toArray,argTypes:=ts },ty,pos,af,none⟩::rest) Q l M J:=A3 E (E2 hx hc hf hd k)
theorem B4N(ht:(ops[j]?).bind (·.dst)=some t)(hl:lk l t=some (.bool b))(hx:Evs l xs vs)(hc:L0 C.P f=true)(hf:FnX C.P f vs [] (M++(J++C.A)) post)(hd:Nat.blt d C.N=true)
    (k:∀ v M' J',post v M' J'->XL C ops rest Q ((d,v)::l) (M'++M) (J'++J)) :
    XL C ops (⟨some d,.call { callee:=.value (.func f),args:=xs.toArray,argTypes:=ts },ty,pos,af,some (j,b)⟩::rest) Q l M J:=F3 ht hl (E2 hx hc hf hd k)
variable{os:List Oper}{nd:List Nat}{plan:List (Nat×Nat)}{oj:Oper}
theorem G9(hget:nth os i=some ⟨some d,.call { callee:=.value (.func f),args:=xs.toArray,argTypes:=ts },ty,pos,af,none⟩)(hx:Evs l xs vs)(hc:L0 C.P f=true)(hf:FnX C.P f vs [] (M++(J++C.A)) post)(hd:Nat.blt d C.N=true)
    (k:∀ v M' J',post v M' J'->XF C os Q nd plan ((d,v)::l) (M'++M) (J'++J)):XF C os Q nd ((i,2)::plan) l M J :=
  B4M hget E λ w=>E2 hx hc hf hd λ v M' J' hp=>by simpa using k v M' J' hp
theorem A2o(hget:nth os i=some ⟨some d,.call { callee:=.value (.func f),args:=xs.toArray,argTypes:=ts },ty,pos,af,some (j,b)⟩)(hj:nth os j=some oj)(ht:oj.dst=some t)(hl:lk l t=some (.bool b))(hx:Evs l xs vs)(hc:L0 C.P f=true)(hf:FnX C.P f vs [] (M++(J++C.A)) post)(hd:Nat.blt d C.N=true)
    (k:∀ v M' J',post v M' J'->XF C os Q nd plan ((d,v)::l) (M'++M) (J'++J)):XF C os Q nd ((i,2)::plan) l M J :=
  C3n hget hj ht hl λ w=>E2 hx hc hf hd λ v M' J' hp=>by simpa using k v M' J' hp
theorem E6(hx:Evs l xs vs)(hc:L0 C.P f=true)(hf:FnV C.P f vs (M++(J++C.A)) v)(hd:Nat.blt d C.N=true)(k:XL C ops rest Q ((d,v)::l) M J) :
    XL C ops (⟨some d,.call { callee:=.value (.func f),args:=xs.toArray,argTypes:=ts },ty,pos,af,none⟩::rest) Q l M J:=C7 hx hc hf hd λ r M' J' h=>by obtain ⟨rfl,rfl,rfl⟩:=h; exact k
theorem A6F(ht:(ops[j]?).bind (·.dst)=some t)(hl:lk l t=some (.bool b))(hx:Evs l xs vs)(hc:L0 C.P f=true)(hf:FnV C.P f vs (M++(J++C.A)) v)(hd:Nat.blt d C.N=true)(k:XL C ops rest Q ((d,v)::l) M J) :
    XL C ops (⟨some d,.call { callee:=.value (.func f),args:=xs.toArray,argTypes:=ts },ty,pos,af,some (j,b)⟩::rest) Q l M J:=B4N ht hl hx hc hf hd λ r M' J' h=>by obtain ⟨rfl,rfl,rfl⟩:=h; exact k
theorem N3(hget:nth os i=some ⟨some d,.call { callee:=.value (.func f),args:=xs.toArray,argTypes:=ts },ty,pos,af,none⟩)(hx:Evs l xs vs)(hc:L0 C.P f=true)(hf:FnV C.P f vs (M++(J++C.A)) v)(hd:Nat.blt d C.N=true)
    (k:XF C os Q nd plan ((d,v)::l) M J):XF C os Q nd ((i,2)::plan) l M J:=G9 hget hx hc hf hd λ r M' J' h=>by obtain ⟨rfl,rfl,rfl⟩:=h; exact k
theorem A2p(hget:nth os i=some ⟨some d,.call { callee:=.value (.func f),args:=xs.toArray,argTypes:=ts },ty,pos,af,some (j,b)⟩)(hj:nth os j=some oj)(ht:oj.dst=some t)(hl:lk l t=some (.bool b))(hx:Evs l xs vs)(hc:L0 C.P f=true)(hf:FnV C.P f vs (M++(J++C.A)) v)(hd:Nat.blt d C.N=true)
    (k:XF C os Q nd plan ((d,v)::l) M J):XF C os Q nd ((i,2)::plan) l M J:=A2o hget hj ht hl hx hc hf hd λ r M' J' h=>by obtain ⟨rfl,rfl,rfl⟩:=h; exact k
end call
end Go.Px

namespace Go.Px
theorem kr_{X Z Y:Mem}:∀ x∈Z++Y,x∈(X++Z)++Y:=λ x hx=>by rw [Ap]; exact Ai _ hx
def zp:Nat->List Nat->List (Nat×Nat)
  | _,[]=>[]
  | i,c::r=>(i,c)::zp (i+1) r
section
variable{C:Cx}{Q:XQ}{l:Env}{M J:Mem}{os:List Oper}{K:Nat->Prop}{n0:Nat}{nd:List Nat}{plan:List (Nat×Nat)}{i d j t:Nat}{op:Op}{ty:TypeId}{pos:String}{af:Array Edge}{b b':Bool}{v:Value}{oj:Oper}{x:Operand}
theorem fm_(hs:Region.noSelect os.toArray=true)(h:XF C os Q nd plan ((d,v)::l) M J)(hget:nth os i=some ⟨some d,.move x,ty,pos,af,none⟩:=by exact E)(hx:ev l x=some v:=by exact E)(hd:Nat.blt d C.N=true:=by exact E):XF C os Q nd ((i,0)::plan) l M J:=C8 hs hget (A8n hx) hd h
theorem fa_(hs:Region.noSelect os.toArray=true)(h:XF C os Q nd plan ((d,v)::l) M J)(hget:nth os i=some ⟨some d,.assign x,ty,pos,af,none⟩:=by exact E)(hx:ev l x=some v:=by exact E)(hd:Nat.blt d C.N=true:=by exact E):XF C os Q nd ((i,0)::plan) l M J:=C8 hs hget (G4 hx) hd h
theorem km_(hs:Region.noSelect os.toArray=true)(h:XK C os Q K n0 nd plan ((d,v)::l) M J)(hget:nth os i=some ⟨some d,.move x,ty,pos,af,none⟩:=by exact E)(hx:ev l x=some v:=by exact E)(hd:Nat.blt d C.N=true:=by exact E):XK C os Q K n0 nd ((i,0)::plan) l M J:=G7 hs hget (A8n hx) hd h
theorem L2(hs:Region.noSelect os.toArray=true)(h:XF C os Q nd plan ((d,undef)::l) M J)(hget:nth os i=some ⟨some d,op,ty,pos,af,some (j,b)⟩:=by exact E)(hj:nth os j=some oj:=by exact E)(ht:oj.dst=some t:=by exact E)(hl:lk l t=some (.bool b'):=by exact E)(hb:(b' == b)=false:=by exact E)(hd:Nat.blt d C.N=true:=by exact E):XF C os Q nd ((i,0)::plan) l M J:=C3l hs hget hj ht hl hb hd h
theorem W1(hs:Region.noSelect os.toArray=true)(h:XF C os Q nd plan ((d,undef)::l) M J)(hget:nth os i=some ⟨some d,op,ty,pos,af,some (j,b)⟩:=by exact E)(hj:nth os j=some oj:=by exact E)(ht:oj.dst=some t:=by exact E)(hl:lk l t=some (.bool b'):=by exact E)(hb:(b' == b)=false:=by exact E)(hd:Nat.blt d C.N=true:=by exact E):XF C os Q nd ((i,1)::plan) l M J:=C3m hs hget hj ht hl hb hd h
theorem K0{R:Mem}(hs:Region.noSelect os.toArray=true)(hget:nth os i=some ⟨some d,op,ty,pos,af,none⟩)(hn:∀ x∈R,¬ K x.1)(hq:OpQ C.P R ⟨some d,op,ty,pos,af,none⟩ l v)(h:XK C os Q K n0 nd plan ((d,v)::l) M J)(hR:∀ x∈R,x∈M++(J++C.A):=by first | exact λ x hx=>by rw [Ap]; exact Ai _ hx | exact SubC.sub)(hd:Nat.blt d C.N=true:=by exact E):XK C os Q K n0 nd ((i,1)::plan) l M J:=XK.r hs hget hR hn hq hd h
end
end Go.Px

