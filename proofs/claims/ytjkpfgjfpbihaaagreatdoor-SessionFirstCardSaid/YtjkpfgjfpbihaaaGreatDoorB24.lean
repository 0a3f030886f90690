/- The card of the law SessionFirst: it returns true for every input; each argument reads behind the call as it read before; the listed package variables are tied to the program's text. No further condition. -/
import Derived.Test.YtjkpfgjfpbihaaaGreatDoorB23
import Derived.Lib.LaidTab
import Derived.Stop.LaidErr
import Derived.MakeChecks
import Derived.Test.YtjkpfgjfpbihaaaGreatDoorCards
import Derived.Test.YtjkpfgjfpbihaaaGreatDoorTie
import Derived.Deep.DeepHandedRow
import Derived.Deep.DeepWitnessRowRef
import Derived.Lay
import Derived.LaidMore
set_option linter.unusedVariables false
set_option linter.unusedSimpArgs false
set_option maxRecDepth 100000
namespace Go.Proofs.YtjkpfgjfpbihaaaGreatDoor
open Go.Px
theorem B4i(i:Nat):∀ x∈[i % 256],x < 256:=λ x hx=>by rw [List.mem_singleton.1 hx]; exact Ad _ qD
def evRr(R:Mem)(x:Ev)(r:List Value):Prop:=∃ vs p r1 u vk vg,r=evC vs p r1 u vk vg x∧EvR R x vs p r1 u vk vg
theorem evT:RowT 16 evRr:=⟨λ R R' x r hR ⟨a,b,c,d,e,f,h1,h2⟩=>⟨a,b,c,d,e,f,h1,h2.mono hR⟩,λ R x r ⟨a,b,c,d,e,f,h1,_⟩=>by rw [h1]; rfl,λ R x r ⟨a,b,c,d,e,f,h1,h2⟩=>by
  rw [h1]
  exact (A5 E (A5 E (A5 E (A5 E (A5 h2.ses.one (A5 E (A5 h2.he.ia.one (A5 h2.he.ig.one (A5 h2.he.key.one (A5 E (A5 E (A5 E (A5 h2.hk.one (A5 E (A5 E (A5 h2.g.one I7))))))))))))))))⟩
noncomputable def evL(m j n:Nat):List Ev:=(List.range n).map (frE m j)
theorem A6l(m j n:Nat):(evL m j n).length=n:=by simp [evL]
theorem C2Q{m j n i:Nat}(h:i < n):(evL m j n)[i]? = some (frE m j i):=by unfold evL; rw [List.getElem?_map,List.getElem?_range h]; rfl
theorem A9y(m j n:Nat):evL m j (n+1)=evL m j n++[frE m j n]:=by unfold evL; rw [List.range_succ,List.map_append]; rfl
def TF(R:Mem)(tb pb ka kb m j k q i:Nat)(M:Mem):Prop:=(i=0∧T1 R tb pb ka kb (frS m j k).1 (frS m j k).2 M)∨(0 < i∧∃ z x,T2 R tb pb ka kb z (frS m j k).2 x M∧GoF ((frL m j k q).drop i) z x)
theorem C2R{m j k q i:Nat}(hi:i < k):(frL m j k q).drop i=frT m j ((q+i) % k)::(frL m j k q).drop (i+1):=by
  have hl:i < (frL m j k q).length:=by simp [frL]; exact hi
  rw [Br hl];simp [frL]
theorem B4j(m j k q i t tb pb ka kb:Nat)(htt:(q+i) % k=t)(vz ep er eu ek eg:Value)(M0 A:Mem)(ht:TF A tb pb ka kb m j k q i M0)(hK:KyE A kb (rcB m).1)(hB:KsF (rcB m).1)(hF:FrF m j k q)(hq:q < k)(hi:i < k)(hs:(frS m j k).1.ts.length<=900)(he_:EvR A (frE m j t) vz ep er eu ek eg)(hG:Glb A) :
    FnX Tryz.prog 8 [(vP tb),.agg (evC vz ep er eu ek eg (frE m j t)).toArray,.int .i64 1] M0 A λ r M J=>∃ z x,T2 (J++A) tb pb ka kb z (frS m j k).2 x M∧RfG z x (frE m j t)∧GoF ((frL m j k q).drop (i+1)) z x∧r=.tuple #[.string (txt [t % 256]),.int .i64 0]:=by
  subst htt;rcases ht with ⟨rfl,h1⟩ | ⟨h0,z,x,h2,hg⟩
  . have e:(q+0) % k=q:=by rw [Nat.add_zero,Af hq]
    rw [e] at he_ ⊢;obtain ⟨sec,own,s2,sz,rz,⟨k1,⟨⟨i1,i3,l0⟩,i6,i7,k2,⟨l1,l2⟩,l3,l4,l5,⟨o1,o2⟩,o4⟩,o5,o6⟩,hR,hL⟩:=hF
    exact (A7w tb pb ka kb (frS m j k).1 (frS m j k).2 (rcB m).1 (frE m j q) vz ep er eu ek eg sec own s2 _ _ sz rz [q % 256] M0 A h1 hK (B2W hB.2.2) he_ qO i3 k1 qO i6 k2 E E qO qO l3 i7 l4 l5 o5 o6 hG).mono λ r M J ⟨hT,hr⟩=>⟨_,_,hT,hR,hL,hr⟩
  . rw [C2R hi] at hg;obtain ⟨z',r',⟨⟨a1,a2,a3,a4,a5,a6,a7,a8⟩,hO,hoz⟩,hR,hL⟩:=hg
    exact (B4e tb pb ka kb z (frS m j k).2 x (frE m j ((q+i) % k)) vz ep er eu ek eg z' r' [(q+i) % k % 256] M0 A h2 he_ a3 a8 qO qO a4 a5 a6 a7 hO hoz hG).mono λ r M J ⟨hT,hr⟩=>⟨_,_,hT,hR,hL,hr⟩
set_option maxHeartbeats 2000000 in
theorem A4J(m c n p:Nat)(A:Mem)(hm:m < 256)(hc_:c < 256)(hn:n < 256)(hp:p < 256)(hG:Glb A):FnV Tryz.prog 3 [.int .u8 ((m:Nat):Int),.int .u8 ((c:Nat):Int),.int .u8 ((n:Nat):Int),.int .u8 ((p:Nat):Int)] A (.bool true):=by
  have hF1:=(B79 1 (j:=1) qD).1;obtain ⟨hF,hS,hFr⟩:=B79 m (Ad c (by decide:0 < 5));have hB:KsF (rcB m).1:=hF.2.1;refine Ck (N:=100) Tryz.func3 E E E λ w_=>?_;refine A9 (D8 0 1 2 3) (A1 (as_ (A0 (D8 0 1 2 3) (A4 (A1 ?_)))));refine E6 a0 kR (B4c _ hF1 hG.up) E ?_;refine A2 (U0 E) E ?_;refine A0 (E8 0 1 2 3 23) ?_;refine C9 E ?_;refine A6 (nx (D8 0 1 2 3) (A1 (mv_ (mv_ ?_))));refine C7 (aS E (aS E a0)) kR (A9x m c _ hm hc_ hF hG.up) E ?_;rintro v26 M26 J26 ⟨tb,pb,ka,kb,rfl,hT0,-,hKb⟩;change T1 _ tb pb ka kb (frS m (c % 5) 0).1 (frS m (c % 5) 0).2 M26 at hT0;refine as_ (A0 (D6 2 3 9) (A1 (mv_ ?_)));refine A2 (A0l (k':=.i64) ((n:Nat):Int) E kR (A0S qO qO)) E ?_;refine A2 (T8 (a:=n) (b:=6) E E E E qD) E ?_;refine A2 (D7 ((1+n % 6:Nat):Int) E E (F7 qO qO qO)) E ?_;refine as_ (A0 (D6 3 9 10) (A1 (as_ (A0 (D8 3 9 10 11) (A4 ?_)))))
  obtain ⟨k,hk⟩:∃ z,1+n % 6=z:=⟨_,E⟩
  rw [hk];have hk6:k<=6:=by omega
  have hk0:0 < k:=by omega
  refine A1 (as_ (A0 (E8 3 9 10 11 12) (A8 ?_)));refine E5 (α:=Nat×Mem×Mem×Value×List (List Value)×Mem) (λ y=>[(3,.int .u8 ((p:Nat):Int)),(9,(vP tb)),(10,(vI k)),(11,y.2.2.2.1),(12,(vI y.1))]) (λ y=>y.2.1++y.2.2.1) (λ y=>y.2.2.2.2.2) (λ y=>y.1<=k∧T1 (y.2.2.2.2.2++A) tb pb ka kb (frS m (c % 5) y.1).1 (frS m (c % 5) y.1).2 y.2.1∧KyE (y.2.2.2.2.2++A) kb (rcB m).1∧Sl 16 y.2.2.2.1 (evL m (c % 5) y.1).length y.2.2.2.2.1.flatten y.2.2.1∧RwL evRr (y.2.2.2.2.2++A) y.2.2.2.2.1 (evL m (c % 5) y.1)) (λ y=>k - y.1) (0,M26,[],vS,[],J26) ⟨Am _,hT0.mono qS,hKb.mono qS,Sl.nil,RwL.nil⟩ (E8 3 9 10 11 12) (Ce qM) (λ _ h=>by simpa using h) ?_;rintro ⟨i,Mi,Bi,vi,rwi,Ji⟩ ⟨hi,hpi,hky,hsl,hrw⟩;dsimp only at hi hpi hky hsl hrw ⊢;haveI:=hsl.cel;refine A4 (A1 (mv_ (mv_ ?_)));refine A2 (F0 E E E) E ?_;refine A0 (H1 3 9 10 11 12 33) ?_;refine C4 E ?_ ?_ <;> intro hc
  .
    have hlt:i < k:=by simp [I8] at hc; omega
    obtain ⟨g1,g6,g2,g3,g4,g5⟩:=hS i qO;have hhas:(frE m (c % 5) i).has=true:=g6;refine A6 (nx (E8 3 9 10 11 12) (A4 (A8 (A1 (mv_ (mv_ ?_))))));refine A2 (A04 E kR) E ?_;refine A3 E (C5 (e:=5) (sz:=1) (z:=[.int .u8 0]) kR (eS E e0) (bdS 0 1 E qR bd0) E λ b40=>?_);refine A2 (N5 E kR (Co (n:=1) (cs:=nums .u8 [i % 256]) Cc qR)) E ?_;refine A3 E (D0 (Mc:=Mi) (R:=_) (aS E (aS E (aS E (a0)))) kR qP (Cj qS (A7v tb pb ka kb (frS m (c % 5) i).1 (frS m (c % 5) i).2 [i % 256] Mi (Ji++A) hpi qO g6 g2 g3 g4 g5 ⟨B4i i⟩ qM (hG.sub qS))) E ?_);rintro v42 M42 J42 ⟨hp42,v,rfl,es,ep,er,eu,ek,eg,rfl,he42⟩;change T1 _ tb pb ka kb (frS m (c % 5) (i+1)).1 (frS m (c % 5) (i+1)).2 M42 at hp42;change EvR _ (frE m (c % 5) i) es ep er eu ek eg at he42;haveI:=he42.ses.cel;haveI:=he42.he.ia.cel;haveI:=he42.he.ig.cel;haveI:=he42.he.key.cel;haveI:=he42.hk.cel;haveI:=he42.g.cel;rw [show (evS (frS m (c % 5) i).1 (frS m (c % 5) i).2 (frS m (c % 5) i).2.he 0 1 1 1 [i % 256])=(frE m (c % 5) i) from rfl];unfold evC;rw [hhas];refine mv_ ?_;refine A2 (Y8 E) E ?_;refine A2 (Y4 E) E ?_;refine A3 E (C3 (cs:=[P5,P5,P5,P5,vS,.bool false,vS,vS,vS,D3,.bool false,D3,vS,D3,D3,vS]) kR E λ b13=>?_);refine A3 E (A7 (vs:=[.int .i64 (frE m (c % 5) i).fu,.int .i64 (frE m (c % 5) i).fd,.int .i64 (frE m (c % 5) i).tu,.int .i64 (frE m (c % 5) i).td,es,.bool true,ep,er,eu,.int .u32 (((frE m (c % 5) i).he.signed:Nat):Int),.bool (frE m (c % 5) i).he.has,.int .u32 (((frE m (c % 5) i).he.once:Nat):Int),ek,.int .u32 (((frE m (c % 5) i).hp:Nat):Int),.int .u32 (((frE m (c % 5) i).hn:Nat):Int),eg]) E E E kR qR (A5 E (A5 E (A5 E (A5 E (A5 he42.ses.one (A5 E (A5 he42.he.ia.one (A5 he42.he.ig.one (A5 he42.he.key.one (A5 E (A5 E (A5 E (A5 he42.hk.one (A5 E (A5 E (A5 he42.g.one I7)))))))))))))))) Cs ?_);refine as_ (A0 (N9 3 9 10 11 12 13 14) (A4 (A1 (mv_ ?_))));refine A2 (U0 E) E ?_;refine mv_ ?_;refine F3 E E (Cn (qf_ 5 5) E ?_);refine F3 E E (Cn ql_ E ?_);refine F3 E E (Cn (U0 E) E ?_);refine A2 (F2 E E) E ?_;refine A0 (N9 3 9 10 11 12 13 51) ?_;refine C9 E ?_;refine A6 (nx (H1 3 9 10 11 12 13) (C2 (mv_ ?_)));refine A2 (F4 (n:=16) (vs:=[.int .i64 (frE m (c % 5) i).fu,.int .i64 (frE m (c % 5) i).fd,.int .i64 (frE m (c % 5) i).tu,.int .i64 (frE m (c % 5) i).td,es,.bool true,ep,er,eu,.int .u32 (((frE m (c % 5) i).he.signed:Nat):Int),.bool (frE m (c % 5) i).he.has,.int .u32 (((frE m (c % 5) i).he.once:Nat):Int),ek,.int .u32 (((frE m (c % 5) i).hp:Nat):Int),.int .u32 (((frE m (c % 5) i).hn:Nat):Int),eg]) E kR Cc E (D4 [] [.int .i64 (frE m (c % 5) i).fu,.int .i64 (frE m (c % 5) i).fd,.int .i64 (frE m (c % 5) i).tu,.int .i64 (frE m (c % 5) i).td,es,.bool true,ep,er,eu,.int .u32 (((frE m (c % 5) i).he.signed:Nat):Int),.bool (frE m (c % 5) i).he.has,.int .u32 (((frE m (c % 5) i).he.once:Nat):Int),ek,.int .u32 (((frE m (c % 5) i).hp:Nat):Int),.int .u32 (((frE m (c % 5) i).hn:Nat):Int),eg] [])) E ?_;refine A3 E (C5 (e:=37) (sz:=16) (z:=[P5,P5,P5,P5,vS,.bool false,vS,vS,vS,D3,.bool false,D3,vS,D3,D3,vS]) kR (eS E e0) (bdS 0 16 E qR bd0) E λ b54=>?_);refine A3 E (H5 (e:=37) (sz:=16) (by_:=208) E E kR E hsl (Co (n:=1) Cc qR) (A5 E (A5 E (A5 E (A5 E (A5 he42.ses.one (A5 E (A5 he42.he.ia.one (A5 he42.he.ig.one (A5 he42.he.key.one (A5 E (A5 E (A5 E (A5 he42.hk.one (A5 E (A5 E (A5 he42.g.one I7)))))))))))))))) qP (by unfold maxLen; rw [A6l]; omega) (by rw [A6l]; omega) E λ v55 B55 hs55=>?_);haveI:=hs55.cel;refine as_ (C6 (nb (nx (E8 3 9 10 11 12) (C2 (mv_ ?_)))));refine A2 (D7 ((i+1:Nat):Int) E E (F7 qO qO qO)) E ?_;refine as_ (C6 ?_)
    refine rn (i+1,M42,B55,v55,rwi++[[.int .i64 (frE m (c % 5) i).fu,.int .i64 (frE m (c % 5) i).fd,.int .i64 (frE m (c % 5) i).tu,.int .i64 (frE m (c % 5) i).td,es,.bool true,ep,er,eu,.int .u32 (((frE m (c % 5) i).he.signed:Nat):Int),.bool (frE m (c % 5) i).he.has,.int .u32 (((frE m (c % 5) i).he.once:Nat):Int),ek,.int .u32 (((frE m (c % 5) i).hp:Nat):Int),.int .u32 (((frE m (c % 5) i).hn:Nat):Int),eg]],J42++Ji) ⟨by dsimp only; omega,hp42.mono qS,hky.mono qS,?_,?_⟩ (by dsimp only; omega) (E8 3 9 10 11 12) (Ch qP (Cf qP)) qI
    . exact Sl.cast hs55 (by dsimp only; rw [A9y,An]; rfl) (by dsimp only; simp)
    . dsimp only;rw [A9y];exact (hrw.mono evT qS).snoc ⟨es,ep,er,eu,ek,eg,by unfold evC; rw [hhas],he42.mono qS⟩
  .
    obtain rfl:k=i:=by simp [I8] at hc; omega
    refine D9 (te (re (be E (nx (D8 3 9 10 11) ?_))));refine Y5 (B:=Bi) qP ?_;have hrd:=hsl.rd (R:=Bi) λ _ h=>h;have hFF:=hFr k hk0 hk6;have hsn:(frS m (c % 5) k).1.ts.length<=900:=by obtain ⟨sec,own,s2,sz,rz,h1,-⟩:=hFF 0 hk0; exact h1.d.1.1
    refine A1 (mv_ ?_);refine A2 (A0l (k':=.i64) ((p:Nat):Int) E kR (A0S qO qO)) E ?_;refine mv_ ?_;refine A2 (T8 (a:=p) (b:=k) E E E E qO) E ?_;refine as_ (A0 (D8 9 10 11 15) (A4 ?_))
    obtain ⟨q,hq⟩:∃ z,p % k=z:=⟨_,E⟩
    rw [hq];have hqk:q < k:=by rw [<- hq]; exact Ad _ hk0
    refine A1 (as_ (A0 (E8 9 10 11 15 16) (A8 ?_)));refine E5 (α:=Nat×Mem×Mem) (λ y=>[(9,(vP tb)),(10,(vI k)),(11,vi),(15,(vI q)),(16,(vI y.1))]) (λ y=>y.2.1) (λ y=>y.2.2++(Bi++Ji)) (λ y=>y.1<=k∧TF (y.2.2++(Bi++(Ji++A))) tb pb ka kb m (c % 5) k q y.1 y.2.1) (λ y=>k - y.1) (0,Mi,[]) ⟨Am _,.inl ⟨E,hpi.mono qS⟩⟩ (E8 9 10 11 15 16) (Ce qM) (λ _ h=>by simpa using h) ?_;rintro ⟨i,M2,J2⟩ ⟨hi,ht2⟩;dsimp only at hi ht2 ⊢;refine A4 (A1 (mv_ (mv_ ?_)));refine A2 (F0 E E E) E ?_;refine A0 (H1 9 10 11 15 16 62) ?_;refine C4 E ?_ ?_ <;> intro hc
    .
      have hlt:i < k:=by simp [I8] at hc; omega
      obtain ⟨t,htt⟩:∃ z,(q+i) % k=z:=⟨_,E⟩
      have htk:t < k:=by rw [<- htt]; exact Ad _ hk0
      obtain ⟨ra,hra,es,ep,er,eu,ek,eg,rfl,hea⟩:=hrw.get t _ (C2Q (m:=m) (j:=(c % 5)) htk);haveI:=hea.ses.cel;haveI:=hea.he.ia.cel;haveI:=hea.he.ig.cel;haveI:=hea.he.key.cel;haveI:=hea.hk.cel;haveI:=hea.g.cel;refine A6 (nx (E8 9 10 11 15 16) (A4 (A8 (A1 (mv_ (mv_ ?_))))));refine A2 (D7 ((q+i:Nat):Int) E E (F7 qO qO qO)) E ?_;refine mv_ ?_;refine A2 (T8 (a:=q+i) (b:=k) E E E E qO) E ?_;rw [htt];refine as_ (A0 (H1 9 10 11 15 16 17) (A1 (mv_ (mv_ (mv_ ?_)))));refine A2 (H4 (sz:=16) (a:=t) E E kR E hrd (by rw [A6l]; omega)) E ?_;refine A2 (A0K (sz:=16) E kR (hrd.mono qS) (hrw.lens evT) qD hra) E ?_;refine A3 E (D0 (Mc:=M2) (R:=_) (aS E (aS E (aS E (a0)))) kR qP (Cj qS (B4j m (c % 5) k q i t tb pb ka kb htt es ep er eu ek eg M2 (J2++(Bi++(Ji++A))) ht2 (hky.mono qS) hB (hFF q hqk) hqk hlt hsn (hea.mono qS) (hG.sub qS))) E ?_);rintro v76 M76 J76 ⟨z,x1,hT76,hR76,hL76,rfl⟩;refine mv_ ?_;refine A2 (Y8 E) E ?_;refine A2 (Y4 E) E ?_;refine as_ (as_ (A0 (W4 9 10 11 15 16 17 18 19) (A4 (A1 (mv_ ?_)))));refine A2 (F5 false E E (neF E)) E ?_;refine mv_ ?_;refine F3 E E (Cn qm_ E ?_);refine F3 E E (Cn qm_ E ?_);refine F3 E E (Cn (A04 E kR) E ?_);refine F3 E E (C5 (e:=5) (sz:=1) (z:=[.int .u8 0]) kR (eS E e0) (bdS 0 1 E qR bd0) E λ b85=>?_);refine F3 E E (Cn (N5 E kR (Co (n:=1) (cs:=nums .u8 [t % 256]) Cc qR)) E ?_);refine F3 E E (Cn ((show (!decide ([t % 256]=[t % 256]))=false by simp)▸B02 E E E E (B4i t) (B4i t)) E ?_);refine A2 (F2 E E) E ?_;refine A0 (N9 9 10 11 15 16 17 88) ?_;refine C9 E ?_;refine A6 (nx (H1 9 10 11 15 16 17) ?_);obtain ⟨rr,ec,tt,hec,⟨a1,a2,a3,a4,a5,a6,a7,a8⟩,hO_,hoz_⟩:=hR76;refine A1 (mv_ (mv_ (mv_ ?_)));refine A2 (H4 (sz:=16) (a:=t) E E kR E hrd (by rw [A6l]; omega)) E ?_;refine A2 (A0K (sz:=16) E kR (hrd.mono qS) (hrw.lens evT) qD hra) E ?_;refine A3 E (D0 (Mc:=M76) (R:=_) (aS E (aS E (aS E (a0)))) kR qP (Cj qS (B4f tb pb ka kb z (frS m (c % 5) k).2 x1 (frE m (c % 5) t) es ep er eu ek eg z rr ec hec tt M76 (J76++(J2++(Bi++(Ji++A)))) hT76 (hea.mono qS) a3 a8 qO qO a4 a5 a6 a7 hO_ hoz_ (hG.sub qS))) E ?_);rintro v95 M95 J95 ⟨hT95,rfl⟩;refine mv_ ?_;refine A2 (Y8 E) E ?_;refine A2 (Y4 E) E ?_;refine as_ (as_ (A0 (H1 9 10 11 15 16 21) (A1 (mv_ ?_))));refine A2 (F5 false E E (eqF hec)) E ?_;refine A0 (H1 9 10 11 15 16 99) ?_;refine C9 E ?_;refine A6 (nb (nx (E8 9 10 11 15 16) (C2 (mv_ ?_))));refine A2 (D7 ((i+1:Nat):Int) E E (F7 qO qO qO)) E ?_;refine as_ (C6 ?_);refine rn (i+1,M95,J95++(J76++J2)) ⟨by dsimp only; omega,.inr ⟨Nat.succ_pos _,z,x1,hT95.mono qS,hL76⟩⟩ (by dsimp only; omega) (E8 9 10 11 15 16) (Cf qP) (λ _ h=>by simpa using h)
    .
      obtain rfl:k=i:=by simp [I8] at hc; omega
      refine D9 (te (re (be E (nx kn (A1 (as_ (A0 (D5 8) ?_)))))));refine C0 ?_;exact ⟨_,[],[],I0 E E,Aa _,by simp,E,E,E⟩

open Go.Px Go.ChangeShapes Go.WideShapes Go.ChangeAt Go.RowKit
section
variable{H:Type}{enc:TypeId×Value->H}{P:Program}{w:World}{spare:Nat->Bool}{held:Bool}{fuel:Nat}{t e:TypeId}{cs:List Value}{x:DataW H×List MemPlace}{v:Value}{d:DataW H}{p:List MemPlace}{r:Reach}{base:Nat}{k:IntKind}
end
variable{W:World}
theorem A6m{P:Program}{name:String}{g:Nat}{cs:Array Value}(hg:P.globalNamed name=some g)(h:W.var? P name=some cs):∃ e fr,W.heap[g]? = some (.cells cs e fr):=by
  unfold World.var? at h;rw [hg] at h;simp only [Option.bind_some] at h;split at h
  . rename_i c e fr hh;cases h;exact ⟨e,fr,hh⟩
  . cases h
def B4k(ws:LN):List Int:=ws.map λ n:Nat=>(n:Int)
theorem A5g(k:IntKind)(ws:LN):((B4k ws).map λ z=>Value.int k z).toArray=(nums k ws).toArray:=by simp [B4k,nums]
theorem C0x{a b:String×DataW Unit}{rest:List (String×DataW Unit)}(h:laidMet Tryz.prog (a::b::("internal/strconv.uint64pow10",Rows.laid_internal_strconv_uint64pow10)::rest) W):∃ e fr,W.heap[4]? = some (Obj.cells (nums .u64 A0B).toArray e fr):=by
  have h':laidMet Tryz.prog (("internal/strconv.uint64pow10",Lib.tabData .u64 (B4k A0B))::rest) W:=h.tail.tail
  have h1:=Lib.tabIs_of_head (g:=4) (t:=304) (e:=115) (n:=20) (by kernel_rfl) (by kernel_rfl) (by kernel_rfl) (by kernel_rfl) (by kernel_rfl) (by kernel_rfl) h';obtain ⟨ek,fk,h3⟩:=A6m (g:=4) (by kernel_rfl) h1;rw [A5g] at h3;exact ⟨ek,fk,h3⟩
end Go.Proofs.YtjkpfgjfpbihaaaGreatDoor

namespace Go.Proofs.YtjkpfgjfpbihaaaGreatDoor
open Go.Px
theorem C2S{W:World}{a b:String×DataW Unit}{rest:List (String×DataW Unit)}(h:laidMet Tryz.prog (a::b::("internal/strconv.uint64pow10",Rows.laid_internal_strconv_uint64pow10)::("pawl/sha.round",Rows.laid_pawl_sha_round)::("pawl/sha.first",Rows.laid_pawl_sha_first)::rest) W):Glb (B5g W):=by
  obtain ⟨e4,f4,h4⟩:=C0x h
  have h':laidMet Tryz.prog (("pawl/sha.round",Lib.tabData .u32 (B4k A2c))::("pawl/sha.first",Lib.tabData .u32 (B4k A27.list))::rest) W:=h.tail.tail.tail
  have h1:=Lib.tabIs_of_head (g:=1) (t:=246) (e:=31) (n:=64) (by kernel_rfl) (by kernel_rfl) (by kernel_rfl) (by kernel_rfl) (by kernel_rfl) (by kernel_rfl) h';have h2:=Lib.tabIs_of_head (g:=0) (t:=206) (e:=31) (n:=8) (by kernel_rfl) (by kernel_rfl) (by kernel_rfl) (by kernel_rfl) (by kernel_rfl) (by kernel_rfl) h'.tail;obtain ⟨ek,fk,h3⟩:=A6m (g:=1) (by kernel_rfl) h1;obtain ⟨ef,ff,h5⟩:=A6m (g:=0) (by kernel_rfl) h2;rw [A5g] at h3 h5;exact ⟨⟨ef,ff,A2A.2 h5⟩,⟨ek,fk,A2A.2 h3⟩,⟨e4,f4,A2A.2 h4⟩⟩
end Go.Proofs.YtjkpfgjfpbihaaaGreatDoor

namespace Go.Proofs.YtjkpfgjfpbihaaaGreatDoor.sessionFirst
open Go.ChangeShapes Go.WideShapes Go.ChangeAt Go.RowKit
theorem own:ownKnob Tryz.prog.godebug=none:=by kernel_rfl
theorem laidOut:laidOutB Tryz.prog=true:=by kernel_rfl
noncomputable def laidWorld(os:Os):World:=World.laidAll Tryz.prog os Rows.sessionFirstRow.laid
theorem laid_met(os:Os):laidMetH Tryz.prog Rows.sessionFirstRow.laid ((laidWorld os).forCall (λ _ _=>0) ⟨#[],#[.int .u8 0,.int .u8 0,.int .u8 0,.int .u8 0],[]⟩).memory:=by rw [MakeChecks.laidMetH_plain _ _ _ (by kernel_rfl)]; exact laidMet_laidAll _ (by kernel_rfl) (by kernel_rfl)
theorem reads(os:Os){H:Type}(enc:TypeId×Value->H):∃ places,DataW.whole enc Tryz.prog ((laidWorld os).forCall (λ _ _=>0) ⟨#[],#[.int .u8 0,.int .u8 0,.int .u8 0,.int .u8 0],[]⟩).memory Tryz.f3.params.toList Rows.sessionFirstSpec.vars false (#[.int .u8 0,.int .u8 0,.int .u8 0,.int .u8 0]:Array Value).toList 8=some ([.lit (.int .u8 0),.lit (.int .u8 0),.lit (.int .u8 0),.lit (.int .u8 0)],[],places) :=
  ⟨[],by kernel_rfl⟩
theorem lifted(os:Os)(started:os.Started)(H:Type)(enc:TypeId×Value->H)(F:Stop.Interp) :
    ReturnsInHanded {} Tryz.checked os 3 .any ((OpenSpec.ofChange Rows.sessionFirstSpec).preRow enc Tryz.prog Tryz.f3 Rows.sessionFirstRow.domain false Rows.sessionFirstRow.laid) (((OpenSpec.ofChange Rows.sessionFirstSpec).at F).post enc Tryz.prog Tryz.f3 false true false false):=by
  obtain ⟨places,hx⟩:=reads os enc
  refine returnsInHanded_of_row (C:=Tryz.checked) (s:=(OpenSpec.ofChange Rows.sessionFirstSpec)) own started (by kernel_rfl) Tryz.func3
    (witness_row_at (enc:=enc) (C:=Tryz.checked) false (laidWorld os) #[.int .u8 0,.int .u8 0,.int .u8 0,.int .u8 0] (World.laidAll_os _ _ _) (by kernel_rfl) (by kernel_rfl) (by kernel_rfl)
      (OpenSpec.preRow_of_cond 8 hx (by kernel_rfl) (λ k hk=>by cases hk) (by kernel_rfl) (laid_met os))) ?_
  intro W base args ds gs before hval0 hW _ _ _ hL _ _;have hval:∀ (j:Nat) t v,Tryz.f3.params[j]? = some t->args[j]? = some v->Value.okWide Tryz.prog W .any base t v:=hval0;have hW':=hW;obtain ⟨p,q,hA0,hV,rfl,hfz,hnd⟩:=hW;have hA:DataW.TrodAll enc Tryz.prog W 0 (λ _=>true) true Tryz.f3.params.toList args.toList ds p:=hA0;rw [Tryz.params3] at hA hval;obtain ⟨v0,vs0,d0,ds0,p0,q0,hargs,rfl,rfl,k0,r0_⟩:=trodAll_cons hA;obtain ⟨v1,vs1,d1,ds1,p1,q1,rfl,rfl,rfl,k1,r1_⟩:=trodAll_cons r0_;obtain ⟨v2,vs2,d2,ds2,p2,q2,rfl,rfl,rfl,k2,r2_⟩:=trodAll_cons r1_;obtain ⟨v3,vs3,d3,ds3,p3,q3,rfl,rfl,rfl,k3,r3_⟩:=trodAll_cons r2_;obtain ⟨rfl,rfl,rfl⟩:=trodAll_nil r3_;obtain rfl:args=#[v0,v1,v2,v3]:=by cases args; simp_all
  obtain ⟨rfl,rfl⟩:=trodVars_none hV;have lt0:∀ x∈p0,x.block < W.heap.size:=by obtain ⟨m,hm⟩:=k0; exact DataW.trod_lt m _ _ _ hm
  have lt1:∀ x∈p1,x.block < W.heap.size:=by obtain ⟨m,hm⟩:=k1; exact DataW.trod_lt m _ _ _ hm
  have lt2:∀ x∈p2,x.block < W.heap.size:=by obtain ⟨m,hm⟩:=k2; exact DataW.trod_lt m _ _ _ hm
  have lt3:∀ x∈p3,x.block < W.heap.size:=by obtain ⟨m,hm⟩:=k3; exact DataW.trod_lt m _ _ _ hm
  obtain ⟨x0,rfl,hx0⟩:=Px.inU Tryz.underlying5 E (hval 0 5 v0 E E) k0;obtain ⟨x1,rfl,hx1⟩:=Px.inU Tryz.underlying5 E (hval 1 5 v1 E E) k1;obtain ⟨x2,rfl,hx2⟩:=Px.inU Tryz.underlying5 E (hval 2 5 v2 E E) k2;obtain ⟨x3,rfl,hx3⟩:=Px.inU Tryz.underlying5 E (hval 3 5 v3 E E) k3;clear hA0 hval0;rw [MakeChecks.laidMetH_plain _ _ _ (by kernel_rfl)] at hL;have hG:=C2S hL;refine Calls.mono ((A4J x0 x1 x2 x3 _ hx0 hx1 hx2 hx3 hG).calls (Px.heapA_fx W)) λ e W' ⟨he,bel⟩=>?_;subst he;exact ⟨_,rfl,_,_,_,[],_,[],hW',trodAll_mk1 (shut_bool Tryz.underlying4 _),(trodAll_cons_mk (Below.trod laidOut (by kernel_rfl) (of_decide_eq_true (by kernel_rfl)) k0 bel lt0) (trodAll_cons_mk (Below.trod laidOut (by kernel_rfl) (of_decide_eq_true (by kernel_rfl)) k1 bel lt1) (trodAll_cons_mk (Below.trod laidOut (by kernel_rfl) (of_decide_eq_true (by kernel_rfl)) k2 bel lt2) (trodAll_cons_mk (Below.trod laidOut (by kernel_rfl) (of_decide_eq_true (by kernel_rfl)) k3 bel lt3) trodAll_mk0)))),rfl,bel.frame _,λ h=>by cases h⟩
theorem said:Rows.SessionFirstSaid :=
  OpenClaim.holds_of_cond 3 Tryz.f3 E E E E E E E ⟨E,E,E,E,E⟩ E E E E E (by kernel_rfl) Tryz.func3 (by kernel_rfl)
    (of_decide_eq_true (by kernel_rfl)) (by unfold Func.isWrapper; first | (rw [if_pos (by decide +kernel)]; kernel_rfl) | (rw [if_neg (by decide +kernel)]; exact ⟨E,E⟩))
    (λ os started H enc _ F=>by rw [OpenClaim.pre_eq_preRow]; exact lifted os started H enc F)
theorem plain(f:FuncId)(fn:Func)(hf:Tryz.pinned.checked.prog.funcNamed "pawl/pawllaw15.SessionFirst" = some f) (hfn:Tryz.pinned.checked.prog.funcs[f]? = some fn) :
    true=Tryz.pinned.checked.prog.looks []∧∀ (j:Nat) t,fn.params[j]? = some t->Tryz.pinned.checked.prog.wantsStandIn t=false:=by
  obtain rfl:f=3:=Ca ((show Tryz.prog.funcNamed "pawl/pawllaw15.SessionFirst" = some 3 by kernel_rfl).symm.trans hf) |>.symm
  obtain rfl:fn=Tryz.f3:=(Ca (Tryz.func3.symm.trans hfn)).symm;refine ⟨by kernel_rfl,λ j t ht=>?_⟩;rw [Tryz.params3] at ht;have hm:=Array.mem_of_getElem? ht;simp only [List.mem_toArray,List.mem_cons,List.not_mem_nil,or_false] at hm;rcases hm with rfl | rfl | rfl | rfl
  . exact (show Tryz.prog.wantsStandIn 5=false by kernel_rfl)
  . exact (show Tryz.prog.wantsStandIn 5=false by kernel_rfl)
  . exact (show Tryz.prog.wantsStandIn 5=false by kernel_rfl)
  . exact (show Tryz.prog.wantsStandIn 5=false by kernel_rfl)
theorem proved:Rows.SessionFirstCardSaid :=
  Claim7.holds_tied_plain_at .later [] _ _ _ _ said (λ _ h=>by cases h) (by kernel_rfl) (λ _ h=>by cases h) sessionFirst_row_tie rfl ⟨rfl,rfl⟩ (by kernel_rfl) rfl plain (by kernel_rfl)
#print axioms proved
end Go.Proofs.YtjkpfgjfpbihaaaGreatDoor.sessionFirst

