/- Part 16 of the texts of this claim, one behind the other. -/
import Derived.Test.YtjkpfgjfpbihaaaGreatDoorB15
set_option linter.unusedVariables false
set_option linter.unusedSimpArgs false
set_option maxRecDepth 100000
namespace Go.Proofs.YtjkpfgjfpbihaaaGreatDoor
open Go.Px
def Q2(ws:List (LN)):LN:=(ws.map mark).flatten
variable{ws:List (LN)}{i:Nat}
theorem A3e{w:LN}(h:ws[i]? = some w):Q2 (ws.take (i+1))=Q2 (ws.take i)++mark w:=by unfold Q2; rw [Bh,h]; simp
theorem A5b(h:∀ w∈ws,∀ x∈w,x < 256):∀ x∈Q2 ws,x < 256:=by
  intro x hx;obtain ⟨l,hl,hx⟩:=List.mem_flatten.1 hx;obtain ⟨w,hw,rfl⟩:=List.mem_map.1 hl
  haveI:B256 w:=⟨h w hw⟩
  have hb:B256 (mark w):=inferInstance;exact hb.lt x hx
def B0d(ws:List (LN)):Tm:=B46 (Q2 ws)
def A2a(s:Ps)(ws:List (LN)):Ps:=if s.real then s else { s with ts:=add s.ts (B0d ws) }
variable{s:Ps}
theorem A54(h:s.real=true)(ws:List (LN)):A2a s ws=s:=if_pos h
theorem A4m(h:s.real=false)(ws:List (LN)):A2a s ws={ s with ts:=add s.ts (B0d ws) }:=if_neg (by rw [h]; decide)
def A2K(s:Ps)(ws:List (LN)):LN:=if s.real then X8 (Q2 ws) else bts ((at_ s.ts (B0d ws):Nat):Int)
theorem A55(h:s.real=true)(ws:List (LN)):A2K s ws=X8 (Q2 ws):=if_pos h
theorem B3i(h:s.real=false)(ws:List (LN)):A2K s ws=bts ((at_ s.ts (B0d ws):Nat):Int):=if_neg (by rw [h]; decide)
theorem B6s{j:Nat}(hr:s.real=false)(ht:Tok s.ts)(h:s.ts[j]? = some (B0d ws)):A2a s ws=s∧A2K s ws=bts ((j:Nat):Int):=by obtain ⟨e3,e4⟩:=C3w ht h;rw [A4m hr,B3i hr,e3,e4]; exact ⟨E,E⟩
theorem C2b(pb bt bm:Nat)(s:Ps)(hr:s.real=false)(u:Value)(ws:List (LN))(MP A:Mem)(hP:PrmT pb bt bm s MP)(hn:s.ts.length<=1048576)(hu:LsV A u ws)(hwl0:ws.length<=1000)(hlt0:∀ w∈ws,∀ x∈w,x < 256)(hG:Glb A):FnX Tryz.prog 44 [(vP pb),u] MP A λ q M J=>PrmT pb bt bm (A2a s ws) M∧By J q (A2K s ws):=by
 obtain ⟨sv,B,MT,rfl,hby,hT⟩:=hP.ex;have hmd:md s.real=1:=by rw [hr]; rfl
 rw [hmd] at *;haveI:=hby.cel;obtain ⟨⟨ge0,gf0,h0⟩,⟨ge1,gf1,h1⟩,⟨ge4,gf4,h4⟩⟩:=hG;obtain ⟨us,hus,hls⟩:=hu.ex;haveI:=hus.cel;refine Cl (N:=51) Tryz.func44 E E E λ w_=>?_;refine A9 (D2 0 1) (A1 (as_ (A0 (D2 0 1) (A4 (A1 (mv_ ?_))))));refine A2 (F6 (e:=102) E E kR) E ?_;refine A0 (D6 0 1 12) ?_;refine C9 E ?_;refine A6 (nx (D2 0 1) (A4 (A1 (mv_ ?_))));refine A2 (E7 E) E ?_;refine A2 (qf_ 0 0) E ?_;refine A2 ql_ E ?_;refine A2 (F0 E E E) E ?_;refine A0 (D6 0 1 17) ?_;refine C9 E ?_;refine A6 (nx (D2 0 1) (A1 (as_ (A0 (D6 0 1 8) (A4 (A1 (mv_ ?_)))))));refine A2 (G6 (sz:=1) E kR hus) E ?_;refine mv_ (A0 (E8 0 8 32 33 34) (A8 ?_));refine E5 (α:=Nat) (λ i=>[(0,(vP pb)),(8,.string (txt (Q2 (ws.take i)))),(32,u),(33,(vI ws.length)),(34,(vI i))]) (λ _=>(pb,blk [.int .u8 1,sv,.int .i64 (((s.n:Nat):Int)),(vP bt)] 102)::(B++MT)) (λ _=>[]) (λ i=>i<=ws.length∧(Q2 (ws.take i)).length<=i * 16777300) (λ i=>ws.length - i) 0 ⟨Am _,Am _⟩ (E8 0 8 32 33 34) .rfl qI ?_;rintro i ⟨hi,hml⟩;refine A1 ?_;refine A2 (F0 E E E) E ?_;refine A0 (H1 0 8 32 33 34 35) (A4 ?_);refine C4 E ?_ ?_ <;> intro hc
 .
  have hlt:i < ws.length:=by simp at hc; omega
  obtain ⟨w,hw⟩:∃ w,ws[i]? = some w:=⟨_,Ab hlt⟩
  obtain ⟨vi,hvi,hwi⟩:=hls.get i w hw;haveI:=hwi.cel;have hst:=A3e hw;have hmk:=A1y w (by have:=hwi.len; omega);have hwl:=hwi.len;refine A6 (nx (E8 0 8 32 33 34) (A4 (A8 (A1 ?_))));refine A2 (H4 (sz:=1) E E kR E hus hlt) E ?_;refine A2 (Y9 (j:=i) (u:=vi) (hus.mono qS) E kR hvi) E ?_;refine as_ (A0 (H1 0 8 10 32 33 34) (C2 (mv_ (mv_ ?_))));refine E6 (aS E a0) kR (A2v vi w _ (hwi.rd.mono qS) (hb:=hwi.b256) qO (mA h4)) E ?_;refine A2 (A1N (ws:=Q2 (ws.take i)) (ws':=mark w) E E E E (by have:i * 16777300<=1000 * 16777300:=Au _ qO; omega)) E ?_;rw [<- hst];refine as_ (C6 (nb (nx (E8 0 8 32 33 34) (C2 ?_))));refine A2 (D7 ((i+1:Nat):Int) E E (F7 qO qO qO)) E ?_;refine mv_ (C6 ?_);exact rn (i+1) ⟨hlt,by rw [hst,An,Nat.add_mul]; omega⟩ qO (E8 0 8 32 33 34) .rfl qI
 .
  have hge:i=ws.length:=by simp at hc; omega
  subst hge;rw [List.take_length] at hml ⊢;refine D9 (te (re (be E (nx (D2 0 8) (A1 (mv_ ?_))))));refine A2 (E7 E) E ?_;refine A2 (qf_ 3 3) E ?_;refine A2 ql_ E ?_;refine mv_ ?_;refine A2 (F1 (place:=λ x=>#[(0,1),(1,1),(2,1),(3,1)][x]?) (z:=[.int .u8 0,vS,.string ByteArray.empty,.int .i64 0]) (λ _=>by kernel_rfl) (eS E (eS E e0)) (bdS 0 1 E qR (bdS 2 1 E qR bd0))) E ?_;refine A3 E (D0 (Mc:=MT) (R:=_) (aS E (aS E a0)) kR qP (S9 bt bm s.ts (vS) (B0d ws) MT _ hT hn Rd.nil (A5F (A5b hlt0) (by have:ws.length * 16777300<=1000 * 16777300:=Au _ hwl0; omega)) (mA h4)) E ?_);rintro v49 M49 J49 ⟨rfl,rfl,hT49⟩;refine A3 E (E2 (aS E a0) kR (V4 _ _) E ?_);rintro v50 M50 J50 ⟨rfl,h50⟩;refine as_ (A0 (D5 4) (C0 ?_));exact ⟨_,(pb,blk [.int .u8 1,sv,.int .i64 (((s.n:Nat):Int)),(vP bt)] 102)::(B++M49),[],I0 E E,(Cg (Ch (B:=[_]) qP (Ch qP (Cf qP)))),⟨sv,B,M49,by rw [show md (A2a s ws).real=1 by rw [A4m hr]; show md s.real=1; rw [hr]; rfl,A4m hr],by rw [A4m hr]; exact hby,by rw [A4m hr]; exact hT49⟩,by rw [B3i hr]; exact h50.mono qS⟩
theorem C2c(pb:Nat)(s:Ps)(hr:s.real=true)(u:Value)(ws:List (LN))(MP A:Mem)(hP:Prm pb s MP)(hu:LsV A u ws)(hwl0:ws.length<=100)(hlt0:∀ w∈ws,∀ x∈w,x < 256)(hG:Glb A):FnX Tryz.prog 44 [(vP pb),u] MP A λ q M J=>Prm pb (A2a s ws) M∧By J q (A2K s ws):=by
 obtain ⟨sv,bt,bm,B,MT,rfl,hby,hT⟩:=hP.ex;have hmd:md s.real=0:=by rw [hr]; rfl
 rw [hmd] at *;haveI:=hby.cel;obtain ⟨⟨ge0,gf0,h0⟩,⟨ge1,gf1,h1⟩,⟨ge4,gf4,h4⟩⟩:=hG;obtain ⟨us,hus,hls⟩:=hu.ex;haveI:=hus.cel;refine Cl (N:=51) Tryz.func44 E E E λ w_=>?_;refine A9 (D2 0 1) (A1 (as_ (A0 (D2 0 1) (A4 (A1 (mv_ ?_))))));refine A2 (F6 (e:=102) E E kR) E ?_;refine A0 (D6 0 1 12) ?_;refine C9 E ?_;refine A6 (nx (D2 0 1) (A4 (A1 (mv_ ?_))));refine A2 (E7 E) E ?_;refine A2 (qf_ 0 0) E ?_;refine A2 ql_ E ?_;refine A2 (F0 E E E) E ?_;refine A0 (D6 0 1 17) ?_;refine E1 E ?_;refine A1 (as_ (A0 (D2 1 5) (A4 (A1 (mv_ ?_)))));refine A2 (G6 (sz:=1) E kR hus) E ?_;refine mv_ (A0 (D8 5 18 19 20) (A8 ?_));refine E5 (α:=Nat×Value×Mem) (λ y=>[(5,y.2.1),(18,u),(19,(vI ws.length)),(20,(vI y.1))]) (λ y=>y.2.2++((pb,blk [.int .u8 0,sv,.int .i64 (((s.n:Nat):Int)),(vP bt)] 102)::(B++MT))) (λ _=>[]) (λ y=>y.1<=ws.length∧(Q2 (ws.take y.1)).length<=y.1 * 16777300∧Sl 1 y.2.1 (Q2 (ws.take y.1)).length (nums .u8 (Q2 (ws.take y.1))) y.2.2) (λ y=>ws.length - y.1) (0,vS,[]) ⟨Am _,Am _,Sl.nil⟩ (D8 5 18 19 20) .rfl qI ?_;rintro ⟨i,va,Ba⟩ ⟨hi,hml,hsa⟩;dsimp only at hi hml hsa ⊢;haveI:=hsa.cel;refine A1 ?_;refine A2 (F0 E E E) E ?_;refine A0 (E8 5 18 19 20 21) (A4 ?_);refine C4 E ?_ ?_ <;> intro hc
 .
  have hlt:i < ws.length:=by simp at hc; omega
  obtain ⟨w,hw⟩:∃ w,ws[i]? = some w:=⟨_,Ab hlt⟩
  obtain ⟨vi,hvi,hwi⟩:=hls.get i w hw;haveI:=hwi.cel;have hst:=A3e hw;have hmk:=A1y w (by have:=hwi.len; omega);have hwl:=hwi.len;refine A6 (nx (D8 5 18 19 20) (A4 (A8 (A1 ?_))));refine A2 (H4 (sz:=1) E E kR E hus hlt) E ?_;refine A2 (Y9 (j:=i) (u:=vi) (hus.mono qS) E kR hvi) E ?_;refine as_ (A0 (E8 5 7 18 19 20) (C2 (mv_ (mv_ ?_))));refine E6 (aS E a0) kR (A2v vi w _ (hwi.rd.mono qS) (hb:=hwi.b256) qO (mA h4)) E ?_;refine A3 E (B3h (e:=5) (ws:=mark w) E E kR kR (by haveI:=hwi.b256; exact (inferInstance:B256 (mark w)).lt) hsa qP (by have:i * 16777300<=100 * 16777300:=Au _ qO; omega) E λ v27 B27 hs27=>?_);haveI:=hs27.cel;refine as_ (C6 (nb (nx (D8 5 18 19 20) (C2 ?_))));refine A2 (D7 ((i+1:Nat):Int) E E (F7 qO qO qO)) E ?_;refine mv_ (C6 ?_);exact rn (i+1,v27,B27) ⟨hlt,by dsimp only; rw [hst,An,Nat.add_mul]; omega,by dsimp only; rw [hst]; exact W6 hs27 (by rw [An]) (by rw [H8])⟩ (by dsimp only; omega) (D8 5 18 19 20) (Ce qM) qI
 .
  have hge:i=ws.length:=by simp at hc; omega
  subst hge;rw [List.take_length] at hml hsa;refine D9 (te (re (be E (nx (D5 5) (A1 (mv_ ?_))))));refine A3 E (C5 (e:=28) (sz:=1) (z:=[vS]) kR (eS E e0) (bdS 0 1 E qR bd0) E λ b30=>?_);refine C7 (aS E a0) kR (A1w _ [Q2 ws] _ (B0N.of (Co (n:=1) Cc qR) E (.cons (A5b hlt0) (hsa.rd qS) .nil)) (by simp; have:ws.length * 16777300<=100 * 16777300:=Au _ hwl0; omega) qM (mA h0) (mA h1)) E ?_;rintro v31 M31 J31 ⟨rfl,hs31⟩;haveI:=hs31.cel;rw [show [Q2 ws].flatten=Q2 ws by simp] at hs31;refine as_ (A0 (D5 4) (C0 (tr ?_)));exact ⟨_,(pb,blk [.int .u8 0,sv,.int .i64 (((s.n:Nat):Int)),(vP bt)] 102)::(B++MT),M31,I0 E E,Cg (Ch qP (Cf qP)),⟨sv,bt,bm,B,MT,by rw [A54 hr,show md s.real=0 by rw [hr]; rfl],by rw [A54 hr]; exact hby,by rw [A54 hr]; exact hT⟩,by rw [A55 hr]; exact ⟨by rw [A0e]; exact hs31.rd qS,A6C _,by rw [A0e]; decide⟩⟩
theorem B9I(pb:Nat)(s:Ps)(u:Value)(ws:List (LN))(MP A:Mem)(hP:Prm pb s MP)(hn:s.ts.length<=1048576)(hu:LsV A u ws)(hwl0:ws.length<=100)(hlt0:∀ w∈ws,∀ x∈w,x < 256)(hG:Glb A):FnX Tryz.prog 44 [(vP pb),u] MP A λ q M J=>Prm pb (A2a s ws) M∧By J q (A2K s ws):=by
  cases hr:s.real with
  | true=>exact C2c pb s hr u ws MP A hP hu hwl0 hlt0 hG
  | false =>
    obtain ⟨bt,bm,hT⟩:=hP.t
    exact (C2b pb bt bm s hr u ws MP A hT hn hu qO hlt0 hG).mono λ q M J h=>⟨h.1.p,h.2⟩

theorem B3j(a b:LN):mark a++mark b=A05 [a,b]:=by simp [A05]
theorem B6t(bt bm:Nat)(ts:List Tm)(v:Value)(w:LN)(j:Nat)(MT A:Mem)(hT:Tab bt bm ts MT)(hsub:∀ x,x∈MT->x∈A)(hn:ts.length<=1048576)(hv:By A v w)(hj:plc w ts.length=some j):FnV Tryz.prog 83 [(vP bt),v] A (vI j):=by haveI:=hv.cel;refine Ck (N:=20) Tryz.func83 E E E λ w_=>?_;refine A9 (D2 0 1) (A1 (as_ (A0 (D2 0 1) (A4 (A1 (mv_ (mv_ ?_)))))));refine E6 (aS E (aS E a0)) kR (A0L bt bm ts v w MT _ hT (λ x hx=>qS _ (hsub x hx)) hn (hv.rd.mono qS) hv.lt hv.max) E ?_;rw [hj,Option.getD_some,Option.isSome_some];refine mv_ ?_;refine A2 (Y8 E) E ?_;refine A2 (Y4 E) E ?_;refine as_ (as_ (A0 (D8 0 1 5 6) (A1 (mv_ (A0 (D8 0 1 5 13) ?_)))));refine E1 E ?_;refine A1 (mv_ (as_ (A0 (D5 4) (C0 (tr ?_)))));exact ⟨_,[],[],I0 E E,Aa _,by simp,E,E,E⟩
theorem B6u(pb bt bm:Nat)(m k:Int)(sv:Value)[hsv:Cel sv [sv]](ts:List Tm)(v:Value)(w:LN)(j:Nat)(MT A:Mem)(hT:Tab bt bm ts MT)(hsub:∀ x,x∈MT->x∈A)(hpb:(pb,blk [.int .u8 m,sv,.int .i64 k,(vP bt)] 102)∈A)(hn:ts.length<=1048576)(hv:By A v w)(hj:plc w ts.length=some j):FnV Tryz.prog 51 [(vP pb),v] A (vI j):=by haveI:=hv.cel;refine Ck (N:=11) Tryz.func51 E E E λ w_=>?_;refine A9 (D2 0 1) (A1 (as_ (A0 (D2 0 1) (A1 (mv_ ?_)))));refine A2 (E7 E) E ?_;refine A2 (qf_ 3 3) E ?_;refine A2 (I2 E kR (mA hpb) qR) E ?_;refine mv_ ?_;refine E6 (aS E (aS E a0)) kR (B6t bt bm ts v w j MT _ hT (λ x hx=>qS _ (hsub x hx)) hn (hv.mono qS) hj) E ?_;refine as_ (A0 (D5 4) (C0 ?_));exact ⟨_,[],[],I0 E E,Aa _,by simp,E,E,E⟩

theorem A2b(v:Value)(w:LN)(A:Mem)(h:By A v w):FnX Tryz.prog 94 [v] [] A λ r M J=>M=[]∧By J r w:=by
 haveI:=h.cel;have hwl:=h.len;refine Cl (N:=8) Tryz.func94 E E E λ w_=>?_;refine A9 (D5 0) (A1 (as_ (A0 (D5 0) (A4 (A1 (mv_ ?_))))));refine A2 (A1h (e:=5) E kR (by first | assumption | exact Sl.rd (by assumption) qI | exact By.rd (by assumption))) E ?_;refine A0 (D2 0 4) ?_;refine C4 E ?_ ?_ <;> intro hc
 . have h0:=h.rd.isNil hc;obtain rfl:w=[]:=Bd h0;refine A1 (as_ (A0 (D5 2) (C0 (tr ?_))));exact ⟨_,[],[],I0 E E,qZ,E,By.nil⟩
 . refine A6 (nx (D5 0) (A1 ?_));refine A3 E (C5 (e:=5) (sz:=1) (z:=[]) kR e0 bd0 E λ b5=>?_);refine mv_ ?_;refine A3 E (H5 (e:=5) (sz:=1) (by_:=1) E E kR E (Sl.fresh (n:=0) (cs:=[]) (e:=5) E qD) (h.rd.mono qS) E9 qP (by unfold maxLen; omega) qO E λ v7 B7 hs7=>?_);refine as_ (A0 (D5 2) (C0 ?_));exact ⟨_,[],B7,I0 E E,Ch qP qZ,E,⟨A0x (hs7.rd λ x hx=>by simp [hx]) qO qM,h.lt,h.len⟩⟩
theorem B0e(v:Value)(rows:List (List Value))(f:FuncId)(cs:List Value)(p:Nat->Bool)(A:Mem)(hv:Rd A 3 v rows.length rows.flatten)(hl:∀ r∈rows,r.length=3)(hn:rows.length<=1099511627776)(hc_:L0 Tryz.prog f=true)(hf:∀ (j:Nat) (r:List Value),rows[j]? = some r->FnV Tryz.prog f (.agg r.toArray::cs) A (.bool (p j))):FnV Tryz.prog 129 [v,.func (.func f) #[] cs.toArray] A (.int .i64 (A65 p rows.length)):=by
 haveI:=hv.cel;refine Ck (N:=19) Tryz.func129 E E E λ w=>?_;refine A9 (D2 0 1) (A1 (as_ (A0 (D2 0 1) (A4 (A1 (mv_ ?_))))));refine A2 (G6 (sz:=3) E kR hv) E ?_;refine mv_ (A0 (D8 0 1 7 8) (A8 ?_));refine E5 (α:=Nat) (λ i=>[(0,v),(1,.func (.func f) #[] cs.toArray),(7,(vI rows.length)),(8,.int .i64 (i:Int))]) (λ _=>[]) (λ _=>[]) (λ i=>i<=rows.length∧∀ j,j < i->p j=false) (λ i=>rows.length - i) 0 ⟨Am _,λ j h=>absurd h (Nat.not_lt_zero j)⟩ (D8 0 1 7 8) .rfl qI ?_;rintro i ⟨hi,hp⟩;refine A1 ?_;refine A2 (F0 E E E) E ?_;refine A0 (E8 0 1 7 8 9) (A4 ?_);refine C4 E ?_ ?_ <;> intro hc
 .
  have hlt:i < rows.length:=by simp at hc; omega
  obtain ⟨r,hr⟩:∃ r,rows[i]? = some r:=⟨_,Ab hlt⟩
  refine A6 (nx (D8 0 1 7 8) (A4 (A8 (A1 (mv_ (as_ (A0 (E8 0 1 5 7 8) (A1 ?_))))))));refine mv_ (mv_ (mv_ ?_));refine A2 (H4 (sz:=3) E E kR E hv hlt) E ?_;refine A2 (A0K E kR (hv.mono qS) hl qD hr) E ?_;refine A3 E (A1C E (aS E a0) hc_ (hf i r hr) E ?_);refine A0 (H1 0 1 5 7 8 16) ?_;refine C4 E ?_ ?_ <;> intro hc
  . refine A1 (mv_ (as_ (A0 (D5 4) (C0 (br (tr (rr (br ?_))))))));refine tr ?_;exact ⟨_,[],[],I0 E E,Aa _,by simp,by rw [A1n hlt hp hc],E,E⟩
  . refine A6 (nb (nx (D8 0 1 7 8) (C2 ?_)));refine A2 (K7 (b:=1) E E E E qO) E ?_;refine mv_ (C6 ?_);exact rn (i+1) ⟨hlt,λ j hj=>by rcases Nat.lt_succ_iff_lt_or_eq.1 hj with h | h; exact hp j h; rw [h]; exact hc⟩ qO (D8 0 1 7 8) .rfl qI
 .
  have hge:i=rows.length:=by simp at hc; omega
  subst hge;refine D9 (te (re (be E (nx kn (A1 (as_ (A0 (D5 4) ?_)))))));refine C0 ?_;exact ⟨_,[],[],I0 E E,Aa _,by simp,by rw [A1o hp],E,E⟩
theorem A4n(b o cap n i j:Nat)(cs xs:List Value)(e:TypeId)(A:Mem)(hn:n<=cap)(hcap:cap<=maxLen)(hfit:o+cap * 3<=cs.length)(hl:xs.length=n * 3)(hx:∀ j u,xs[j]? = some u->cs[o+j]? = some u)
    (h1:∀ c∈xs,c.oneCell'=true) (hij:i < j) (hjn:j<=n) :
    FnX Tryz.prog 99 [.slice (some ⟨b,o,none⟩) n cap,.int .i64 i,.int .i64 j] [(b,blk cs e)] A
      λ v M J=>J=[]∧Sl 3 v (n - (j - i)) (xs.take (i * 3)++xs.drop (j * 3)) M:=by
  refine Ck (N:=33) Tryz.func99 E E E λ w=>?_;refine A9 (D6 0 1 2) (A1 (as_ (A0 (D6 0 1 2) (A1 (mv_ (mv_ (mv_ (mv_ ?_))))))));refine A2 (A0Z (e:=145) E kR) E ?_;refine A2 (A2S (e:=145) (sz:=3) E kR kR (o1 i E E) (o1 j E E) (o1 n E E) qM (by simp; omega) (by simp; omega) (by simp; omega)) E ?_;refine A0 (D6 0 1 2) (A4 (A1 (mv_ (mv_ ?_))));refine A2 (F0 E E E) E ?_;refine A0 (D8 0 1 2 16) ?_;refine C4 E ?_ ?_ <;> intro hc
  . simp at hc; omega
  .
    refine A6 (nx (D6 0 1 2) (A1 (mv_ ?_)));refine A2 (A0Z (e:=145) E kR) E ?_;refine as_ (A0 (D8 0 1 2 7) ?_);refine A1W ([]) [] [(0,0),(1,0),(2,0),(3,0),(4,0),(5,0),(6,2),(7,0)] kR kR qM λ hs=>?_;refine L9 hs E qm_ E ?_;refine L9 hs E qm_ E ?_;refine L9 hs E (B6Z (h:=i) (e:=145) (sz:=3) E E kR kR E qO) E ?_;refine L9 hs E qm_ E ?_;refine L9 hs E qm_ E ?_;refine L9 hs E (B61 (h:=j) (e:=145) (sz:=3) E E kR kR E qO qO) E ?_;refine A1X E E E (B0A (e:=145) (sz:=3) (by_:=56) (m:=n - j) (cs:=cs) E E kR ((Rd.lo ⟨_,cap,E,hl,hn,.inr ⟨b,o,cs,e,(0,0),E,m0,hx⟩⟩ j hjn)) (λ c hc=>h1 c (List.mem_of_mem_drop hc)) qO hfit E Cs E ?_);refine L9 hs E (G4 E) E ?_;refine A3G (D2 0 7) ?_;refine A1 (mv_ (mv_ ?_));refine A2 (A0Z (e:=145) E kR) E ?_;refine mv_ ?_;refine A2 (B8c (lo:=i+(n - j)) (hi:=n) (e:=145) (sz:=3) E E E kR kR E E qO qO qO) E ?_;refine A3 E (B0B (e:=145) (sz:=3) (by_:=56) (zs:=(Builtin.zeroCells #[vS,.int .u32 0,vS] (n - (i+(n - j)))).toList) E kR kR (A2g (by simp [Value.oneCell']) qM _) ?h1 E Cs ?_)
    case h1=>simp [hl]; omega
    refine A0 (D5 0) (A1 (mv_ (as_ (A0 (D5 6) (C0 ?_)))));refine ⟨_,_,[],I0 E E,Ao _,by simp,E,?_⟩;show Sl 3 _ (n - (j - i)) _ _;rw [show n - (j - i)=i+(n - j) from by omega];have hd:(xs.drop (j * 3)).length=(n - j) * 3:=by simp [hl]; omega
    refine .inr ⟨b,o,cap,_,e,E,E,by omega,hcap,?_,?_,?_⟩
    . simp [hl,Builtin.zeroCells]; omega
    . simp [hl]; omega
    . intro q u hq;have hlt:q < (i+(n - j)) * 3:=by have:=(Ac.1 hq).1; simp [hl] at this; omega
      rw [A09 (by simp [hl]; omega) qO];by_cases hqi:q < i * 3
      . rw [A09 qO qO];rw [Ak (by simp [hl]; omega),Cb hqi] at hq;exact hx q u hq
      . rw [A1u qO qO qO];rw [Aq (by simp [hl]; omega)] at hq;rw [<- hq];congr 1;simp [hl]; omega
theorem B0f(v:Value)(n:Nat)(xs:List Value)(A:Mem)(h:Rd A 3 v n xs)(h1:∀ c∈xs,c.oneCell'=true)(hn:n<=1099511627776):FnX Tryz.prog 101 [v] [] A λ r M J=>Sl 3 r n xs M:=by
 haveI:=h.cel;refine Cl (N:=8) Tryz.func101 E E E λ w_=>?_;refine A9 (D5 0) (A1 (as_ (A0 (D5 0) (A4 (A1 (mv_ ?_))))));refine A2 (A1h (e:=145) E kR (by first | assumption | exact Sl.rd (by assumption) qI | exact By.rd (by assumption))) E ?_;refine A0 (D2 0 4) ?_;refine C4 E ?_ ?_ <;> intro hc
 . have h0:=h.isNil hc;subst h0;obtain rfl:xs=[]:=Bd (by have:=h.len; omega);refine A1 (as_ (A0 (D5 2) (C0 (tr ?_))));exact ⟨_,[],[],I0 E E,qZ,Sl.nil⟩
 . refine A6 (nx (D5 0) (A1 ?_));refine A3 E (C5 (e:=145) (sz:=3) (z:=[]) kR e0 bd0 E λ b5=>?_);refine mv_ ?_;refine A3 E (H5 (e:=145) (sz:=3) (by_:=56) E E kR E (Sl.fresh (n:=0) (cs:=[]) (e:=145) E qD) (Rd.mono h qS) h1 qP (by unfold maxLen; omega) qO E λ v7 B7 hs7=>?_);refine as_ (A0 (D5 2) (C0 ?_));exact ⟨_,B7,[],I0 E E,Cg (Cf qP),by simpa using hs7⟩

structure Skp where
  of:LN
  n:Nat
  key:LN
deriving DecidableEq
def skR(R:Mem)(s:Skp)(r:List Value):Prop:=∃ vo vk,r=[vo,(vU s.n),vk]∧By R vo s.of∧By R vk s.key∧s.n < 4294967296
theorem skT:RowT 3 skR:=⟨λ R R' x r hR ⟨vo,vk,h1,h2,h3,h4⟩=>⟨vo,vk,h1,h2.mono hR,h3.mono hR,h4⟩,λ R x r ⟨vo,vk,h1,_⟩=>by rw [h1]; rfl,λ R x r ⟨vo,vk,h1,h2,h3,_⟩ c hc=>by
  rw [h1] at hc;simp only [List.mem_cons,List.not_mem_nil,or_false] at hc;rcases hc with rfl | rfl | rfl
  . exact h2.one
  . rfl
  . exact h3.one⟩
structure Sto(R:Mem)(sb:Nat)(sks:List Skp)(M:Mem):Prop where
  ex:∃ v rows B,M=(sb,blk [v] 121)::B∧Sl 3 v sks.length rows.flatten B∧RwL skR R rows sks
theorem Sto.mono{R R':Mem}{sb:Nat}{sks:List Skp}{M:Mem}(h:Sto R sb sks M)(hR:∀ x,x∈R->x∈R'):Sto R' sb sks M:=by obtain ⟨v,rows,B,h1,h2,h3⟩:=h.ex;exact ⟨v,rows,B,h1,h2,h3.mono skT hR⟩
def tst(of:LN)(n:Nat)(s:Skp):Bool:=decide (s.n=n) && decide (s.of=of)
def A56(sks:List Skp)(of:LN)(n:Nat):List Skp:=if V6 (tst of n) sks < 0 then sks else sks.eraseIdx (V6 (tst of n) sks).toNat
def B7G(sks:List Skp)(x:Skp):List Skp:=(A56 sks x.of x.n++[x]).drop ((A56 sks x.of x.n++[x]).length - 32)
variable{of:LN}{n:Nat}
theorem A4o{sks:List Skp}(h:V6 (tst of n) sks = -1):A56 sks of n=sks:=if_pos (by rw [h]; decide)
theorem A2L{sks:List Skp}(h:V6 (tst of n) sks=(i:Int)):A56 sks of n=sks.eraseIdx i:=by unfold A56; rw [h,if_neg qO,Int.toNat_natCast]
theorem A9i(sks:List Skp)(of:LN)(n:Nat):(A56 sks of n).length<=sks.length:=by
  unfold A56; split
  . exact Av _
  . exact List.length_eraseIdx_le _ _
theorem B6v(sks:List Skp)(x:Skp):(B7G sks x).length<=32:=by unfold B7G; rw [Bg]; omega
theorem B6w(vo vk vof:Value)(s:Skp)(of:LN)(n:Nat)(b4 b5:Nat)(A:Mem)(ho:By A vo s.of)(hk:By A vk s.key)(hof:By A vof of)(hb5:(b5,blk [(vU n)] 31)∈A)(hb4:(b4,blk [vof] 28)∈A):FnV Tryz.prog 130 [.agg #[vo,(vU s.n),vk],(vP b5),(vP b4)] A (.bool (tst of n s)):=by
 haveI:=ho.cel;haveI:=hk.cel;haveI:=hof.cel;refine Ck (N:=15) Tryz.func130 E E E λ w=>?_;refine A9 (D6 0 1 2) (A1 ?_);refine A3 E (bx_ λ b3=>?_);refine as_ (A0 (D6 1 2 3) (A1 ?_));refine A2 (qf_ 1 1) E ?_;refine A2 ql_ E ?_;refine A2 (I2 E kR (mA hb5) qR) E ?_;refine A2 (F0 E E E) E ?_;refine mv_ ?_;refine X3 (t:=9) E (λ hb=>?_) (λ hb=>?_)
 .
  have hnn:s.n=n:=by simp at hb; omega
  refine F3 E E (Cn (qf_ 0 0) E ?_);refine F3 E E (Cn ql_ E ?_);refine F3 E E (Cn (I2 E kR (mA hb4) qR) E ?_);refine A6F E E (aS E (aS E a0)) kR (A0u vo vof s.of of _ (ho.mono qS) (hof.mono qS)) E ?_;refine A2 (G8 E E) E ?_;refine as_ (A0 (D5 4) (C0 ?_));exact ⟨_,[],[],I0 E E,Aa _,by simp,by unfold tst; rw [hnn]; simp,E,E⟩
 .
  have hnn:s.n≠n:=by simp at hb; omega
  refine K3 E E E E ?_;refine K3 E E E E ?_;refine K3 E E E E ?_;refine K3 E E E E ?_;refine A2 (F2 E E) E ?_;refine as_ (A0 (D5 4) (C0 ?_));exact ⟨_,[],[],I0 E E,Aa _,by simp,by unfold tst; simp [hnn],E,E⟩
theorem B6x{vof:Value}{sks:List Skp}{rows:List (List Value)}{b4 b5:Nat}{A:Mem}(hR:RwL skR A rows sks)(hof:By A vof of)(hb5:(b5,blk [(vU n)] 31)∈A)(hb4:(b4,blk [vof] 28)∈A) :
    ∀ (j:Nat) (r:List Value),rows[j]? = some r->FnV Tryz.prog 130 (.agg r.toArray::[(vP b5),(vP b4)]) A (.bool ((λ j=>(sks[j]?.map (tst of n)).getD false) j)):=λ j r hr=>by
  obtain ⟨s,hs,vo,vk,rfl,ho,hk,_⟩:=hR.of hr;dsimp only;rw [hs];exact B6w vo vk vof s of n b4 b5 _ ho hk hof hb5 hb4
theorem A4p(sb:Nat)(v vof:Value)(rows:List (List Value))(sks:List Skp)(of:LN)(n:Nat)(A:Mem)(hsb:(sb,blk [v] 121)∈A)(hv:Rd A 3 v sks.length rows.flatten)(hR:RwL skR A rows sks)(hl:sks.length<=1000000)(hof:By A vof of):FnV Tryz.prog 93 [(vP sb),vof,(vU n)] A (.int .i64 (V6 (tst of n) sks)):=by haveI:=hof.cel;haveI:=hv.cel;refine Ck (N:=15) Tryz.func93 E E E λ w=>?_;refine A9 (D6 0 1 2) (A1 ?_);refine A3 E (bx_ λ b4=>?_);refine A3 E (bx_ λ b5=>?_);refine as_ (A0 (D6 0 4 5) (A4 (A1 (mv_ ?_))));refine A2 (F6 (e:=121) E E kR) E ?_;refine A0 (D8 0 4 5 8) ?_;refine C9 E ?_;refine A6 (nx (D6 0 4 5) (A1 (mv_ ?_)));refine A2 (E7 E) E ?_;refine A2 (qf_ 0 0) E ?_;refine A2 (I2 E kR (mA hsb) qR) E ?_;refine A2 (A3z (aS E (aS E a0))) E ?_;refine E6 (aS E (aS E a0)) kR (B0e v rows 130 [(vP b5),(vP b4)] (λ j=>(sks[j]?.map (tst of n)).getD false) _ (by rw [hR.len]; exact hv.mono qS) (hR.lens skT) (by rw [hR.len]; omega) kR (B6x (hR.mono skT qS) (hof.mono qS) qM qM)) E ?_;refine as_ (A0 (D5 6) (C0 ?_));exact ⟨_,[],[],I0 E E,Aa _,by simp,by rw [hR.len]; rfl,E,E⟩

variable{R:Mem}
theorem B3k{M B B':Mem}(h:M.Perm (B++R))(hs:B'.Sublist B):Fit M B':=⟨_,h,hs.trans (Ay _ _)⟩
variable{v:Value}
theorem Sl.cast{sz n':Nat}{xs xs':List Value}{B:Mem}(h:Sl sz v n xs B)(h1:n=n')(h2:xs=xs'):Sl sz v n' xs' B:=by subst h1; subst h2; exact h
def A3f(sks:List Skp)(of:LN)(n:Nat):Option (LN):=if V6 (tst of n) sks < 0 then none else (sks[(V6 (tst of n) sks).toNat]?).map (·.key)
theorem A8a{sks:List Skp}(h:V6 (tst of n) sks = -1):A3f sks of n=none:=if_pos (by rw [h]; decide)
theorem A57{sks:List Skp}{x:Skp}(h:V6 (tst of n) sks=(i:Int))(hx:sks[i]? = some x):A3f sks of n=some x.key:=by unfold A3f; rw [h,if_neg qO,Int.toNat_natCast,hx]; rfl
theorem B6y(sb:Nat)(vof vk:Value)(sks:List Skp)(of key:LN)(n:Nat)(R MS A:Mem)(hS:Sto R sb sks MS)(hR:∀ x,x∈R->x∈A)(hl:sks.length<=1000000)(hof:By R vof of)(hk:By R vk key)(hn:n < 4294967296):FnX Tryz.prog 100 [(vP sb),.agg #[vof,(vU n),vk]] MS A λ q M J=>q=.tuple #[]∧Sto (J++R) sb (B7G sks ⟨of,n,key⟩) M:=by
  obtain ⟨v,rows,B,rfl,hsl,hrw⟩:=hS.ex;haveI:=hsl.cel;haveI:=hof.cel;haveI:=hk.cel;refine Cl (N:=59) Tryz.func100 E E E λ w_=>?_;refine A9 (D2 0 1) (A1 ?_);refine A3 E (bx_ λ b3=>?_);refine A0 (D2 0 3) (A4 (A1 (mv_ ?_)));refine A2 (F6 (e:=121) E E kR) E ?_;refine A0 (D6 0 3 6) ?_;refine C9 E ?_;refine A6 (nx (D2 0 3) ?_);refine P8 (α:=Value×List (List Value)×Mem) (λ x=>[(0,(vP sb)),(3,(vP b3))]) (λ x=>(b3,blk [vof,(vU n),vk] 145)::(sb,blk [x.1] 121)::x.2.2) (λ _=>[]) (λ x=>Sl 3 x.1 (A56 sks of n).length x.2.1.flatten x.2.2∧RwL skR R x.2.1 (A56 sks of n)) ?_ ?_
  .
    refine A1 (mv_ ?_);refine A2 (qf_ 0 0) E ?_;refine A2 ql_ E ?_;refine A2 (qf_ 1 1) E ?_;refine A2 ql_ E ?_;refine E6 (aS E (aS E (aS E a0))) kR (A4p sb v vof rows sks of n _ qM (hsl.rd qS) (hrw.mono skT (λ x hx=>mA (hR x hx))) hl (hof.mono (λ x hx=>mA (hR x hx)))) E ?_;refine as_ (A0 (D6 0 3 4) (A1 (mv_ ?_)));refine A2 (F0 E E E) E ?_;refine A0 (D8 0 3 4 14) ?_;refine C4 E ?_ ?_ <;> intro hc
    .
      obtain ⟨hf,hz⟩ | ⟨i,x,hf,hxi,hq,hmin⟩:=P0 (tst of n) sks
      . rw [hf] at hc; simp at hc
      have hil:=(Ac.1 hxi).1;rw [hf];obtain ⟨p,rfl,h0,_,_⟩ | ⟨b,o,cap,cs,e,rfl,rfl,g1,g2,g3,g4,g5⟩:=hsl
      . omega
      refine C2 (mv_ (mv_ ?_));refine A2 (E7 E) E ?_;refine A2 (qf_ 0 0) E ?_;refine A2 ql_ E ?_;refine mv_ (mv_ ?_);refine A2 (K7 (b:=1) E E E E qO) E ?_;refine A3 E (D0 (Mc:=[(b,blk cs e)]) (R:=_) (aS E (aS E (aS E a0))) kR qP (A4n b o cap sks.length i (i+1) cs rows.flatten e _ g1 g2 g3 g4 g5 (hrw.ones skT) qO qO) E ?_);rintro v23 M23 J23 ⟨rfl,hs23⟩
      have hsd:Sl 3 v23 (sks.eraseIdx i).length (rows.take i++rows.drop (i+1)).flatten M23:=by have h:=hs23;rw [A44 (hrw.lens skT)] at h;exact Sl.cast h (by rw [List.length_eraseIdx,if_pos hil]; omega) rfl
      haveI:=hsd.cel;refine A2 (E7 E) E ?_;refine A2 (qf_ 0 0) E ?_;refine A3 E (E4 E E hsd.one kR Cq Cs ?_);refine C6 ?_;exact jn (v23,rows.take i++rows.drop (i+1),M23) ⟨by rw [A2L hf]; exact hsd,by rw [A2L hf]; exact hrw.erase i⟩ (D2 0 3) (Ch (B:=[_]) qP (Ch (B:=[_]) qP (Cf qP))) (λ _ h=>by cases h)
    .
      have hf:V6 (tst of n) sks = -1:=by
        obtain ⟨hf,hz⟩ | ⟨i,x,hf,hxi,hq,hmin⟩:=P0 (tst of n) sks
        . exact hf
        . rw [hf] at hc; (simp at hc) <;> omega
      refine A6 ?_;exact jn (v,rows,B) ⟨by rw [A4o hf]; exact hsl,by rw [A4o hf]; exact hrw⟩ (D2 0 3) .rfl qI
  .
    rintro ⟨v1,rows1,B1⟩ ⟨hsl1,hrw1⟩;dsimp only at hsl1 hrw1 ⊢;haveI:=hsl1.cel;have hdl:=A9i sks of n;have hdd:B7G sks ⟨of,n,key⟩=List.drop ((A56 sks of n++[(⟨of,n,key⟩:Skp)]).length - 32) (A56 sks of n++[(⟨of,n,key⟩:Skp)]):=rfl;generalize A56 sks of n=ds at *;rw [An,List.length_singleton] at hdd;refine D1 [0,1,2,3,4,5,6,7,8,9,10,11,12,13,14,16,17] [(0,0),(1,0),(2,0),(3,0),(4,1),(5,0),(6,1),(8,0),(9,1),(10,0),(11,1),(7,2),(12,2),(13,0),(14,2),(15,2),(16,0),(17,0),(18,2)] kR kR λ hs=>?_;refine fm_ hs ?_;refine fm_ hs ?_;refine C8 hs E (E7 E) E ?_;refine C8 hs E (qf_ 0 0) E ?_;refine F9 hs E ql_ E ?_;refine C8 hs E (qf_ 0 0) E ?_;refine F9 hs E ql_ E ?_;refine C8 hs E (qf_ 1 1) E ?_;refine F9 hs E ql_ E ?_;refine C8 hs E (qf_ 2 2) E ?_;refine F9 hs E ql_ E ?_;refine G9 E (aS E a0) kR (A2b vof of _ (hof.mono (λ x hx=>mA (hR x hx)))) E ?_;rintro v33 M33 J33 ⟨rfl,h33⟩;haveI:=h33.cel;refine G9 E (aS E a0) kR (A2b vk key _ (hk.mono (λ x hx=>mA (hR x hx)))) E ?_;rintro v38 M38 J38 ⟨rfl,h38⟩;haveI:=h38.cel;refine C8 hs E (F1 (place:=λ x=>#[(0,1),(1,1),(2,1)][x]?) (z:=[vS,.int .u32 0,vS]) (λ _=>by kernel_rfl) (eS E (eS E (eS E e0))) (bdS 0 1 E qR (bdS 1 1 E qR (bdS 2 1 E qR bd0)))) E ?_
    refine B4M E E λ _=>(C5 (e:=145) (sz:=3) (z:=[vS,.int .u32 0,vS]) kR (eS E e0) (bdS 0 3 E qR bd0) E λ b40=>?_)
    refine G1 E E E (H5 (e:=145) (sz:=3) (by_:=56) E E kR E hsl1 (Co (n:=1) Cc qR) (by intro c hc; simp only [List.mem_cons,List.not_mem_nil,or_false] at hc; rcases hc with rfl | rfl | rfl; exact h33.one; rfl; exact h38.one) qP (by unfold maxLen; omega) qO E λ v41 B41 hs41=>?_);haveI:=hs41.cel;refine C8 hs E (E7 E) E ?_;refine C8 hs E (qf_ 0 0) E ?_;refine G1 E E E (E4 E E hs41.one kR Cq Cs ?_);obtain ⟨B42,hsub42,hs42⟩:=hs41.loV (ds.length+1 - 32) qO;refine E3 (D5 0) ?_;refine H7 (.range 15) (zp 0 [0,0,0,0,1,0,0,0,1,0,0,0,0,0,0,2]) kR kR λ hs=>?_;refine fm_ hs ?_;refine fm_ hs ?_;refine C8 hs E (E7 E) E ?_;refine C8 hs E (qf_ 0 0) E ?_;refine F9 hs E ql_ E ?_;refine fm_ hs ?_;refine C8 hs E (E7 E) E ?_;refine C8 hs E (qf_ 0 0) E ?_;refine F9 hs E ql_ E ?_;refine C8 hs E (G6 (sz:=3) E kR (hs41.rd (R:=B41) λ _ h=>h)) E ?_;refine C8 hs E (D7 (((ds.length+1:Nat):Int) - 32) E E (W5 qO qO qO)) E ?_;refine C8 hs E (B0D (((ds.length+1 - 32:Nat)):Int) E E (by split <;> omega)) E ?_;refine C8 hs E (A1M (sz:=3) (a:=ds.length+1 - 32) E E kR E (hs41.rd (R:=B41) λ _ h=>h) qO) E ?_;refine C8 hs E (E7 E) E ?_;refine C8 hs E (qf_ 0 0) E ?_;refine G1 E E E (E4 E E hs42.one kR Cq Cs ?_);refine R9 ?_;refine ⟨_,(sb,blk [vLo (ds.length+1 - 32) 3 v41] 121)::B42,[],A8p E,Cg (Ch (B:=[_]) qP (B3k (B:=B41) qP hsub42)),E,⟨_,(rows1++[[v33,(vU n),v38]]).drop (ds.length+1 - 32),B42,E,?_,?_⟩⟩
    . refine Sl.cast hs42 ?_ ?_
      . rw [hdd,Bg,An,List.length_singleton]
      . rw [<- A2h (s:=3) (by intro r hr; rcases List.mem_append.1 hr with h | h; exact hrw1.lens skT r h; rw [List.mem_singleton.1 h]; rfl)]; simp
    . rw [hdd];refine (RwL.snoc (x:=(⟨of,n,key⟩:Skp)) (r:=[v33,(vU n),v38]) (hrw1.mono skT (λ x hx=>Ai _ hx)) ⟨v33,v38,E,h33.mono (λ x hx=>?_),h38.mono (λ x hx=>?_),hn⟩).drop _ <;> simp [hx]
theorem B6z(sb:Nat)(v vof:Value)(rows:List (List Value))(sks:List Skp)(of:LN)(n:Nat)(A:Mem)(hsb:(sb,blk [v] 121)∈A)(hv:Rd A 3 v sks.length rows.flatten)(hrw:RwL skR A rows sks)(hl:sks.length<=1000000)(hof:By A vof of):FnX Tryz.prog 59 [(vP sb),vof,(vU n)] [] A λ q M J=>M=[]∧∃ u,q=.tuple #[u,.bool (A3f sks of n).isSome]∧By J u ((A3f sks of n).getD []):=by
 haveI:=hof.cel;haveI:=hv.cel;refine Cl (N:=24) Tryz.func59 E E E λ w_=>?_;refine A9 (D6 0 1 2) (A1 (as_ (as_ (A0 (D6 0 1 2) (A1 (mv_ (mv_ (mv_ ?_))))))));refine E6 (aS E (aS E (aS E a0))) kR (A4p sb v vof rows sks of n _ (mA hsb) (hv.mono qS) (hrw.mono skT qS) hl (hof.mono qS)) E ?_;refine as_ (A0 (D2 0 8) (A4 (A1 (mv_ ?_))));refine A2 (F0 E E E) E ?_;refine A0 (D6 0 8 14) ?_;refine C4 E ?_ ?_ <;> intro hc
 .
  have hf:V6 (tst of n) sks = -1:=by
   obtain ⟨hf,hz⟩ | ⟨i,x,hf,hxi,hq,hmin⟩:=P0 (tst of n) sks
   . exact hf
   . rw [hf] at hc; (simp at hc) <;> omega
  refine A1 (as_ (as_ (A0 (D2 6 7) (C0 (tr ?_)))));exact ⟨_,[],[],A1s E E E,qZ,E,_,by rw [A8a hf]; rfl,by rw [A8a hf]; exact By.nil⟩
 .
  obtain ⟨hf,hz⟩ | ⟨i,x,hf,hxi,hq,hmin⟩:=P0 (tst of n) sks
  . rw [hf] at hc; simp at hc
  have hil:=(Ac.1 hxi).1;rw [hf];obtain ⟨r,hr,vo,vk,rfl,ho,hk,hn⟩:=hrw.get i x hxi;haveI:=hk.cel;refine A6 (nx (D2 0 8) (A1 (mv_ ?_)));refine A2 (E7 E) E ?_;refine A2 (qf_ 0 0) E ?_;refine A2 (I2 E kR (mA hsb) qR) E ?_;refine mv_ ?_;refine A2 (H4 (sz:=3) E E kR E hv hil) E ?_;refine A2 (B1j (off:=2) E hv hil kR) E ?_;refine A2 (B1k (u:=vk) E (hv.mono qS) qO kR (by rw [A3m (hrw.lens skT) hr 2 qD]; rfl)) E ?_;refine C7 (aS E a0) kR (A2b vk x.key _ (hk.mono qS)) E ?_;rintro v23 M23 J23 ⟨rfl,h23⟩;haveI:=h23.cel;refine as_ (as_ (A0 (D2 6 7) (C0 ?_)));exact ⟨_,[],[],A1s E E E,qZ,E,_,by rw [A57 hf hxi]; rfl,by rw [A57 hf hxi]; exact h23.mono qS⟩
theorem B3l(sb:Nat)(vof:Value)(sks:List Skp)(of:LN)(n:Nat)(R MS A:Mem)(hS:Sto R sb sks MS)(hR:∀ x,x∈R->x∈A)(hl:sks.length<=1000000)(hof:By R vof of):FnX Tryz.prog 61 [(vP sb),vof,(vU n)] MS A λ q M J=>q=.bool (decide (V6 (tst of n) sks >= 0))∧Sto R sb (A56 sks of n) M:=by
 obtain ⟨v,rows,B,rfl,hsl,hrw⟩:=hS.ex;haveI:=hsl.cel;haveI:=hof.cel;refine Cl (N:=27) Tryz.func61 E E E λ w_=>?_;refine A9 (D6 0 1 2) (A1 (as_ (A0 (D6 0 1 2) (A1 (mv_ (mv_ (mv_ ?_)))))));refine E6 (aS E (aS E (aS E a0))) kR (A4p sb v vof rows sks of n _ qM (hsl.rd qS) (hrw.mono skT (λ x hx=>mA (hR x hx))) hl (hof.mono (λ x hx=>mA (hR x hx)))) E ?_;refine as_ (A0 (D2 0 7) ?_);refine P8 (α:=Value×List (List Value)×Mem) (λ x=>[(7,.int .i64 (V6 (tst of n) sks))]) (λ x=>(sb,blk [x.1] 121)::x.2.2) (λ _=>[]) (λ x=>Sl 3 x.1 (A56 sks of n).length x.2.1.flatten x.2.2∧RwL skR R x.2.1 (A56 sks of n)) ?_ ?_
 .
  refine A1 (mv_ ?_);refine A2 (F0 E E E) E ?_;refine A0 (D6 0 7 13) ?_;refine C4 E ?_ ?_ <;> intro hc
  .
   obtain ⟨hf,hz⟩ | ⟨i,x,hf,hxi,hq,hmin⟩:=P0 (tst of n) sks
   . rw [hf] at hc; simp at hc
   have hil:=(Ac.1 hxi).1;rw [hf];obtain ⟨p,rfl,h0,_,_⟩ | ⟨b,o,cap,cs,e,rfl,rfl,g1,g2,g3,g4,g5⟩:=hsl
   . omega
   refine C2 (mv_ (mv_ ?_));refine A2 (E7 E) E ?_;refine A2 (qf_ 0 0) E ?_;refine A2 ql_ E ?_;refine mv_ (mv_ ?_);refine A2 (K7 (b:=1) E E E E qO) E ?_;refine A3 E (D0 (Mc:=[(b,blk cs e)]) (R:=_) (aS E (aS E (aS E a0))) kR qP (A4n b o cap sks.length i (i+1) cs rows.flatten e _ g1 g2 g3 g4 g5 (hrw.ones skT) qO qO) E ?_);rintro v22 M22 J22 ⟨rfl,hs22⟩
   have hsd:Sl 3 v22 (sks.eraseIdx i).length (rows.take i++rows.drop (i+1)).flatten M22:=by have h:=hs22;rw [A44 (hrw.lens skT)] at h;exact Sl.cast h (by rw [List.length_eraseIdx,if_pos hil]; omega) rfl
   haveI:=hsd.cel;refine A2 (E7 E) E ?_;refine A2 (qf_ 0 0) E ?_;refine A3 E (E4 E E hsd.one kR Cq Cs ?_);refine C6 ?_;exact jn (v22,rows.take i++rows.drop (i+1),M22) ⟨by rw [A2L hf]; exact hsd,by rw [A2L hf]; exact hrw.erase i⟩ (D5 7) (Ch (B:=[_]) qP (Cf qP)) (λ _ h=>by cases h)
  .
   have hf:V6 (tst of n) sks = -1:=by
    obtain ⟨hf,hz⟩ | ⟨i,x,hf,hxi,hq,hmin⟩:=P0 (tst of n) sks
    . exact hf
    . rw [hf] at hc; (simp at hc) <;> omega
   refine A6 ?_;exact jn (v,rows,B) ⟨by rw [A4o hf]; exact hsl,by rw [A4o hf]; exact hrw⟩ (D5 7) .rfl qI
 . rintro ⟨v1,rows1,B1⟩ ⟨hsl1,hrw1⟩;dsimp only at hsl1 hrw1 ⊢;refine A1 (mv_ ?_);refine A2 (F0 E E E) E ?_;refine as_ (A0 (D5 6) (C0 ?_));exact ⟨_,_,[],I0 E E,Cg .rfl,E,⟨v1,rows1,B1,E,hsl1,hrw1⟩⟩
theorem B6A(sb k:Nat)(v:Value)(xs:List Value)(A:Mem)(hsb:(sb,blk [v] 121)∈A)(hv:Rd A 3 v k xs)(h1:∀ c∈xs,c.oneCell'=true)(hk:k<=1099511627776):FnX Tryz.prog 63 [(vP sb)] [] A λ q M J=>Sl 3 q k xs M:=by haveI:=hv.cel;refine Cl (N:=10) Tryz.func63 E E E λ w_=>?_;refine A9 (D5 0) (A1 (as_ (A0 (D5 0) (A4 (A1 (mv_ ?_))))));refine A2 (F6 (e:=121) E E kR) E ?_;refine A0 (D2 0 4) ?_;refine C9 E ?_;refine A6 (nx (D5 0) (A1 (mv_ ?_)));refine A2 (E7 E) E ?_;refine A2 (qf_ 0 0) E ?_;refine A2 (I2 E kR (mA hsb) qR) E ?_;refine C7 (aS E a0) kR (B0f v k xs _ (hv.mono qS) h1 hk) E ?_;rintro v9 M9 J9 hs9;haveI:=hs9.cel;refine as_ (A0 (D5 2) (C0 ?_));exact ⟨_,M9,[],I0 E E,Cg (Cf qP),hs9⟩
theorem B3m(sb k:Nat)(v:Value)(xs:List Value)(A:Mem)(hsb:(sb,blk [v] 121)∈A)(hv:Rd A 3 v k xs)(h1:∀ c∈xs,c.oneCell'=true)(hk:k<=1099511627776):FnX Tryz.prog 84 [(vP sb)] [] A λ q M J=>∃ cb u B,q=(vP cb)∧M=(cb,blk [u] 121)::B∧Sl 3 u k xs B:=by refine Cl (N:=7) Tryz.func84 E E E λ w_=>?_;refine A9 (D5 0) (A1 (as_ (A0 (D5 0) (A1 (mv_ ?_)))));refine C7 (aS E a0) kR (B6A sb k v xs _ (mA hsb) (hv.mono qS) h1 hk) E ?_;rintro v4 M4 J4 hs4;haveI:=hs4.cel;refine A2 (F1 (place:=λ x=>#[(0,1)][x]?) (z:=[vS]) (λ _=>by kernel_rfl) (eS E e0) (bdS 0 1 E qR bd0)) E ?_;refine A3 E (bx_ λ b6=>?_);refine as_ (A0 (D5 2) (C0 ?_));exact ⟨_,(b6,_)::M4,[],I0 E E,Cg (Ch (B:=[_]) qP (Cf qP)),b6,v4,M4,E,E,hs4⟩

def A58:LN:=[115,116,101,112]
def A1p(s:Ps)(key:LN):Ps:=B0s s key [] A58 2
def cstL(s:Ps)(key:LN):List (LN):=B0t s key [] A58 2
def A7k(s:Ps)(key:LN):LN:=(cstL s key).getD 0 []
def B3n(s:Ps)(key:LN):LN:=(cstL s key).getD 1 []
theorem A9j(s:Ps)(key:LN)(ws:List (LN))(lb:LN)(n:Nat):(B0t s key ws lb n).length=n:=by
  unfold B0t;split
  . exact A5G _ _
  . exact (A2C _ _ _ _).1
theorem B3o{ls:List (LN)}(h:LsV R v ls)(hl:ls.length=2):∃ vs u0 u1,Rd R 1 v 2 vs∧vs[0]? = some u0∧vs[1]? = some u1∧By R u0 (ls.getD 0 [])∧By R u1 (ls.getD 1 []):=by
  obtain ⟨vs,h1,h2⟩:=h.ex;obtain ⟨u0,a0,b0⟩:=h2.at (j:=0) qO;obtain ⟨u1,a1,b1⟩:=h2.at (j:=1) qO;rw [hl] at h1;refine ⟨vs,u0,u1,h1,a0,a1,?_,?_⟩
  . rw [Aj,Ab qO]; exact b0
  . rw [Aj,Ab qO]; exact b1
theorem B7H{P:Program}{fn:Func}{l:Env}{t u b:Nat}{ty:TypeId}{cs:List Value}{e:TypeId}{fr:Nat×Nat}(h:fn.results=#[.tmp u,.cell t ty])(hv:lk l t=some (vP b))(hu:lk l u=some v)(ht:A5i P ty=some n)
    (hb:(b,Obj.cells cs.toArray e fr)∈R) (hn:cs.length=n):Res P fn l R (.tuple #[v,.agg cs.toArray]):=λ N a w ha hw=>by
  obtain ⟨dsc,h1,h2,h3⟩:=R5 ht;have hl:=run_loadVar_row (P:=P) w b e ty cs.toArray fr dsc (hw b _ hb) h1 (by cases dsc <;> simp_all [TypeDesc.isRow]) (by rw [h3,<- hn]; simp);simp [results,h,ha.slot t _ hv,ha.slot u _ hu,asAddr,hl]
theorem A4q(pb:Nat)(s:Ps)(kv:Value)(key:LN)(n:Nat)(MP A:Mem)(hP:Prm pb s MP)(hk:By A kv key)(hn:s.ts.length<=1040000)(hG:Glb A):FnX Tryz.prog 53 [(vP pb),.agg #[kv,(vU n)]] MP A λ q M J=>∃ v1 v2,q=.tuple #[v1,.agg #[v2,.int .u32 (((n+1) % 4294967296:Nat):Int)]]∧Prm pb (A1p s key) M∧By J v1 (A7k s key)∧By J v2 (B3n s key):=by haveI:=hk.cel;refine Cl (N:=25) Tryz.func53 E E E λ w_=>?_;refine A9 (D2 0 1) (A1 ?_);refine A3 E (B4u E Cd E λ b3=>?_);refine as_ ?_;refine A3 E (C3 (cs:=[vS,.int .u32 0]) kR E λ b5=>?_);refine A0 (D6 0 3 5) (A1 (mv_ ?_));refine A2 (qf_ 0 0) E ?_;refine A2 (I2 (v:=kv) E kR Cc qR) E ?_;refine A3 E (D0 (Mc:=MP) (R:=_) (aS E (aS E (aS E (aS E (aS E a0))))) kR qP (A16 pb s kv (vS) key A58 [] 2 MP _ hP (hk.mono qS) LsV.nil qD ⟨by decide⟩ qD qD qD hn hG.up) E ?_);rintro v10 M10 J10 ⟨hP10,hL10⟩;have hlen:=A9j s key [] A58 2;obtain ⟨us,u0,u1,hr,hu0,hu1,hb0,hb1⟩:=B3o hL10 hlen;haveI:=hr.cel;haveI:=hb0.cel;haveI:=hb1.cel;refine as_ (A0 (D6 3 5 6) (A4 (A1 (mv_ ?_))));refine A2 (G6 (sz:=1) E kR hr) E ?_;refine A2 (F5 false E E (neF E)) E ?_;refine A0 (D8 3 5 6 13) ?_;refine C9 E ?_;refine A6 (nx (D6 3 5 6) ?_);refine D1 (.range 11) (zp 0 [0,0,1,0,0,1,0,1,0,0,0,2]) kR kR λ hs=>?_;refine fm_ hs ?_;refine C8 hs E (H4 (sz:=1) (a:=0) E E kR E hr qD) E ?_;refine F9 hs E (Y9 (u:=u0) (hr.mono qS) E kR hu0) E ?_;refine fm_ hs ?_;refine C8 hs E (H4 (sz:=1) (a:=1) E E kR E hr qD) E ?_;refine F9 hs E (Y9 (u:=u1) (hr.mono qS) E kR hu1) E ?_;refine C8 hs E (qf_ 1 1) E ?_;refine F9 hs E ql_ E ?_;refine C8 hs E (H2 4294967296 (b:=1) E E E E E E) E ?_;refine C8 hs E (F1 (place:=λ x=>#[(0,1),(1,1)][x]?) (z:=[vS,.int .u32 0]) (λ _=>by kernel_rfl) (eS E (eS E e0)) (bdS 0 1 E qR (bdS 1 1 E qR bd0))) E ?_;refine fa_ hs ?_;refine G1 E E E (A7 E E Cd kR qR (by intro c hc; simp only [List.mem_cons,List.not_mem_nil,or_false] at hc; rcases hc with rfl | rfl; exact hb1.one; rfl) Cs ?_);refine E3 (D2 4 5) (C0 ?_);refine ⟨_,M10,[],B7H (n:=2) E E E kR Cc qR,Cg (Cf qP),u0,u1,E,hP10,hb0.mono (λ x hx=>by simp [hx]),hb1.mono (λ x hx=>by simp [hx])⟩

theorem up2{X J A:Mem}(hR:∀ x,x∈R->x∈A):∀ x,x∈J++R->x∈X++(J++A):=λ x hx=>Ai _ ((List.mem_append.1 hx).elim (λ h=>Ae _ h) (λ h=>Ai _ (hR x h)))
def rep{α:Type}(f:α->α):Nat->α->α
  | 0,x=>x
  | k+1,x=>f (rep f k x)
abbrev Ast:=Ps×LN×Nat×List Skp
def aSt(of:LN)(x:Ast):Ast:=(A1p x.1 x.2.1,B3n x.1 x.2.1,x.2.2.1+1,B7G x.2.2.2 ⟨of,x.2.2.1,A7k x.1 x.2.1⟩)
theorem B9J(of:LN)(i:Nat)(x:Ast):(rep (aSt of) i x).2.2.1=x.2.2.1+i:=by
  induction i with
  | zero=>rfl
  | succ i ih=>show (rep (aSt of) i x).2.2.1+1=_; rw [ih]; rfl
theorem B7I(of:LN)(i:Nat)(x:Ast):(rep (aSt of) i x).1.ts.length<=x.1.ts.length+3 * i:=by
  induction i with
  | zero=>exact Av _
  | succ i ih =>
    show (A1p (rep (aSt of) i x).1 (rep (aSt of) i x).2.1).ts.length<=_;have:=A3x (rep (aSt of) i x).1 (rep (aSt of) i x).2.1 [] A58 2;unfold A1p;simp at this;omega
theorem B7J(of:LN)(i:Nat)(x:Ast)(h:x.2.2.2.length<=1000):(rep (aSt of) i x).2.2.2.length<=1000:=by
  cases i with
  | zero=>exact h
  | succ i=>exact Az (B6v _ _) qD
theorem B0g(pb sb:Nat)(s:Ps)(kv vof:Value)(key of:LN)(N n:Nat)(sks:List Skp)(R MP MS A:Mem)(hP:Prm pb s MP)(hS:Sto R sb sks MS)(hR:∀ x,x∈R->x∈A)(hk:By R kv key)(hof:By R vof of)(hl:sks.length<=1000)(hNn:N<=n)(h16:n - N<=16)(hn32:n < 4294967296)(hn:s.ts.length<=1000000)(hG:Glb A):FnX Tryz.prog 62 [(vP pb),.agg #[kv,(vU N)],vof,(vU n),(vP sb)] (MP++MS) A λ q M J=>∃ MP' MS' kv',M=MP'++MS'∧q=.tuple #[.agg #[kv',.int .u32 (((rep (aSt of) (n - N) (s,key,N,sks)).2.2.1:Nat):Int)],.int .i64 0]∧Prm pb (rep (aSt of) (n - N) (s,key,N,sks)).1 MP'∧Sto (J++R) sb (rep (aSt of) (n - N) (s,key,N,sks)).2.2.2 MS'∧By (J++R) kv' (rep (aSt of) (n - N) (s,key,N,sks)).2.1:=by
 haveI:=hk.cel;haveI:=hof.cel;refine Cl (N:=51) Tryz.func62 E E E λ w_=>?_;refine A9 (E8 0 1 2 3 4) (A1 ?_);refine A3 E (bx_ λ b6=>?_);refine A3 E (C3 (cs:=[vS,.int .u32 0]) kR E λ b10=>?_);refine as_ (A0 (H1 0 2 3 4 6 10) (A4 (A8 (A1 (mv_ ?_)))));refine A2 (qf_ 1 1) E ?_;refine A2 ql_ E ?_;refine A2 (F5 false E E (ltF qO)) E ?_;refine as_ (A0 (N9 0 2 3 4 6 10 14) ?_);refine C9 E ?_;refine A1 (mv_ ?_);refine A2 (qf_ 1 1) E ?_;refine A2 ql_ E ?_;refine A2 (D7 (((n - N:Nat)):Int) E E (by simp only [I8]; rw [A8s qO qO]; congr 2; omega)) E ?_;refine A2 (F5 false E E (gtF qO)) E ?_;refine as_ (A0 (N9 0 2 3 4 6 10 20) ?_);refine C9 E ?_;refine A6 (nb (nx (H1 0 2 3 4 6 10) (A4 (A8 ?_))));refine E5 (α:=Nat×Mem×Mem×Value×Mem) (λ x=>[(0,(vP pb)),(2,vof),(3,(vU n)),(4,(vP sb)),(6,(vP b6)),(10,(vP b10))]) (λ x=>x.2.1++(x.2.2.1++[(b6,blk [x.2.2.2.1,.int .u32 ((N+x.1:Nat):Int)] 45),(b10,blk [vS,.int .u32 0] 45)])) (λ x=>x.2.2.2.2) (λ x=>x.1<=n - N∧Prm pb (rep (aSt of) x.1 (s,key,N,sks)).1 x.2.1∧Sto (x.2.2.2.2++R) sb (rep (aSt of) x.1 (s,key,N,sks)).2.2.2 x.2.2.1∧By (x.2.2.2.2++R) x.2.2.2.1 (rep (aSt of) x.1 (s,key,N,sks)).2.1) (λ x=>n - N - x.1) ⟨0,MP,MS,kv,[]⟩ ⟨Am _,hP,hS,hk⟩ (H1 0 2 3 4 6 10) (Ch qP (Ch qP (Ch (B:=[_]) qP (Cf qP)))) (λ _ h=>by cases h) ?_;rintro ⟨i,MPi,MSi,kvi,Ji⟩ ⟨hi,hPi,hSi,hki⟩;dsimp only at hi hPi hSi hki ⊢;haveI:=hki.cel;have hts:=B7I of i (s,key,N,sks);have hsk:=B7J of i (s,key,N,sks) hl;dsimp only at hts hsk;refine A4 (A1 ?_);refine A2 (qf_ 1 1) E ?_;refine A2 ql_ E ?_;refine mv_ ?_;refine A2 (F0 E E E) E ?_;refine A0 (N9 0 2 3 4 6 10 30) ?_;refine C4 E ?_ ?_ <;> intro hc
 .
  have hlt:i < n - N:=by simp at hc; omega
  refine A6 (nx (H1 0 2 3 4 6 10) (A8 (A1 (as_ (A0 (H1 0 2 3 4 6 10) (A1 ?_))))));refine A2 (qf_ 1 1) E ?_;refine A2 ql_ E ?_;refine as_ (A0 (N9 0 2 3 4 6 10 13) (A4 (A1 (mv_ ?_))));refine A2 (qw_ 2) E ?_;refine A3 E (D0 (Mc:=MPi) (R:=_) (aS E (aS E a0)) kR qP (A4q pb (rep (aSt of) i (s,key,N,sks)).1 kvi (rep (aSt of) i (s,key,N,sks)).2.1 (N+i) MPi _ hPi (hki.mono (up2 hR)) qO hG.up) E ?_);rintro v36 M36 J36 ⟨v1,v2,rfl,hP36,hb1,hb2⟩;haveI:=hb1.cel;haveI:=hb2.cel;rw [Af (show N+i+1 < 4294967296 by omega),show N+i+1=N+(i+1) from rfl];refine mv_ ?_;refine A2 (Y8 E) E ?_;refine A2 (Y4 E) E ?_;refine as_ ?_;refine A3 E (A7 E E Cd kR qR (by intro c hc; simp only [List.mem_cons,List.not_mem_nil,or_false] at hc; rcases hc with rfl | rfl; exact hb2.one; rfl) Cs ?_);refine A0 (W4 0 2 3 4 6 10 12 13) (A1 ?_);refine A2 (qf_ 1 1) E ?_;refine A2 ql_ E ?_;refine mv_ ?_;refine A2 (F5 false E E (eqF qO)) E ?_;refine A0 (A0m 0 2 3 4 6 10 12 13 42) ?_;refine C9 E ?_;refine A6 (nx (W4 0 2 3 4 6 10 12 13) (C2 (mv_ (mv_ (mv_ (mv_ ?_))))));refine A2 (F1 (place:=λ x=>#[(0,1),(1,1),(2,1)][x]?) (z:=[vS,.int .u32 0,vS]) (λ _=>by kernel_rfl) (eS E (eS E (eS E e0))) (bdS 0 1 E qR (bdS 1 1 E qR (bdS 2 1 E qR bd0)))) E ?_;refine A3 E (D0 (Mc:=MSi) (R:=_) (aS E (aS E a0)) kR qP (B6y sb vof v1 (rep (aSt of) i (s,key,N,sks)).2.2.2 of (A7k (rep (aSt of) i (s,key,N,sks)).1 (rep (aSt of) i (s,key,N,sks)).2.1) (N+i) ((J36++Ji)++R) MSi _ (hSi.mono (λ x hx=>by simp only [List.mem_append] at hx ⊢; rcases hx with h | h <;> simp [h])) (up2 hR) qO (hof.mono (λ x hx=>Ai _ hx)) (hb1.mono (λ x hx=>by simp [hx])) qO) E ?_);rintro v49 M49 J49 ⟨rfl,hS49⟩;refine C6 (nb ?_);exact rn ⟨i+1,M36,M49,v2,J49++(J36++Ji)⟩ ⟨by dsimp only; omega,hP36,(by have h:=hS49; rw [<- B9J of i (s,key,N,sks)] at h; exact h.mono (λ x hx=>by simp only [List.mem_append] at hx ⊢; rcases hx with h | h | h <;> simp [h]):Sto ((J49++(J36++Ji))++R) sb _ M49),hb2.mono (λ x hx=>by simp [hx])⟩ (by dsimp only; omega) (H1 0 2 3 4 6 10) (Ch qP (Ch qP (Ch (B:=[_]) qP (Cf qP)))) qI
 .
  have hge:i=n - N:=by simp at hc; omega
  subst hge;refine D9 (te (re (be E (nx (D2 6 10) (A1 ?_)))));refine A2 (qw_ 2) E ?_;refine A3 E (A7 E E Cd kR qR (by intro c hc; simp only [List.mem_cons,List.not_mem_nil,or_false] at hc; rcases hc with rfl | rfl; exact hki.one; rfl) Cs ?_);refine as_ (A0 (D2 10 11) (C0 ?_));refine ⟨_,MPi++MSi,[],A0k (n:=2) E E E kR Cc qR,Cg (Ch qP (Cf qP)),MPi,MSi,kvi,E,?_,hPi,hSi,hki⟩;rw [B9J]
theorem B0h(pv sv kv vof:Value)(key of:LN)(N n:Nat)(A:Mem)(hk:By A kv key)(hof:By A vof of)(hNn:n < N):FnV Tryz.prog 62 [pv,.agg #[kv,(vU N)],vof,(vU n),sv] A (.tuple #[.agg #[kv,(vU N)],.int .i64 8]):=by haveI:=hk.cel;haveI:=hof.cel;refine Ck (N:=51) Tryz.func62 E E E λ w=>?_;refine A9 (E8 0 1 2 3 4) (A1 ?_);refine A3 E (bx_ λ b6=>?_);refine A3 E (C3 (cs:=[vS,.int .u32 0]) kR E λ b10=>?_);refine as_ (A0 (H1 0 2 3 4 6 10) (A4 (A8 (A1 (mv_ ?_)))));refine A2 (qf_ 1 1) E ?_;refine A2 ql_ E ?_;refine A2 (F5 true E E (ltT qO)) E ?_;refine as_ (A0 (N9 0 2 3 4 6 10 14) ?_);refine E1 E ?_;refine A1 ?_;refine A2 (qw_ 2) E ?_;refine A3 E (A7 E E Cd kR qR (by intro c hc; simp only [List.mem_cons,List.not_mem_nil,or_false] at hc; rcases hc with rfl | rfl; exact hk.one; rfl) Cs ?_);refine as_ (A0 (D2 10 11) (C0 (br (tr ?_))));exact ⟨_,[],[],A0k (n:=2) E E E kR Cc qR,Aa _,by simp,E,E,E⟩
theorem B0i(pv sv kv vof:Value)(key of:LN)(N n:Nat)(A:Mem)(hk:By A kv key)(hof:By A vof of)(hNn:N<=n)(hn32:n < 4294967296)(h16:16 < n - N):FnV Tryz.prog 62 [pv,.agg #[kv,(vU N)],vof,(vU n),sv] A (.tuple #[.agg #[kv,(vU N)],.int .i64 7]):=by haveI:=hk.cel;haveI:=hof.cel;refine Ck (N:=51) Tryz.func62 E E E λ w=>?_;refine A9 (E8 0 1 2 3 4) (A1 ?_);refine A3 E (bx_ λ b6=>?_);refine A3 E (C3 (cs:=[vS,.int .u32 0]) kR E λ b10=>?_);refine as_ (A0 (H1 0 2 3 4 6 10) (A4 (A8 (A1 (mv_ ?_)))));refine A2 (qf_ 1 1) E ?_;refine A2 ql_ E ?_;refine A2 (F5 false E E (ltF qO)) E ?_;refine as_ (A0 (N9 0 2 3 4 6 10 14) ?_);refine C9 E ?_;refine A1 (mv_ ?_);refine A2 (qf_ 1 1) E ?_;refine A2 ql_ E ?_;refine A2 (D7 (((n - N:Nat)):Int) E E (by simp only [I8]; rw [A8s qO qO]; congr 2; omega)) E ?_;refine A2 (F5 true E E (gtT qO)) E ?_;refine as_ (A0 (N9 0 2 3 4 6 10 20) ?_);refine E1 E ?_;refine A1 ?_;refine A2 (qw_ 2) E ?_;refine A3 E (A7 E E Cd kR qR (by intro c hc; simp only [List.mem_cons,List.not_mem_nil,or_false] at hc; rcases hc with rfl | rfl; exact hk.one; rfl) Cs ?_);refine as_ (A0 (D2 10 11) (C0 (br (tr ?_))));exact ⟨_,[],[],A0k (n:=2) E E E kR Cc qR,Aa _,by simp,E,E,E⟩

theorem B3p(s:Ps):(G3 s).ts.length<=s.ts.length+1∧(G3 s).n=s.n+1:=by
  unfold G3;split
  . exact ⟨by simp,E⟩
  . refine ⟨?_,E⟩;show (add s.ts _).length<=_;unfold add;split <;> simp
theorem B9K(s:Ps)(w:LN):(N8 s w).ts.length<=s.ts.length+2:=by
  unfold N8;split
  . omega
  . have h1:=U1 (ts:=s.ts) (ws:=w);have h2:=A14 (ts:=rdT s.ts w) (t:=C0B ((rdI s.ts w:Nat):Int));show (add (rdT s.ts w) _).length<=_;omega
theorem B9L(s:Ps)(w:LN):(P7 s w).length=32:=by
  unfold P7;split
  . exact A4h _ _
  . exact A3Y _ qD
def A7l:LN:=[114,111,111,116]
noncomputable def B6B(s:Ps)(root sec pub:LN):Ps:=B0s (P1 s sec pub) root [A18 s sec pub] A7l 2
noncomputable def C21(s:Ps)(root sec pub:LN):List (LN):=B0t (P1 s sec pub) root [A18 s sec pub] A7l 2
noncomputable def B9M(s:Ps)(root sec pub:LN):LN:=(C21 s root sec pub).getD 0 []
noncomputable def B9N(s:Ps)(root sec pub:LN):LN:=(C21 s root sec pub).getD 1 []
theorem A9k(s:Ps)(root sec pub:LN):(B6B s root sec pub).ts.length<=s.ts.length+7∧(B6B s root sec pub).n=s.n:=by have h1:=U6 s sec pub;have h2:=A3x (P1 s sec pub) root [A18 s sec pub] A7l 2;have h3:=B2K s sec pub;have h4:=(A32 (P1 s sec pub) root [A18 s sec pub] A7l 2).2.1;have e:[A18 s sec pub].length=1:=rfl;unfold B6B;omega
structure Rsd where
  own:LN
  their:LN
  root:LN
  sk:LN
  sn:Nat
  tk:LN
  tn:Nat
  prev:Nat
  sks:List Skp
def StF(R:Mem)(v:Value)(sks:List Skp):Prop:=∃ sb u rows,v=(vP sb)∧(sb,blk [u] 121)∈R∧Rd R 3 u sks.length rows.flatten∧RwL skR R rows sks
theorem StF.mono{R R':Mem}{v:Value}{sks:List Skp}(h:StF R v sks)(hR:∀ x,x∈R->x∈R'):StF R' v sks:=by obtain ⟨sb,u,rows,h1,h2,h3,h4⟩:=h;exact ⟨sb,u,rows,h1,hR _ h2,h3.mono hR,h4.mono skT hR⟩
def rsC(vo vt vr vk vl vs:Value)(r:Rsd):List Value:=[vo,vt,vr,vk,(vU r.sn),vl,(vU r.tn),(vU r.prev),vs]
structure RsR(R:Mem)(r:Rsd)(vo vt vr vk vl vs:Value):Prop where
  own:By R vo r.own
  their:By R vt r.their
  root:By R vr r.root
  sk:By R vk r.sk
  tk:By R vl r.tk
  st:StF R vs r.sks
  sn:r.sn < 4294967296
  tn:r.tn < 4294967296
  prev:r.prev < 4294967296
  sks:r.sks.length<=1000
theorem RsR.mono{R R':Mem}{r:Rsd}{vo vt vr vk vl vs:Value}(h:RsR R r vo vt vr vk vl vs)(hR:∀ x,x∈R->x∈R'):RsR R' r vo vt vr vk vl vs :=
  ⟨h.own.mono hR,h.their.mono hR,h.root.mono hR,h.sk.mono hR,h.tk.mono hR,h.st.mono hR,h.sn,h.tn,h.prev,h.sks⟩
theorem StF.one{sks:List Skp}(h:StF R v sks):v.oneCell'=true:=by obtain ⟨sb,u,rows,rfl,_⟩:=h; rfl
theorem StF.new{b:Nat}(h:(b,blk [vS] 121)∈R):StF R (vP b) []:=⟨b,_,[],E,h,Rd.nil,RwL.nil⟩
def RsV(R:Mem)(v:Value)(r:Rsd):Prop:=∃ vo vt vr vk vl vs,v=.agg (rsC vo vt vr vk vl vs r).toArray∧RsR R r vo vt vr vk vl vs
theorem RsV.mono{R R':Mem}{v:Value}{r:Rsd}(h:RsV R v r)(hR:∀ x,x∈R->x∈R'):RsV R' v r:=by obtain ⟨vo,vt,vr,vk,vl,vs,e,g⟩:=h;exact ⟨vo,vt,vr,vk,vl,vs,e,g.mono hR⟩
noncomputable def B9O(s:Ps)(sec their:LN):Rsd:=⟨G5 s,their,B9M (G3 s) sec (G5 s) their,B9N (G3 s) sec (G5 s) their,0,[],0,0,[]⟩
noncomputable def C3J(s:Ps)(sec their:LN):Ps:=B6B (G3 s) sec (G5 s) their
def A1U(sec own:LN):Rsd:=⟨own,[],sec,[],0,[],0,0,[]⟩
theorem B3q(pb:Nat)(s:Ps)(v1 v2 v3:Value)(root sec pub:LN)(MP A:Mem)(hP:Prm pb s MP)(hn:s.ts.length+100<=1040000)(h1:By A v1 root)(h2:By A v2 sec)(h3:By A v3 pub)(hG:Glb A):FnX Tryz.prog 46 [(vP pb),v1,v2,v3] MP A λ q M J=>∃ u0 u1,q=.tuple #[u0,.agg #[u1,(vU 0)]]∧Prm pb (B6B s root sec pub) M∧By J u0 (B9M s root sec pub)∧By J u1 (B9N s root sec pub):=by haveI:=h1.cel;haveI:=h2.cel;haveI:=h3.cel;have hal:=U6 s sec pub;refine Cl (N:=30) Tryz.func46 E E E λ w_=>?_;refine A9 (D8 0 1 2 3) (A1 (as_ ?_));refine A3 E (C3 (cs:=[vS,.int .u32 0]) kR E λ b9=>?_);refine A0 (E8 0 1 2 3 9) (A1 (mv_ (mv_ (mv_ (mv_ (mv_ ?_))))));refine A3 E (D0 (Mc:=MP) (R:=_) (aS E (aS E (aS E (a0)))) kR qP (A0Y pb s v2 v3 sec pub MP _ hP qO (h2.mono qS) (h3.mono qS) hG.up) E ?_);rintro v16 M16 J16 ⟨hP16,h16⟩;haveI:=h16.cel;refine A3 E (C5 (e:=28) (sz:=1) (z:=[vS]) kR (eS E e0) (bdS 0 1 E qR bd0) E λ b17=>?_);refine A3 E (D0 (Mc:=M16) (R:=_) (aS E (aS E (aS E (aS E (aS E (a0)))))) kR qP (A16 pb (P1 s sec pub) v1 (.slice (some ⟨b17,0,none⟩) 1 1) root A7l [A18 s sec pub] 2 M16 _ hP16 (h1.mono qS) ⟨[v16],Co (n:=1) Cc qR,Lst.cons (h16.mono qS) Lst.nil⟩ (show 1<=1000 by decide) ⟨by decide⟩ qD qD qD qO hG.up) E ?_);rintro v18 M18 J18 ⟨hP18,hL18⟩;have hlen:=A9j (P1 s sec pub) root [A18 s sec pub] A7l 2;obtain ⟨us,u0,u1,hr,hu0,hu1,hb0,hb1⟩:=B3o hL18 hlen;haveI:=hr.cel;haveI:=hb0.cel;haveI:=hb1.cel;refine as_ (A0 (D2 9 10) (A4 (A1 (mv_ ?_))));refine A2 (G6 (sz:=1) E kR hr) E ?_;refine A2 (F5 false E E (neF E)) E ?_;refine A0 (D6 9 10 21) ?_;refine C9 E ?_;refine A6 (nx (D2 9 10) ?_);refine D1 (.range 8) (zp 0 [0,0,1,0,0,1,0,0,2]) kR kR λ hs=>?_;refine fm_ hs ?_;refine C8 hs E (H4 (sz:=1) (a:=0) E E kR E hr qD) E ?_;refine F9 hs E (Y9 (u:=u0) (hr.mono qS) E kR hu0) E ?_;refine fm_ hs ?_;refine C8 hs E (H4 (sz:=1) (a:=1) E E kR E hr qD) E ?_;refine F9 hs E (Y9 (u:=u1) (hr.mono qS) E kR hu1) E ?_;refine C8 hs E (F1 (place:=λ x=>#[(0,1),(1,1)][x]?) (z:=[vS,.int .u32 0]) (λ _=>by kernel_rfl) (eS E e0) (bdS 0 1 E qR bd0)) E ?_;refine fa_ hs ?_;refine G1 E E E (A7 E E Cd kR qR (by intro c hc; simp only [List.mem_cons,List.not_mem_nil,or_false] at hc; rcases hc with rfl | rfl; exact hb1.one; rfl) Cs ?_);refine E3 (D2 8 9) (C0 ?_);exact ⟨_,M18,[],B7H (n:=2) E E E kR Cc qR,Cg (Cf qP),u0,u1,E,hP18,hb0.mono (λ x hx=>by simp [hx]),hb1.mono (λ x hx=>by simp [hx])⟩

def A8b(k:LN)(p n:Nat):LN:=((beN k.length 4++k)++beN p 4)++beN n 4
theorem A4r(k:LN)(p n:Nat):(A8b k p n).length=k.length+12:=by simp [A8b,K4]; omega
def A7m(w h:LN):LN:=((beN w.length 4++w)++beN h.length 4)++h
theorem A5c(w h:LN):(A7m w h).length=w.length+h.length+8:=by simp [A7m,K4]; omega
theorem B9P(pb:Nat)(s:Ps)(v1 v2:Value)(sec their:LN)(MP A:Mem)(hP:Prm pb s MP)(hn:s.ts.length+200<=1040000)(hk:s.n < 1000000000)(h1:By A v1 sec)(h2:By A v2 their)(hG:Glb A):FnX Tryz.prog 22 [(vP pb),v1,v2] MP A λ q M J=>Prm pb (C3J s sec their) M∧RsV (J++A) q (B9O s sec their):=by haveI:=h1.cel;haveI:=h2.cel;have hfl:=B3p s;refine Cl (N:=27) Tryz.func22 E E E λ w_=>?_;refine A9 (D6 0 1 2) (A1 ?_);refine A3 E (C3 (cs:=[vS,vS,vS,vS,D3,vS,D3,D3,.pointer none]) kR E λ b6=>?_);refine A0 (D8 0 1 2 6) (A1 (mv_ ?_));refine A3 E (D0 (Mc:=MP) (R:=_) (aS E (a0)) kR qP (W8 pb s MP _ hP qO qO hG.up) E ?_);rintro v9 M9 J9 ⟨hP9,h9⟩;haveI:=h9.cel;refine mv_ ?_;refine C7 (aS E a0) kR (Q1 v2 their _ (h2.mono qS)) E ?_;rintro v11 M11 J11 ⟨rfl,h11⟩;haveI:=h11.cel;refine A2 (F1 (place:=λ x=>#[(0,1)][x]?) (z:=[vS]) (λ _=>by kernel_rfl) e0 bd0) E ?_;refine A3 E (bx_ λ b13=>?_);refine A2 (F1 (place:=λ x=>#[(0,1),(1,1),(2,1),(3,2),(5,2),(7,1),(8,1)][x]?) (z:=[vS,vS,vS,vS,D3,vS,D3,D3,.pointer none]) (λ _=>by kernel_rfl) (eS E (eS E (eS E e0))) (bdS 0 1 E qR (bdS 1 1 E qR (bdS 8 1 E qR bd0)))) E ?_;refine A3 E (C3 (cs:=[vS,vS,vS,vS,D3,vS,D3,D3,.pointer none]) kR E λ b7=>?_);refine A3 E (A7 (vs:=[v9,v11,vS,vS,.int .u32 0,vS,.int .u32 0,.int .u32 0,(vP b13)]) E E E kR qR (A5 h9.one (A5 h11.one (A5 E al6))) Cs ?_);refine A0 (E8 0 1 2 6 7) (A1 (mv_ (mv_ ?_)));refine A2 (qf_ 0 0) E ?_;refine A2 ql_ E ?_;refine mv_ ?_;refine A3 E (D0 (Mc:=M9) (R:=_) (aS E (aS E (aS E (aS E (a0))))) kR qP (B3q pb (G3 s) v1 v9 v2 sec (G5 s) their M9 _ hP9 qO (h1.mono qS) (h9.mono qS) (h2.mono qS) hG.up) E ?_);rintro v21 M21 J21 ⟨u0,u1,rfl,hP21,g0,g1⟩;haveI:=g0.cel;haveI:=g1.cel;refine mv_ ?_;refine A2 (Y8 E) E ?_;refine A2 (Y4 E) E ?_;refine A2 (qf_ 2 2) E ?_;refine A3 E (E4 E E g0.one kR Cq Cs ?_);refine A2 (qf_ 3 3) E ?_;refine A3 E (K9 (vs:=[u1,.int .u32 0]) (cs':=[v9,v11,u0,u1,.int .u32 0,vS,.int .u32 0,.int .u32 0,(vP b13)]) E E E kR (by exact (show 3+2<=9 by decide)) (A5 g1.one (A5 E I7)) E Cs ?_);refine A0 (D2 6 7) ?_;refine Y5 (B:=[(b13,blk [vS] 121)]) qP ?_;refine A1 ?_;refine A2 (qw_ 9) E ?_;refine A3 E (A7 (vs:=[v9,v11,u0,u1,.int .u32 0,vS,.int .u32 0,.int .u32 0,(vP b13)]) E E E kR qR (A5 h9.one (A5 h11.one (A5 g0.one (A5 g1.one al5)))) Cs ?_);refine A0 (D5 6) (C0 ?_);exact ⟨_,M21,[],A00 (n:=9) E E kR Cc qR,Cg (Cf qP),hP21,v9,v11,u0,u1,vS,_,E,⟨h9.mono qS,h11.mono qS,g0.mono qS,g1.mono qS,By.nil,StF.new qM,(show 0 < 4294967296 by decide),(show 0 < 4294967296 by decide),(show 0 < 4294967296 by decide),(show 0<=1000 by decide)⟩⟩
theorem B9Q(v1 v2:Value)(sec own:LN)(A:Mem)(h1:By A v1 sec)(h2:By A v2 own):FnX Tryz.prog 28 [v1,v2] [] A λ q M J=>M=[]∧RsV (J++A) q (A1U sec own):=by haveI:=h1.cel;haveI:=h2.cel;refine Cl (N:=12) Tryz.func28 E E E λ w_=>?_;refine A9 (D2 0 1) (A1 ?_);refine A3 E (C3 (cs:=[vS,vS,vS,vS,D3,vS,D3,D3,.pointer none]) kR E λ b4=>?_);refine A0 (D6 0 1 4) (A1 (mv_ ?_));refine C7 (aS E a0) kR (Q1 v2 own _ (h2.mono qS)) E ?_;rintro v6 M6 J6 ⟨rfl,h6⟩;haveI:=h6.cel;refine mv_ ?_;refine C7 (aS E a0) kR (Q1 v1 sec _ (h1.mono qS)) E ?_;rintro v8 M8 J8 ⟨rfl,h8⟩;haveI:=h8.cel;refine A2 (F1 (place:=λ x=>#[(0,1)][x]?) (z:=[vS]) (λ _=>by kernel_rfl) e0 bd0) E ?_;refine A3 E (bx_ λ b10=>?_);refine A2 (F1 (place:=λ x=>#[(0,1),(1,1),(2,1),(3,2),(5,2),(7,1),(8,1)][x]?) (z:=[vS,vS,vS,vS,D3,vS,D3,D3,.pointer none]) (λ _=>by kernel_rfl) (eS E (eS E (eS E e0))) (bdS 0 1 E qR (bdS 2 1 E qR (bdS 8 1 E qR bd0)))) E ?_;refine A3 E (A7 (vs:=[v6,vS,v8,vS,.int .u32 0,vS,.int .u32 0,.int .u32 0,(vP b10)]) E E E kR qR (A5 h6.one (A5 E (A5 h8.one al6))) Cs ?_);refine A0 (D5 4) (C0 ?_);exact ⟨_,[],[(b10,blk [vS] 121)],A00 (n:=9) E E kR Cc qR,Ch (B:=[_]) qP qZ,E,v6,vS,v8,vS,vS,_,E,⟨h6.mono qS,By.nil,h8.mono qS,By.nil,By.nil,StF.new qM,(show 0 < 4294967296 by decide),(show 0 < 4294967296 by decide),(show 0 < 4294967296 by decide),(show 0<=1000 by decide)⟩⟩
theorem A8c(r:Rsd)(vo vt vr vk vl vs:Value)(A:Mem)(hr:RsR A r vo vt vr vk vl vs):FnX Tryz.prog 52 [.agg (rsC vo vt vr vk vl vs r).toArray] [] A λ q M J=>∃ cb,q=.agg (rsC vo vt vr vk vl (vP cb) r).toArray∧Sto A cb r.sks M:=by haveI:=hr.own.cel;haveI:=hr.their.cel;haveI:=hr.root.cel;haveI:=hr.sk.cel;haveI:=hr.tk.cel;obtain ⟨sb,u,rows,rfl,hsb,hrd,hrw⟩:=hr.st;have hsl:=hr.sks;unfold rsC;refine Cl (N:=8) Tryz.func52 E E E λ w_=>?_;refine A9 (D5 0) (A1 ?_);refine A3 E (bx_ λ b1=>?_);refine A3 E (C3 (cs:=[vS,vS,vS,vS,D3,vS,D3,D3,.pointer none]) kR E λ b2=>?_);refine A0 (D2 1 2) (A1 ?_);refine A2 (qf_ 8 8) E ?_;refine A2 ql_ E ?_;refine C7 (aS E a0) kR (B3m sb _ u rows.flatten _ (mA hsb) (hrd.mono qS) (hrw.ones skT) qO) E ?_;rintro v5 M5 J5 ⟨cb,u5,B5,rfl,rfl,hs5⟩;refine A2 (qf_ 8 8) E ?_;refine A3 E (E4 E E E kR Cq Cs ?_);refine A0 (D2 1 2) (A1 ?_);refine A2 (qw_ 9) E ?_;refine A3 E (A7 (vs:=[vo,vt,vr,vk,(vU r.sn),vl,(vU r.tn),(vU r.prev),(vP cb)]) E E E kR qR (A5 hr.own.one (A5 hr.their.one (A5 hr.root.one (A5 hr.sk.one (A5 E (A5 hr.tk.one al3)))))) Cs ?_);refine A0 (D5 2) (C0 ?_);exact ⟨_,(cb,blk [u5] 121)::B5,[],A00 (n:=9) E E kR Cc qR,Cg (Ch (B:=[_]) qP (Cf qP)),cb,E,⟨u5,rows,B5,E,hs5,hrw⟩⟩
theorem B6C(vk:Value)(k:LN)(p n:Nat)(A:Mem)(hk:By A vk k)(hl:k.length<=16000000)(hp:p < 4294967296)(hn:n < 4294967296):FnX Tryz.prog 87 [.agg #[vk,(vU p),(vU n)]] [] A λ q M J=>M=[]∧By J q (A8b k p n):=by
 haveI:=hk.cel;refine Cl (N:=19) Tryz.func87 E E E λ w_=>?_;refine A9 (D5 0) (A1 ?_);refine A3 E (bx_ λ b1=>?_);refine as_ (A0 (D5 1) (A1 ?_));refine A2 (F1 (place:=λ x=>#[(0,1)][x]?) (z:=[vS]) (λ _=>by kernel_rfl) e0 bd0) E ?_;refine A3 E (bx_ λ b5=>?_);refine as_ (A0 (D2 1 3) ?_);refine F8 ([(b5,blk [vS] 111)]) (_) true (.range 14) [(0,0),(1,0),(2,1),(4,0),(5,1),(6,0),(8,0),(9,1),(10,0),(3,2),(7,2),(11,2),(12,2),(13,0)] kR kR qP λ hs K n0 hKm hKs hKn=>?_;refine km_ hs ?_;refine G7 hs E (qf_ 0 0) E ?_;refine K0 hs E hKs ql_ ?_;refine G7 hs E (qf_ 1 1) E ?_;refine K0 hs E hKs ql_ ?_;refine G7 hs E (K6 (k':=.u64) p E kR (A19 qO)) E ?_;refine G7 hs E (qf_ 2 2) E ?_;refine K0 hs E hKs ql_ ?_;refine G7 hs E (K6 (k':=.u64) n E kR (A19 qO)) E ?_
 refine H3 _ _ E E (Ah _) hKm λ w0=>(D0 (Mc:=[(b5,blk [vS] 111)]) (R:=_) (aS E (aS E (a0))) kR qP (N0 b5 vk k [] _ _ Wtr.new (hk.mono qS) qD) E ?_)
 rintro v9 M9 J9 ⟨rfl,hW9⟩ hKx9
 refine H3 M9 _ E E qP (λ x hx=>hKx9 (hKn E) x (by simpa using hx)) λ w0=>(D0 (Mc:=M9) (R:=_) (aS E (aS E (aS E (a0)))) kR qP (Q4 b5 p 4 _ _ _ hW9 qO qD (by simp [K4]; omega)) E ?_)
 rintro v13 M13 J13 ⟨rfl,hW13⟩ hKx13
 refine H3 M13 _ E E qP (λ x hx=>hKx13 (hKn E) x (by simpa using hx)) λ w0=>(D0 (Mc:=M13) (R:=_) (aS E (aS E (aS E (a0)))) kR qP (Q4 b5 n 4 _ _ _ hW13 qO qD (by simp [K4]; omega)) E ?_)
 rintro v17 M17 J17 ⟨rfl,hW17⟩ hKx17
 refine H3 M17 _ E E qP (λ x hx=>hKx17 (hKn E) x (by simpa using hx)) λ w0=>(D0 (Mc:=M17) (R:=_) (aS E (a0)) kR qP (A0g b5 _ M17 _ hW17 (by simp [K4]; omega)) E ?_)
 rintro v18 M18 J18 ⟨hW18,h18⟩ hKx18;haveI:=h18.cel;refine G7 hs E (G4 E) E ?_;refine I3 (D5 2) (C0 ?_);exact ⟨_,[],[],I0 E E,qZ,E,h18.mono qS⟩
theorem B3r(vw vk:Value)(w k:LN)(p n:Nat)(A:Mem)(hw:By A vw w)(hk:By A vk k)(hl:w.length+k.length<=16000000)(hp:p < 4294967296)(hn:n < 4294967296):FnX Tryz.prog 55 [vw,.agg #[vk,(vU p),(vU n)]] [] A λ q M J=>M=[]∧By J q (A7m w (A8b k p n)):=by
 haveI:=hw.cel;haveI:=hk.cel;refine Cl (N:=15) Tryz.func55 E E E λ w_=>?_;refine A9 (D2 0 1) (A1 ?_);refine A3 E (bx_ λ b3=>?_);refine as_ (A0 (D2 0 3) (A1 ?_));refine A2 (F1 (place:=λ x=>#[(0,1)][x]?) (z:=[vS]) (λ _=>by kernel_rfl) e0 bd0) E ?_;refine A3 E (bx_ λ b7=>?_);refine as_ (A0 (D6 0 3 5) ?_);refine F8 ([(b7,blk [vS] 111)]) (_) true (.range 8) [(0,0),(1,0),(3,1),(2,2),(4,2),(5,2),(6,2),(7,0)] kR kR qP λ hs K n0 hKm hKs hKn=>?_;refine km_ hs ?_;refine km_ hs ?_;refine K0 hs E hKs (qw_ 3) ?_
 refine H3 _ _ E E (Ah _) hKm λ w0=>(D0 (Mc:=[(b7,blk [vS] 111)]) (R:=_) (aS E (aS E (a0))) kR qP (N0 b7 vw w [] _ _ Wtr.new (hw.mono qS) qD) E ?_)
 rintro v10 M10 J10 ⟨rfl,hW10⟩ hKx10
 refine H3 [] _ rfl rfl (Ah _) (λ _ h=>by cases h) λ w0=>(E2 (aS rfl a0) kR (B6C vk k p n _ (hk.mono qS) qO hp hn) rfl ?_)
 rintro v12 M12 J12 ⟨rfl,h12⟩ _;haveI:=h12.cel;dsimp only [List.nil_append,List.append_eq]
 refine H3 M10 _ E E qP (λ x hx=>hKx10 (hKn E) x (by simpa using hx)) λ w0=>(D0 (Mc:=M10) (R:=_) (aS E (aS E (a0))) kR qP (N0 b7 v12 (A8b k p n) _ _ _ hW10 (h12.mono qS) (by simp [K4]; omega)) E ?_)
 rintro v13 M13 J13 ⟨rfl,hW13⟩ hKx13
 refine H3 M13 _ E E qP (λ x hx=>hKx13 (hKn E) x (by simpa using hx)) λ w0=>(D0 (Mc:=M13) (R:=_) (aS E (a0)) kR qP (A0g b7 _ M13 _ hW13 (by simp [K4,A4r]; omega)) E ?_)
 rintro v14 M14 J14 ⟨hW14,h14⟩ hKx14;haveI:=h14.cel;refine G7 hs E (G4 E) E ?_;refine I3 (D5 4) (C0 ?_);exact ⟨_,[],[],I0 E E,qZ,E,h14.mono qS⟩

end Go.Proofs.YtjkpfgjfpbihaaaGreatDoor
