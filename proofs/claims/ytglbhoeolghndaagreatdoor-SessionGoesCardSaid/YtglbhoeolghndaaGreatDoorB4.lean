/- Part 4 of the texts of this claim, one behind the other. -/
import Derived.Test.YtglbhoeolghndaaGreatDoorB3
import Derived.WalkKit
import Derived.ProofKit
import Derived.OpenShut
import Derived.ShutString
import Derived.ChangeOld
import Derived.Below
set_option linter.unusedVariables false
set_option linter.unusedSimpArgs false
set_option maxRecDepth 100000
namespace Go
open Go.Px
abbrev Cf:=@Fit.last
abbrev Ch:=@Fit.pick
abbrev Cr:=@TakeC.take
end Go
open Go.Proofs.Tryz
namespace Go.Proofs.YtglbhoeolghndaaGreatDoor
open Go.Px
def u64(i:Int):Nat:=(i%18446744073709551616).toNat
def byt(i:Int)(k:Nat):Nat:=(i/((256^k:Nat):Int)%256).toNat
variable{k:Nat}
theorem C44(i:Int)(hk:k<8):byt i k=u64 i/256^k%256:=by unfold byt u64;rcases (show k=0∨k=1∨k=2∨k=3∨k=4∨k=5∨k=6∨k=7 by omega) with rfl|rfl|rfl|rfl|rfl|rfl|rfl|rfl<;>simp only [Nat.reducePow]<;>omega
theorem B8L(i:Int)(k:Nat):byt i k<256:=by unfold byt;omega
theorem C2M(i:Int):u64 i<18446744073709551616:=by unfold u64;omega
def btk(i:Int)(k:Nat):LN:=84::((List.range k).map (byt i)++List.replicate (31-k) 0)
def bts(i:Int):LN:=btk i 8
theorem A0Q(i:Int)(h:k<=31):(btk i k).length=32:=by simp [btk];omega
theorem B6A(i:Int)(h:k<31):(btk i k).set (1+k) (byt i k)=btk i (k+1):=by unfold btk;rw [show 1+k=k+1 by omega,List.set_cons_succ,List.set_append_right _ _ qM,List.range_succ,List.map_append];simp only [List.length_map,List.length_range,Nat.sub_self];rw [show 31-k=(31-(k+1))+1 by omega,List.replicate_succ,List.set_cons_zero];simp
theorem C0d(i:Int)(h:k<8):(bts i).getD (1+k) 0=byt i k:=by unfold bts btk;rw [show 1+k=k+1 by omega,List.getD_cons_succ,Aj,Ak (by simpa using h)];simp [h]
theorem B6B(i:Int):∀x∈bts i,x<256:=by
  intro x hx;simp only [bts,btk,Cv,List.mem_append,List.mem_map,List.mem_replicate] at hx;rcases hx with rfl|⟨k,_,rfl⟩|⟨_,rfl⟩
  . decide
  . exact B8L i k
  . decide
def le8(ws:LN):Nat->Nat
  | 0=>0
  | k+1=>le8 ws k+ws.getD (1+k) 0*256^k
variable{ws:LN}
theorem A6p(h:∀x∈ws,x<256)(j:Nat):ws.getD j 0<256:=by
  rw [Aj]
  cases hj:ws[j]? with
  | none=>decide
  | some x=>exact h x (As hj)
theorem B2s{ws:LN}(h:∀x∈ws,x<256):∀k,le8 ws k<256^k
  | 0=>by show 0<1;decide
  | k+1=>by have h1:=B2s h k;have h2:=A6p h (1+k);have h3:ws.getD (1+k) 0*256^k<=255*256^k:=Au _ qO;unfold le8;rw [Nat.pow_succ];omega
theorem B2t(i:Int):∀k,k<=8->le8 (bts i) k=u64 i%256^k
  | 0,_=>by simp [le8,Nat.mod_one]
  | k+1,h=>by rw [le8,B2t i k qO,C0d i qO,C44 i qO,Nat.pow_succ,Nat.mod_mul,Nat.mul_comm (256^k)]
def plc(ws:LN)(n:Nat):Option Nat:=if 32<=ws.length∧ws.getD 0 0=84∧(∀c∈ws.drop 9,c=0)∧le8 ws 8<n then some (le8 ws 8) else none
variable{n:Nat}
theorem A9F(h:¬(32<=ws.length∧ws.getD 0 0=84∧(∀c∈ws.drop 9,c=0)∧le8 ws 8<n)):plc ws n=none:=if_neg h
theorem B2u(h:32<=ws.length∧ws.getD 0 0=84∧(∀c∈ws.drop 9,c=0)∧le8 ws 8<n):plc ws n=some (le8 ws 8):=if_pos h
theorem A9G(h:plc ws n=none):Value.tuple #[P0,.bool false]=.tuple #[(vI ((plc ws n).getD 0)),.bool (plc ws n).isSome]:=by rw [h];rfl
variable{m:Nat}
theorem C2N(h:plc ws n=some m):Value.tuple #[.int .i64 (m:Int),.bool true]=.tuple #[(vI ((plc ws n).getD 0)),.bool (plc ws n).isSome]:=by rw [h];rfl
theorem C0e(h:ws.length<32):plc ws n=none:=A9F λh'=>absurd h'.1 qO
theorem C2O(h:ws.getD 0 0≠84):plc ws n=none:=A9F λh'=>h h'.2.1
theorem C2P{j:Nat}(hj:j<(ws.drop 9).length)(h:(ws.drop 9).getD j 0≠0):plc ws n=none:=A9F λh'=>h (h'.2.2.1 _ (by rw [Aj,Ab hj];exact List.getElem_mem hj))
theorem C2Q(h8:le8 ws 8=m)(h:n<=m):plc ws n=none:=A9F λh'=>by have:=h'.2.2.2;rw [h8] at this;exact absurd this (Nat.not_lt.2 h)
theorem B6C(h8:le8 ws 8=m)(h1:32<=ws.length)(h2:ws.getD 0 0=84)(h3:∀c∈ws.drop 9,c=0)(h:m<n):plc ws n=some m:=by rw [B2u ⟨h1,h2,h3,by rw [h8];exact h⟩,h8]
theorem A2o(i:Int)(n:Nat):plc (bts i) n=if u64 i<n then some (u64 i) else none:=by
  have e:le8 (bts i) 8=u64 i:=by rw [B2t i 8 qO];exact Af (C2M i)
  have hd:∀c∈(bts i).drop 9,c=0:=by
    intro c hc;unfold bts btk at hc;rw [List.drop_succ_cons,List.drop_append_of_le_length qM] at hc;simp only [List.mem_append] at hc;rcases hc with hc|hc
    . rw [Bv qM] at hc;cases hc
    . exact (List.mem_replicate.1 hc).2
  unfold plc;rw [e,A0Q i (k:=8) qO |> (λh=>(h:(bts i).length=32))];by_cases h:u64 i<n
  . rw [if_pos h,if_pos ⟨by omega,E,hd,h⟩]
  . rw [if_neg h,if_neg (λh'=>h h'.2.2.2)]
theorem C0f{w:Nat}(h:n<2^k):n ||| w*2^k=n+w*2^k:=by have:=Nat.two_pow_add_eq_or_of_lt h w;rw [Nat.mul_comm w,Nat.or_comm,Nat.add_comm n];exact this.symm
theorem C45(h:∀x∈ws,x<256)(hk:k<8):ws.getD (1+k) 0*2^(8*k)<18446744073709551616:=by have h2:=A6p h (1+k);have hpk:(256:Nat)^k<=256^7:=Bq qD qO;have hmk:ws.getD (1+k) 0*256^k<=255*256^7:=Nat.mul_le_mul qO hpk;rw [Nat.pow_mul];exact Be hmk qD
theorem C46(h:∀x∈ws,x<256)(hk:k<8):le8 ws k<18446744073709551616 :=
  Bp (B2s h k) (Az (Bq qD (show k<=7 by omega)) qD)
theorem C2R(h:∀x∈ws,x<256)(k:Nat):le8 ws k ||| ws.getD (1+k) 0*2^(8*k)=le8 ws (k+1):=by rw [C0f (by rw [Nat.pow_mul];exact B2s h k),Nat.pow_mul];rfl
end Go.Proofs.YtglbhoeolghndaaGreatDoor
namespace Go.Px
theorem C2S{P:Program}{R:Mem}{l:Env}{d:Option Nat}{ty t t':TypeId}{pos:String}{af:Array Edge}{g:Option (Nat×Bool)}{x y:Operand}{a b:Nat}(hx:ev l x=some (.int .u64 (a:Int)))(hy:ev l y=some (.int .u64 (b:Int)))(ha:a<18446744073709551616)(hb:b<18446744073709551616):OpQ P R ⟨d,.binOp .or t x y t',ty,pos,af,g⟩ l (vW (a ||| b)):=B6b E hx hy ha hb
section
variable{P:Program}{R R':Mem}{l:Env}{d:Option Nat}{ty t t':TypeId}{pos:String}{af:Array Edge}{g:Option (Nat×Bool)}{x y:Operand}{i j:Int}{k:Nat}
theorem B2v(hx:ev l x=some (.int .i64 i))(hy:ev l y=some (.int .i64 j))(hj:j=((8*k:Nat):Int))(hk:k<8):OpQ P R ⟨d,.binOp .shr t x y t',ty,pos,af,g⟩ l (.int .i64 (i/((256^k:Nat):Int))):=by subst hj;have h:=C2q (P:=P) (R:=R) (d:=d) (ty:=ty) (pos:=pos) (af:=af) (g:=g) (t:=t) (t':=t') hx hy qO;rw [Int.toNat_natCast,Nat.min_eq_left (show 8*k<=IntKind.i64.bits by show 8*k<=64;omega)] at h;rw [show (256^k:Nat)=2^(8*k) by rw [Nat.pow_mul],Int.natCast_pow,<- Int.fdiv_eq_ediv_of_nonneg _ (Int.pow_nonneg qD)];exact h
theorem B2w{s:TypeId}(hx:ev l x=some (.int .i64 i))(hc:A50 P s t=some .u8):OpQ P R ⟨d,.convert s t x,ty,pos,af,g⟩ l (.int .u8 (((i%256).toNat:Nat):Int)):=by refine Z3 _ hx hc ?_;unfold IntKind.wrap;simp only [IntKind.signed,IntKind.bits,Bool.false_and,Bool.false_eq_true,if_false];omega
end
end Go.Px
namespace Go.Proofs.YtglbhoeolghndaaGreatDoor
open Go.Px
theorem B0P(i:Int)(A:Mem):FnX prog 35 [.int .i64 i] [] A λr M J=>J=[]∧Sl 1 r 32 (nums .u8 (bts i)) M:=by
 skip
 refine Ck (N:=22) func35 E E E λw=>?_;refine A8 (D4 0) (A1 (as_ (A0 (D4 0) (A1 ?_))));refine A2 E (B1X (a:=32) (e:=5) (k:=.u8) (by_:=1) E E kR E E qO qO E λv5 B5 hs5=>?_);refine as_ (A0 (D0 0 3) (A1 (mv_ ?_)));refine lQ_ (H2 (sz:=1) (a:=0) E E kR E (by first|assumption|exact Sl.rd (by assumption) qI|exact By.rd (by assumption)) qO) ?_;refine A2 E (B8G (u:=84) E E E kR hs5 qD qP λB5b hs5b=>?_);refine A0 (D0 0 3) (A3 (A1 (mv_ (A0 (D6 0 3 8) (A7 ?_)))));refine E5 (α:=Nat×Mem) (λs=>[(0,.int .i64 i),(3,v5),(8,.int .i64 (s.1:Int))]) (λs=>s.2) (λ_=>[]) (λs=>s.1<=8∧Sl 1 v5 32 (nums .u8 (btk i s.1)) s.2) (λs=>8-s.1) ⟨0,B5b⟩ ⟨Am _,hs5b⟩ (D6 0 3 8) (Ce qM) qI ?_;rintro ⟨k,B⟩ ⟨hk,hs⟩;dsimp only at hk hs ⊢;haveI:=hs.cel;refine A1 (lQ_ (E8 E E E) (A0 (D7 0 3 8 9) (A3 ?_)));refine C3 E ?_ ?_<;>intro hc
 .
  have hlt:k<8:=by simp at hc;omega
  refine A6 (nx (D6 0 3 8) (A3 (A7 (A1 (mV_ E (aS_ E (A0 (D7 0 3 4 8) (C1 (mv_ (mv_ ?_))))))))));refine lQ_ (K5 (a:=1) E E E E qO) ?_;refine mv_ (mv_ ?_);refine lQ_ (A1g (a:=8) E E E E qO) ?_;refine lQ_ (B2v (k:=k) E E E hlt) ?_;refine lQ_ (B2w E kR) ?_;refine lQ_ (H2 (sz:=1) E E kR E (by first|assumption|exact Sl.rd (by assumption) qI|exact By.rd (by assumption)) qO) ?_;refine A2 E (B8G (u:=byt i k) E E E kR hs qO qP λB6 hs6=>?_);rw [B6A i qO] at hs6;refine C5 (nb (nx (D6 0 3 8) (C1 ?_)));refine lQ_ (K5 (b:=1) E E E E qO) ?_;refine mv_ (C5 ?_);exact rn ⟨k+1,B6⟩ ⟨by dsimp only;omega,hs6⟩ (by dsimp only;omega) (D6 0 3 8) (Ce qM) qI
 .
  have hge:k=8:=by simp at hc;omega
  subst hge;refine D8 (te (re (be E (nx (D4 3) (A1 (mV_ E (aS_ E (A0 (D4 2) (A9 ?_)))))))));exact ⟨_,B,[],H8 E E,by first|exact Ao _|simp,by simp,E,hs⟩
theorem A0W(bt bm:Nat)(ts:List Tm)(vp:Value)(ws:LN)(MT A:Mem)(hT:Tab bt bm ts MT)(hsub:∀x,x∈MT->x∈A)(hn:ts.length<=1048576)(hp:Rd A 1 vp ws.length (nums .u8 ws))(hw:∀x∈ws,x<256)(hl:ws.length<=maxLen):FnV prog 96 [(vP bt),vp] A (.tuple #[(vI ((plc ws ts.length).getD 0)),.bool (plc ws ts.length).isSome]):=by
 haveI:=hp.cel;have hmx:maxLen<9223372036854775808:=by unfold maxLen;omega
 refine Ck (N:=51) func96 E E E λw=>?_;refine A8 (D0 0 1) (A1 (as_ (as_ (A0 (D0 0 1) (A3 (A1 (mv_ ?_)))))));refine lQ_ (G2 (sz:=1) E kR hp) ?_;refine lQ_ (E8 E E E) (mv_ ?_);refine V8 (t:=13) E (λhb=>?_) (λhb=>?_)
 . refine K0 E E E E ?_;refine K0 E E E E ?_;refine K0 E E E E ?_;refine K0 E E E E ?_;refine lQ_ (G4 E E) (A0 (D6 0 1 18) ?_);refine D9 E ?_;refine A1 (as_ (as_ (A0 (D0 4 5) (A9 (tr ?_)))));refine ⟨_,[],[],A1Z E E E,Aa _,by simp,A9G (C0e (by simp at hb;omega)),E,E⟩
 .
  have h32:32<=ws.length:=by simp at hb;omega
  have h0:ws.getD 0 0=(ws.getD 0 0):=rfl;refine F4 E E (Cn qm_ E ?_);refine F4 E E (Cn (H2 (sz:=1) (a:=0) E E kR E hp qO) E ?_);refine F4 E E (Cn (A5t (j:=0) (Rd.mono hp qS) E kR qO) E ?_);refine F4 E E (Cn (E8 E E E) E ?_);refine lQ_ (E3 E E) (A0 (D6 0 1 18) ?_);refine C3 E ?_ ?_<;>intro hc
  .
   have h84:ws.getD 0 0≠84:=by have:=bne_iff_ne.1 hc;omega
   refine A1 (as_ (as_ (A0 (D0 4 5) (A9 (tr ?_)))));refine ⟨_,[],[],A1Z E E E,Aa _,by simp,A9G (C2O h84),E,E⟩
  .
   have h84:ws.getD 0 0=84:=by have h:=hc;rw [bne_eq_false_iff_eq] at h;omega
   refine A6 (nx (D0 0 1) (A1 (aS_ E (A0 (D6 0 1 6) (A3 (A1 (mV_ E (A0 (D7 0 1 6 19) (A7 ?_)))))))));refine E5 (α:=Nat) (λk=>[(0,(vP bt)),(1,vp),(6,(vW (le8 ws k))),(19,.int .i64 (k:Int))]) (λ_=>[]) (λ_=>[]) (λk=>k<=8) (λk=>8-k) 0 qD (D7 0 1 6 19) (Ce qM) qI ?_;rintro k hk;refine A1 (lQ_ (E8 E E E) (A0 (F2 0 1 6 19 20) (A3 ?_)));refine C3 E ?_ ?_<;>intro hc
   .
    have hlt:k<8:=by simp at hc;omega
    have hwk:=A6p hw (1+k);have h8w:=C45 hw hlt;have h8n:=C46 hw hlt;refine A6 (nx (D7 0 1 6 19) (A3 (A7 (A1 (mV_ E (aS_ E (A0 (F2 0 1 6 7 19) (C1 (mv_ (mv_ (mv_ ?_)))))))))));refine lQ_ (K5 (a:=1) E E E E qO) ?_;refine lQ_ (H2 (sz:=1) E E kR E hp qO) ?_;refine lQ_ (A5t (Rd.mono hp qS) E kR qO) ?_;refine lQ_ (K4 (ws.getD (1+k) 0) E kR (by rw [A9p,Af qO])) ?_;refine mv_ ?_;refine lQ_ (A1g (a:=8) E E E E qO) ?_;refine lQ_ (C2D 18446744073709551616 E qD E E E E (by show 8*k<=64;omega)) ?_;rw [Af h8w];refine lQ_ (C2S E E h8n h8w) ?_;rw [C2R hw k];refine as_ (C5 (nb (nx (D7 0 1 6 19) (C1 ?_))));refine lQ_ (K5 (b:=1) E E E E qO) ?_;refine mv_ (C5 ?_);exact rn (k+1) qO qO (D7 0 1 6 19) (Ce qM) qI
   .
    have hge:k=8:=by simp at hc;omega
    subst hge;generalize h8:le8 ws 8=n8;refine D8 (te (re (be E (nx (D6 0 1 6) (A3 (A1 (mv_ ?_)))))));refine lQ_ (A16 (sz:=1) (a:=9) E E kR E hp qO) ?_;have hq:=hp.loV 9 qO;rw [Nat.mul_one,<- A0U] at hq;generalize vLo 9 1 vp=vq at *;haveI:=hq.cel;refine lQ_ (G2 (sz:=1) E kR hq) ?_;refine mv_ (A0 (F2 0 6 35 36 37) (A7 ?_));refine E5 (α:=Nat) (λj=>[(0,(vP bt)),(6,(vW n8)),(35,vq),(36,.int .i64 ((ws.length-9:Nat):Int)),(37,.int .i64 (j:Int))]) (λ_=>[]) (λ_=>[]) (λj=>j<=ws.length-9∧∀c∈(ws.drop 9).take j,c=0) (λj=>ws.length-9-j) 0 ⟨Am _,λc h=>by simp at h⟩ (F2 0 6 35 36 37) (Ce qM) qI ?_;rintro j ⟨hj,hz⟩;refine A1 (lQ_ (E8 E E E) (A0 (G7 0 6 35 36 37 38) (A3 ?_)));refine C3 E ?_ ?_<;>intro hc
    .
     have hlt:j<ws.length-9:=by simp at hc;omega
     have hjw:j<(ws.drop 9).length:=by rw [Bg];exact hlt
     have hwj:=A6p (ws:=ws.drop 9) (λx hx=>hw x (List.mem_of_mem_drop hx)) j;refine A6 (nx (F2 0 6 35 36 37) (A3 (A7 (A1 ?_))));refine lQ_ (H2 (sz:=1) E E kR E hq hlt) ?_;refine lQ_ (A5t (Rd.mono hq qS) E kR hlt) ?_;refine aS_ E (A0 (G7 0 6 9 35 36 37) (A1 (mV_ E (lQ_ (E8 E E E) (A0 (G7 0 6 35 36 37 42) ?_)))));refine C3 E ?_ ?_<;>intro hc
     .
      have hne:(ws.drop 9).getD j 0≠0:=by have:=bne_iff_ne.1 hc;omega
      refine A1 (aS_ E (aS_ E (A0 (D0 4 5) (A9 (br (tr (rr (br (tr ?_)))))))));refine ⟨_,[],[],A1Z E E E,Aa _,by simp,A9G (C2P hjw hne),E,E⟩
     .
      have he0:(ws.drop 9).getD j 0=0:=by have h:=hc;rw [bne_eq_false_iff_eq] at h;omega
      refine A6 (nb (nx (F2 0 6 35 36 37) (C1 ?_)));refine lQ_ (K5 (b:=1) E E E E qO) ?_;refine mv_ (C5 ?_);exact rn (j+1) ⟨by omega,λc h=>by rw [Bh,Ab hjw] at h;rcases List.mem_append.1 h with h|h;exact hz c h;simp at h;rw [Aj,Ab hjw] at he0;simp at he0;omega⟩ qO (F2 0 6 35 36 37) (Ce qM) qI
    .
     have hge:j=ws.length-9:=by simp at hc;omega
     subst hge;have hzz:∀c∈ws.drop 9,c=0:=by rwa [Aw (by rw [Bg];exact Av _)] at hz
     refine D8 (te (re (be E (nx (D0 0 6) (A3 (A1 (mv_ (mv_ ?_))))))));refine E6 (aS E a0) kR (B2o bt bm ts MT _ hT (λx hx=>mA (hsub x hx))) E ?_;refine lQ_ (K4 ts.length E kR (by rw [A9p,Af qO])) ?_;refine lQ_ (E8 E E E) (A0 (D0 6 48) ?_);refine C3 E ?_ ?_<;>intro hc
     .
      have hge:ts.length<=n8:=by simp at hc;omega
      refine A1 (as_ (as_ (A0 (D0 4 5) (A9 (tr ?_)))));refine ⟨_,[],[],A1Z E E E,Aa _,by simp,A9G (C2Q h8 hge),E,E⟩
     .
      have hltn:n8<ts.length:=by simp at hc;omega
      refine A6 (nx (D4 6) (A1 (mv_ ?_)));refine lQ_ (K4 n8 E kR (A2E qO)) ?_;refine as_ (as_ (A0 (D0 4 5) (A9 ?_)));refine ⟨_,[],[],A1Z E E E,Aa _,by simp,C2N (B6C h8 h32 h84 hzz hltn),E,E⟩

def B5N(ws:LN):Tm:=⟨2,[],ws,0⟩
def rdT(ts:List Tm)(ws:LN):List Tm:=match plc ws ts.length with
  | some _=>ts
  | none=>add ts (B5N ws)
def rdI(ts:List Tm)(ws:LN):Nat:=match plc ws ts.length with
  | some j=>j
  | none=>at_ ts (B5N ws)
variable{ws:LN}
theorem A3i(h:∀x∈ws,x<256)(hl:ws.length<=1099511627776):Tmo (B5N ws):=⟨show 2<256 by decide,show i64 0 by unfold i64;omega,λi hi=>(List.not_mem_nil hi).elim,show 0<=1048576 by decide,⟨h⟩,hl⟩
variable{ts:List Tm}{j:Nat}
theorem A0g(h:plc ws ts.length=some j):rdT ts ws=ts∧rdI ts ws=j:=by unfold rdT rdI;rw [h];exact ⟨E,E⟩
theorem A0H(h:plc ws ts.length=none):rdT ts ws=add ts (B5N ws)∧rdI ts ws=at_ ts (B5N ws):=by unfold rdT rdI;rw [h];exact ⟨E,E⟩
theorem A7J{n:Nat}(h:plc ws n=some j):j<n∧∀m,j<m->plc ws m=some j:=by
  unfold plc at h;split at h
  . rename_i hc;have e:=Ca h;subst e;exact ⟨hc.2.2.2,λm hm=>B2u ⟨hc.1,hc.2.1,hc.2.2.1,hm⟩⟩
  . cases h
theorem A9H{t:Tm}(h:pos ts t=none):add ts t=ts++[t]∧at_ ts t=ts.length:=by unfold add at_;rw [h];exact ⟨E,E⟩
theorem A6q{t:Tm}(h:pos ts t=some j):add ts t=ts∧at_ ts t=j:=by unfold add at_;rw [h];exact ⟨E,E⟩
variable{e4:TypeId}{f4:Nat×Nat}
theorem A7K(bt bm:Nat)(ts:List Tm)(vp:Value)(ws:LN)(MT A:Mem)(hT:Tab bt bm ts MT)(hn:ts.length<=1048576)(hp:Rd A 1 vp ws.length (nums .u8 ws))(hw:∀x∈ws,x<256)(hl:ws.length<=1099511627776)(h4:(4,Obj.cells (nums .u64 A0G).toArray e4 f4)∈A):FnX prog 76 [(vP bt),vp] MT A λr M J=>J=[]∧r=(vI (rdI ts ws))∧Tab bt bm (rdT ts ws) M:=by
 haveI:=hp.cel
 haveI:B256 ws:=⟨hw⟩
 refine Ck (N:=20) func76 E E E λw=>?_;refine A8 (D0 0 1) (A1 (as_ (A0 (D0 0 1) (A3 (A1 (mv_ (mv_ ?_)))))));refine E6 (aS E (aS E a0)) kR (A0W bt bm ts vp ws MT _ hT qS hn (hp.mono qS) hw (Az hl (by unfold maxLen;omega))) E ?_;refine mV_ E (lQ_ (Z9 E) (lQ_ (Z5 E) (as_ (as_ (A0 (D7 0 1 5 6) (A1 (mv_ (A0 (D7 0 1 5 13) ?_))))))));refine C3 E ?_ ?_<;>intro hc
 . obtain ⟨j,hj⟩:=Option.isSome_iff_exists.1 hc;obtain ⟨h1,h2⟩:=A0g hj;refine A1 (mv_ (as_ (A0 (D4 4) (A9 (tr ?_)))));exact ⟨_,MT,[],H8 E E,Ao _,by simp,E,by rw [h2,hj];rfl,by rw [h1];exact hT⟩
 .
  have hj:plc ws ts.length=none:=by simpa using hc
  obtain ⟨h1,h2⟩:=A0H hj;refine A6 (nx (D0 0 1) (A1 (mV_ E (mV_ E (lQ_ (L3 E kR (hp.mono qS)) ?_)))));refine lQ_ (F0 (place:=λx=>#[(0,1),(1,1),(2,1),(3,1)][x]?) (z:=[zu8,vS,.string ByteArray.empty,P0]) (λ_=>by kernel_rfl) (eS E (eS E e0)) (bdS 0 1 E qR (bdS 2 1 E qR bd0))) ?_;refine A2 E (C9 (Mc:=MT) (R:=_) (aS E (aS E a0)) kR qP (R8 bt bm ts (vS) (B5N ws) MT _ hT hn Rd.nil (A3i hw hl) (qS _ h4)) E ?_);rintro v19 M19 J19 ⟨rfl,rfl,hT19⟩;refine as_ (A0 (D4 4) (A9 ?_));exact ⟨_,M19,[],H8 E E,by first|exact Ao _|simp,by simp,E,by rw [h2],by rw [h1];exact hT19⟩
theorem R9:(rdT ts ws).length<=ts.length+1:=by
  unfold rdT;split
  . omega
  . exact A0P
def srt(x y:Int):List Int:=if y<x then [y,x] else [x,y]
def two(j:Nat)(x y:Int):List Int:=if j=1 then [x,y] else [y,x]
def C2T(i:Nat)(x y:Int):List Int:=if i=1 then [x,y] else srt x y
theorem A2b{R:Mem}{b:Nat}{x y:Int}{e:TypeId}{fr:Nat×Nat}(h:(b,Obj.cells (A13 (two j x y)).toArray e fr)∈R):Rd R 1 (.slice (some ⟨b,0,none⟩) 2 2) 2 (A13 (two j x y)):=Co (n:=2) h (by unfold two;split<;>rfl)
theorem B0Q(x:Int)(A:Mem):FnV prog 201 [.int .i64 x] A (.bool false):=by refine Ck (N:=6) func201 E E E λw=>?_;refine A8 (D4 0) (A1 (as_ (A0 (D4 0) (A1 (mv_ (mv_ ?_))))));refine lQ_ (E8 (v:=.bool false) E E (by simp [I4])) ?_;refine as_ (A0 (D4 2) (A9 ?_));refine ⟨_,[],[],H8 E E,Aa _,by simp,E,E,E⟩
theorem B2x(x y:Int)(A:Mem):FnV prog 177 [.int .i64 x,.int .i64 y] A (.bool (decide (x<y))):=by refine Ck (N:=17) func177 E E E λw=>?_;refine A8 (D0 0 1) (A1 (as_ (A0 (D0 0 1) (A1 (mv_ ?_)))));refine E6 (aS E a0) kR (B0Q x _) E ?_;refine mv_ ?_;refine K0 E E E E ?_;refine K0 E E E E ?_;refine K0 E E E E ?_;refine lQ_ (E3 E E) (mv_ ?_);refine F4 E E (Cn qm_ E ?_);refine F4 E E (Cn qm_ E ?_);refine F4 E E (Cn (E8 E E E) E ?_);refine lQ_ (E3 E E) (as_ (A0 (D4 4) (A9 ?_)));refine ⟨_,[],[],H8 E E,Aa _,by simp,E,E,E⟩
theorem B6D(b:Nat)(x y:Int)(A:Mem):FnX prog 171 [.slice (some ⟨b,0,none⟩) 2 2,P0,.int .i64 2] [(b,blk (A13 ([x,y])) 3)] A λr M J=>J=[]∧r=.tuple #[]∧M=[(b,blk (A13 (srt x y)) 3)]:=by
 refine Ck (N:=49) func171 E E E λw=>?_;refine A8 (D6 0 1 2) (A1 (mv_ ?_));refine lQ_ (K5 (a:=0) (b:=1) E E E E qO) ?_;refine as_ (A0 (D7 0 1 2 6) (A7 ?_));refine E5 (α:=Nat) (λi=>[(0,.slice (some ⟨b,0,none⟩) 2 2),(1,.int .i64 0),(2,.int .i64 2),(6,.int .i64 (i:Int))]) (λi=>[(b,blk (A13 (C2T i x y)) 3)]) (λ_=>[]) (λi=>i=1∨i=2) (λi=>2-i) 1 (.inl E) (D7 0 1 2 6) .rfl qI ?_;rintro i hi;refine A3 (A1 (mV_ E (mV_ E (lQ_ (E8 E E E) (A0 (F2 0 1 2 6 12) ?_)))));refine C3 E ?_ ?_<;>intro hc
 .
  obtain rfl:i=1:=by simp at hc;omega
  refine A6 (nx (D7 0 1 2 6) (A3 (A7 (A1 (mv_ (as_ (A0 (F2 0 1 2 6 7) (A7 ?_))))))));refine E5 (α:=Nat) (λj=>[(0,.slice (some ⟨b,0,none⟩) 2 2),(1,.int .i64 0),(2,.int .i64 2),(6,.int .i64 1),(7,.int .i64 (j:Int))]) (λj=>[(b,blk (A13 (two j x y)) 3)]) (λ_=>[]) (λj=>j=1∨(j=0∧y<x)) (λj=>j) 1 (.inl E) (F2 0 1 2 6 7) .rfl qI ?_;rintro j hj;refine A3 ?_;refine C8 (.range 15) (zp 0 [0,0,0,0,0,0,0,1,0,0,0,0,1,2,0]) kR kR λhs=>?_;refine fM_ E E (fM_ E E (fQ_ E (E8 E E E) (fm_ ?_)));refine X9 (t:=19) E (λhb=>?_) (λhb=>?_)
  .
   obtain rfl:j=1:=by have:=of_decide_eq_true hb;omega
   refine fG_ E qm_ (fG_ E qm_ ?_);refine fG_ E (H2 (sz:=1) (a:=1) E E kR E (A2b (R:=[_]) (j:=1) (x:=x) (y:=y) (e:=3) (fr:=(0,0)) qK) qD) ?_;refine fH_ E (Z4 (j:=1) (u:=.int .i64 y) (A2b Cc) E kR E) (fG_ E qm_ (fG_ E qm_ ?_));refine fG_ E (Q7 (a:=1) (b:=1) E E E E qO qO) ?_;refine fG_ E (H2 (sz:=1) (a:=0) E E kR E (A2b (R:=[_]) (j:=1) (x:=x) (y:=y) (e:=3) (fr:=(0,0)) qK) qD) ?_;refine fH_ E (Z4 (j:=0) (u:=.int .i64 x) (A2b Cc) E kR E) ?_;refine A2K E E E E (aS E (aS E a0)) kR (B2x y x _) E ?_;refine fQ_ E (G4 E E) (E0 (G7 0 1 2 6 7 30) ?_);refine C3 E ?_ ?_<;>intro hc
   .
    have hyx:y<x:=by simpa using hc
    refine A6 (nx (F2 0 1 2 6 7) (A3 (A7 ?_)));refine H3 [0,1,2,3,4,5,6,7,8,9,10,11,12,13,14,16] (zp 0 [0,0,0,0,0,0,0,0,0,1,0,0,0,1,0,2,0,2]) kR kR λhs=>?_;refine fM_ E E (fM_ E E (fM_ E E (fm_ ?_)));refine fQ_ E (Q7 (a:=1) (b:=1) E E E E qO qO) ?_;refine fM_ E E (fm_ ?_);refine fQ_ E (Q7 (a:=1) (b:=1) E E E E qO qO) ?_;refine fQ_ E (H2 (sz:=1) (a:=0) E E kR E (A2b (R:=[_]) (j:=1) (x:=x) (y:=y) (e:=3) (fr:=(0,0)) qK) qD) ?_;refine fR_ E (Z4 (j:=0) (u:=.int .i64 x) (A2b Cc) E kR E) (fM_ E E (fm_ ?_));refine fQ_ E (H2 (sz:=1) (a:=1) E E kR E (A2b (R:=[_]) (j:=1) (x:=x) (y:=y) (e:=3) (fr:=(0,0)) qK) qD) ?_;refine fR_ E (Z4 (j:=1) (u:=.int .i64 y) (A2b Cc) E kR E) ?_;refine fQ_ E (H2 (sz:=1) (a:=1) E E kR E (A2b (R:=[_]) (j:=1) (x:=x) (y:=y) (e:=3) (fr:=(0,0)) qK) qD) ?_;refine G1 E E E (E4 (show ev _ _=some (.pointer (some ⟨b,1,none⟩)) from rfl) E E kR (show SetL [.int .i64 x,.int .i64 y] 1 (.int .i64 x) [.int .i64 x,.int .i64 x] from Cq) Cs ?_);refine fQ_ E (H2 (sz:=1) (a:=0) E E kR E (A2b (R:=[_]) (j:=1) (x:=x) (y:=y) (e:=3) (fr:=(0,0)) qK) qD) ?_;refine G1 E E E (E4 (show ev _ _=some (vP b) from rfl) E E kR (show SetL [.int .i64 x,.int .i64 x] 0 (.int .i64 y) [.int .i64 y,.int .i64 x] from Cq) Cs ?_);refine R7 (nb (nx (F2 0 1 2 6 7) (C1 (mv_ ?_))));refine lQ_ (Q7 (a:=1) (b:=1) E E E E qO qO) ?_;refine as_ (C5 ?_);exact rn 0 (.inr ⟨E,hyx⟩) qD (F2 0 1 2 6 7) .rfl qI
   .
    have hyx:¬y<x:=by simpa using hc
    refine D8 (te (re (be E (nb (nx (D7 0 1 2 6) (C1 (mv_ ?_)))))));refine lQ_ (K5 (a:=1) (b:=1) E E E E qO) ?_;refine as_ (C5 ?_);exact rn 2 (.inr E) qD (D7 0 1 2 6) (by rw [show C2T 2 x y=[x,y] by unfold C2T srt;simp [hyx]];exact .rfl) qI
  .
   obtain ⟨rfl,hyx⟩:j=0∧y<x:=by have:=of_decide_eq_false hb;omega
   refine K9 hs ?_;refine K9 hs ?_;refine K9 hs ?_;refine W1 hs ?_;refine K9 hs ?_;refine K9 hs ?_;refine K9 hs ?_;refine K9 hs ?_;refine W1 hs ?_;refine A7s hs E E E E E E ?_;refine fQ_ E (E3 E E) (E0 (G7 0 1 2 6 7 30) ?_);refine C7 E ?_;refine D8 (te (re (be E (nb (nx (D7 0 1 2 6) (C1 (mv_ ?_)))))));refine lQ_ (K5 (a:=1) (b:=1) E E E E qO) ?_;refine as_ (C5 ?_);exact rn 2 (.inr E) qD (D7 0 1 2 6) (by rw [show C2T 2 x y=[y,x] by unfold C2T srt;simp [hyx]];exact .rfl) qI
 .
  obtain rfl:i=2:=by simp at hc;omega
  refine D8 (te (re (be E ?_)));exact ⟨_,_,[],A9l E,Ao _,by simp,E,E,E⟩
theorem B6E(b:Nat)(x y n:Int)(A:Mem):FnX prog 154 [.slice (some ⟨b,0,none⟩) 2 2,P0,.int .i64 2,.int .i64 n] [(b,blk (A13 ([x,y])) 3)] A λr M J=>J=[]∧r=.tuple #[]∧M=[(b,blk (A13 (srt x y)) 3)]:=by
 refine Ck (N:=134) func154 E E E λw=>?_;refine A8 (D7 0 1 2 3) (A1 (as_ (A0 (F2 0 1 2 3 8) (A1 (as_ (A0 (G7 0 1 2 3 8 9) (A7 ?_)))))));refine E5 (α:=Unit) (λ_=>[(0,.slice (some ⟨b,0,none⟩) 2 2),(1,.int .i64 0),(2,.int .i64 2),(3,.int .i64 n),(8,.bool true),(9,.bool true)]) (λ_=>[(b,blk (A13 ([x,y])) 3)]) (λ_=>[]) (λ_=>True) (λ_=>0) () trivial (G7 0 1 2 3 8 9) .rfl qI ?_;rintro _ _;refine A7 (A1 (mv_ (mv_ ?_)));refine lQ_ (Q7 (a:=2) (b:=0) E E E E qO qO) ?_;refine as_ (A0 (N9 0 1 2 3 8 9 10) (A3 (A1 (mv_ ?_))));refine lQ_ (E8 (v:=.bool true) E E qR) ?_;refine A0 (W6 0 1 2 3 8 9 10 23) ?_;refine C3 E ?_ ?_<;>intro hc
 . refine A1 (mv_ (mv_ (mv_ ?_)));refine A2 E (C9 (Mc:=[(b,blk (A13 ([x,y])) 3)]) (R:=[]) (aS E (aS E (aS E a0))) kR (.refl _) (B6D b x y _) E ?_);rintro v27 M27 J27 ⟨rfl,rfl,rfl⟩;refine A0 kn (A9 (tr (br (rr (br ?_)))));exact ⟨_,_,[],A9l E,by first|exact Ao _|simp,by simp,E,E,by first|rfl|simp⟩
 . exact absurd hc qD
theorem B6F(x:Nat)(hx:x<18446744073709551616)(A:Mem):FnX prog 155 [.int .u64 (x:Int)] [] A λr M J=>M=[]∧J=[]∧∃n:Int,r=.int .i64 n:=by
 refine Ck (N:=8) func155 E E E λw=>?_;refine A8 (D4 0) (A1 (as_ (A0 (D4 0) (A3 ?_))));refine C3 E ?_ ?_<;>intro hc
 . exact absurd hc qD
 . refine A6 (nx (D4 0) (A1 (mv_ ?_)));refine C6 (aS E a0) kR (A5z x hx _) E ?_;rintro v7 M7 J7 ⟨rfl,rfl,n7,rfl,-⟩;refine as_ (A0 (D4 2) (A9 ?_));exact ⟨_,[],[],H8 E E,by first|exact Ao _|simp,by simp,E,E,_,E⟩
theorem B2y(b:Nat)(x y:Int)(A:Mem):FnX prog 120 [.slice (some ⟨b,0,none⟩) 2 2] [(b,blk (A13 ([x,y])) 3)] A λr M J=>J=[]∧r=.tuple #[]∧M=[(b,blk (A13 (srt x y)) 3)]:=by refine Ck (N:=11) func120 E E E λw=>?_;refine A8 (D4 0) (A1 (mV_ E (lQ_ (A1c (e:=3) E kR) (as_ (A0 (D0 0 2) (C1 (mv_ (mv_ (mv_ ?_)))))))));refine lQ_ (K4 (k':=.u64) 2 E kR qR) ?_;refine C6 (aS E a0) kR (B6F 2 qD _) E ?_;rintro v9 M9 J9 ⟨rfl,rfl,n9,rfl⟩;refine A2 E (C9 (Mc:=[(b,blk (A13 ([x,y])) 3)]) (R:=[]) (aS E (aS E (aS E (aS E a0)))) kR (.refl _) (B6E b x y _ _) E ?_);rintro v10 M10 J10 ⟨rfl,rfl,rfl⟩;refine C5 ?_;exact ⟨_,_,[],A9l E,by first|exact Ao _|simp,by simp,E,E,by first|rfl|simp⟩
def agT(ts:List Tm)(s o:Int):Tm:=if 0<=o then match ts[o.toNat]? with
  | some t=>if t.kind=3∧t.of.length=1 then ⟨4,srt s (t.of.getD 0 0),[],0⟩ else ⟨4,[s,o],[],1⟩
  | none=>⟨4,[s,o],[],1⟩ else ⟨4,[s,o],[],1⟩
variable{s o:Int}
theorem C2U(h:¬(0<=o∧o<(ts.length:Int))):agT ts s o=⟨4,[s,o],[],1⟩:=by
  unfold agT;by_cases h0:0<=o
  . rw [if_pos h0,List.getElem?_eq_none qO]
  . rw [if_neg h0]
theorem B8M{t:Tm}(h0:0<=o)(h:ts[o.toNat]? = some t)(hk:¬(t.kind=3∧t.of.length=1)):agT ts s o=⟨4,[s,o],[],1⟩:=by unfold agT;rw [if_pos h0,h];exact if_neg hk
theorem B2z{t:Tm}(h0:0<=o)(h:ts[o.toNat]? = some t)(hk:t.kind=3∧t.of.length=1):agT ts s o=⟨4,srt s (t.of.getD 0 0),[],0⟩:=by unfold agT;rw [if_pos h0,h];exact if_pos hk
theorem A2S{A:Mem}{i:Int}{c:List Value}{ok:Bool}(hts:∀t∈ts,Tmo t)(h1:(0<=i∧i<(ts.length:Int))->ok=true∧∃t,ts[i.toNat]? = some t∧TmC A c t)(h2:¬(0<=i∧i<(ts.length:Int))->ok=false∧c=tmc 0 (vS) [] 0) :
    ∃(vo:Value) (t:Tm),c=tmc t.kind vo t.text t.n∧Rd A 1 vo t.of.length (A13 t.of)∧(∀z∈t.of,i64 z)∧t.kind<256∧(ok=true->0<=i∧ts[i.toNat]? = some t)∧(ok=false->¬(0<=i∧i<(ts.length:Int))):=by
  by_cases h:0<=i∧i<(ts.length:Int)
  . obtain ⟨e,t,ht,vo,hc,hr⟩:=h1 h;have hto:=hts t (As ht);exact ⟨vo,t,hc,hr,hto.of,hto.kind,λ_=>⟨h.1,ht⟩,λe'=>by rw [e] at e';cases e'⟩
  . obtain ⟨e,hc⟩:=h2 h;exact ⟨vS,⟨0,[],[],0⟩,hc,Rd.nil,(λz hz=>by cases hz),by decide,(λe'=>by rw [e] at e';cases e'),λ_=>h⟩
theorem A2p(x y:Int):(srt x y).length=2:=by unfold srt;split<;>rfl
theorem B2A{x y z:Int}(h:z∈srt x y):z=x∨z=y:=by unfold srt at h;split at h<;>simp at h<;>omega
theorem B2B{s o n:Int}{l:List Int}(hl:l.length=2)(h:∀z∈l,i64 z)(hn:n=0∨n=1):Tmo ⟨4,l,[],n⟩:=⟨show 4<256 by decide,show i64 n by unfold i64;omega,h,show l.length<=1048576 by omega,⟨λx hx=>(List.not_mem_nil hx).elim⟩,show 0<=1099511627776 by decide⟩
theorem B0R(bt bm:Nat)(ts:List Tm)(s o:Int)(MT A:Mem)(hT:Tab bt bm ts MT)(hn:ts.length<=1048576)(hs:i64 s)(ho:i64 o)(h4:(4,Obj.cells (nums .u64 A0G).toArray e4 f4)∈A):FnX prog 78 [(vP bt),.int .i64 s,.int .i64 o] MT A λr M J=>J=[]∧r=(vI (at_ ts (agT ts s o)))∧Tab bt bm (add ts (agT ts s o)) M:=by
 have hnT:=hT;obtain ⟨_,_,_,_,_,_,_,_,_,_,_,hts,hnd⟩:=hnT;refine Ck (N:=46) func78 E E E λw=>?_;refine A8 (D6 0 1 2) (A1 (as_ (A0 (D6 0 1 2) (A3 (A1 (mv_ (mv_ ?_)))))));refine C6 (aS E (aS E a0)) kR (A2R bt bm ts o MT _ hT qS) E ?_;rintro v13 M13 J13 ⟨rfl,rfl,c13,ok13,rfl,hg1,hg2⟩;obtain ⟨vo,t,rfl,hvo,hz,htk,hok,hno⟩:=A2S hts hg1 hg2;haveI:=hvo.cel;refine mV_ E (lQ_ (Z9 E) (lQ_ (Z5 E) ?_));refine A2 E (C2 (cs:=[zu8,vS,.string ByteArray.empty,P0]) kR E λb7=>?_);refine A2 E (A5 E E E kR qR (by intro c hc;simp only [Cv,Cw,or_false] at hc;rcases hc with rfl|rfl|rfl|rfl<;>first|rfl|exact hvo.one) Cs ?_);refine as_ (A0 (F2 0 1 2 7 8) (A1 (mv_ (mv_ ?_))));refine V8 (t:=17) E (λhb=>?_) (λhb=>?_)
 .
  obtain ⟨h0,hget⟩:=hok hb;refine F4 E E (Cn (qf_ 0 0) E ?_);refine F4 E E (Cn ql_ E ?_);refine F4 E E (Cn (E8 E E E) E ?_);refine lQ_ (G4 E E) (mv_ ?_);refine V8 (t:=22) E (λhb=>?_) (λhb=>?_)
  .
   have hk3:t.kind=3:=by simp at hb;omega
   refine F4 E E (Cn (qf_ 1 1) E ?_);refine F4 E E (Cn ql_ E ?_);refine F4 E E (Cn (G2 (sz:=1) E kR hvo) E ?_);refine F4 E E (Cn (E8 E E E) E ?_);refine lQ_ (G4 E E) (A0 (F2 0 1 2 7 27) ?_);refine C3 E ?_ ?_<;>intro hc
   .
    have h1:t.of.length=1:=by simp at hc;omega
    have hag:=B2z (s:=s) h0 hget ⟨hk3,h1⟩;have hz0:i64 (t.of.getD 0 0):=hz _ (by rw [Aj,Ab qO];exact List.getElem_mem _);generalize hzz:t.of.getD 0 0=z0 at *;refine A1 (mV_ E (lQ_ (qf_ 1 1) ?_));refine lQ_ ql_ ?_;refine lQ_ (H2 (sz:=1) (a:=0) E E kR E hvo qO) ?_;refine lQ_ (Z4 (j:=0) (u:=.int .i64 z0) (hvo.mono qS) E kR (by rw [<- hzz,Aj,A13,List.getElem?_map,Ab qO];rfl)) ?_;refine A2 E (C4 (e:=3) (sz:=1) (z:=[P0,P0]) kR (eS E (eS E e0)) (bdS 0 1 E qR (bdS 1 1 E qR bd0)) E λb33=>?_);refine as_ (A0 (D0 0 9) (A1 (mv_ ?_)));refine A2 E (C9 (Mc:=[(b33,blk [.int .i64 s,.int .i64 z0] 3)]) (R:=_) (aS E a0) kR qP (B2y b33 s z0 _) E ?_);rintro v35 M35 J35 ⟨rfl,rfl,rfl⟩;refine A0 (D0 0 9) (A1 (mv_ (mv_ ?_)));refine lQ_ (F0 (place:=λx=>#[(0,1),(1,1),(2,1),(3,1)][x]?) (z:=[zu8,vS,.string ByteArray.empty,P0]) (λ_=>by kernel_rfl) (eS E (eS E e0)) (bdS 0 1 E qR (bdS 1 1 E qR bd0))) ?_;refine A2 E (C9 (Mc:=MT) (R:=_) (aS E (aS E a0)) kR qP (R8 bt bm ts _ ⟨4,srt s z0,[],0⟩ MT _ hT hn (by rw [A2p];exact (Co (n:=2) Cc (by first|rfl|exact (A32 _).trans (A2p _ _)))) (B2B (s:=s) (o:=o) (A2p _ _) (λq hq=>(B2A hq).elim (λe=>e▸hs) (λe=>e▸hz0)) (.inl E)) (qS _ h4)) E ?_);rintro v39 M39 J39 ⟨rfl,rfl,hT39⟩;refine as_ (A0 (D4 6) (A9 (tr ?_)));exact ⟨_,M39,[],H8 E E,by first|exact Ao _|simp,by simp,E,by rw [hag],by rw [hag];exact hT39⟩
   . have hag:=B8M (s:=s) h0 hget (λh=>by have:=h.2;simp at hc;omega);refine A6 (nx (D6 0 1 2) (A1 (mv_ (mv_ (mv_ ?_)))));refine A2 E (C4 (e:=3) (sz:=1) (z:=[P0,P0]) kR (eS E (eS E e0)) (bdS 0 1 E qR (bdS 1 1 E qR bd0)) E λb43=>?_);refine lQ_ (F0 (place:=λx=>#[(0,1),(1,1),(2,1),(3,1)][x]?) (z:=[zu8,vS,.string ByteArray.empty,P0]) (λ_=>by kernel_rfl) (eS E (eS E (eS E e0))) (bdS 0 1 E qR (bdS 1 1 E qR (bdS 3 1 E qR bd0)))) ?_;refine A2 E (C9 (Mc:=MT) (R:=_) (aS E (aS E a0)) kR qP (R8 bt bm ts _ ⟨4,[s,o],[],1⟩ MT _ hT hn (Co (n:=2) Cc (by first|rfl|exact (A32 _).trans (A2p _ _))) (B2B (s:=s) (o:=o) E (λq hq=>by simp at hq;rcases hq with rfl|rfl<;>assumption) (.inr E)) (qS _ h4)) E ?_);rintro v45 M45 J45 ⟨rfl,rfl,hT45⟩;refine as_ (A0 (D4 6) (A9 ?_));exact ⟨_,M45,[],H8 E E,by first|exact Ao _|simp,by simp,E,by rw [hag],by rw [hag];exact hT45⟩
  . have hag:=B8M (s:=s) h0 hget (λh=>by have:=h.1;simp at hb;omega);refine K0 E E E E ?_;refine K0 E E E E ?_;refine K0 E E E E ?_;refine K0 E E E E ?_;refine lQ_ (E3 E E) (A0 (F2 0 1 2 7 27) ?_);refine C7 E ?_;refine A6 (nx (D6 0 1 2) (A1 (mv_ (mv_ (mv_ ?_)))));refine A2 E (C4 (e:=3) (sz:=1) (z:=[P0,P0]) kR (eS E (eS E e0)) (bdS 0 1 E qR (bdS 1 1 E qR bd0)) E λb43=>?_);refine lQ_ (F0 (place:=λx=>#[(0,1),(1,1),(2,1),(3,1)][x]?) (z:=[zu8,vS,.string ByteArray.empty,P0]) (λ_=>by kernel_rfl) (eS E (eS E (eS E e0))) (bdS 0 1 E qR (bdS 1 1 E qR (bdS 3 1 E qR bd0)))) ?_;refine A2 E (C9 (Mc:=MT) (R:=_) (aS E (aS E a0)) kR qP (R8 bt bm ts _ ⟨4,[s,o],[],1⟩ MT _ hT hn (Co (n:=2) Cc (by first|rfl|exact (A32 _).trans (A2p _ _))) (B2B (s:=s) (o:=o) E (λq hq=>by simp at hq;rcases hq with rfl|rfl<;>assumption) (.inr E)) (qS _ h4)) E ?_);rintro v45 M45 J45 ⟨rfl,rfl,hT45⟩;refine as_ (A0 (D4 6) (A9 ?_));exact ⟨_,M45,[],H8 E E,by first|exact Ao _|simp,by simp,E,by rw [hag],by rw [hag];exact hT45⟩
 . have hag:=C2U (s:=s) (hno hb);refine K0 E E E E ?_;refine K0 E E E E ?_;refine K0 E E E E ?_;refine lQ_ (E3 E E) (mv_ ?_);refine K0 E E E E ?_;refine K0 E E E E ?_;refine K0 E E E E ?_;refine K0 E E E E ?_;refine lQ_ (E3 E E) (A0 (F2 0 1 2 7 27) ?_);refine C7 E ?_;refine A6 (nx (D6 0 1 2) (A1 (mv_ (mv_ (mv_ ?_)))));refine A2 E (C4 (e:=3) (sz:=1) (z:=[P0,P0]) kR (eS E (eS E e0)) (bdS 0 1 E qR (bdS 1 1 E qR bd0)) E λb43=>?_);refine lQ_ (F0 (place:=λx=>#[(0,1),(1,1),(2,1),(3,1)][x]?) (z:=[zu8,vS,.string ByteArray.empty,P0]) (λ_=>by kernel_rfl) (eS E (eS E (eS E e0))) (bdS 0 1 E qR (bdS 1 1 E qR (bdS 3 1 E qR bd0)))) ?_;refine A2 E (C9 (Mc:=MT) (R:=_) (aS E (aS E a0)) kR qP (R8 bt bm ts _ ⟨4,[s,o],[],1⟩ MT _ hT hn (Co (n:=2) Cc (by first|rfl|exact (A32 _).trans (A2p _ _))) (B2B (s:=s) (o:=o) E (λq hq=>by simp at hq;rcases hq with rfl|rfl<;>assumption) (.inr E)) (qS _ h4)) E ?_);rintro v45 M45 J45 ⟨rfl,rfl,hT45⟩;refine as_ (A0 (D4 6) (A9 ?_));exact ⟨_,M45,[],H8 E E,by first|exact Ao _|simp,by simp,E,by rw [hag],by rw [hag];exact hT45⟩

end Go.Proofs.YtglbhoeolghndaaGreatDoor
namespace Go.Px
theorem wf_u{k:IntKind}(hk:k.signed=false){n:Int}(h:(Lit.int k n).wf=true):0<=n∧n<2^k.bits:=by cases k<;>simp_all [Lit.wf,IntKind.min,IntKind.max,IntKind.bits,IntKind.signed]<;>omega
end Go.Px

namespace Go.Px
open Go.ChangeShapes Go.WideShapes Go.ChangeAt Go.RowKit
def B0S(w:World):Mem:=(List.range w.heap.size).filterMap λb=>(w.heap[b]?).map λo=>(b,o)
theorem A1z{w:World}{b:Nat}{o:Obj}:(b,o)∈B0S w↔w.heap[b]? = some o:=by
  simp only [B0S,List.mem_filterMap,List.mem_range,Option.map_eq_some_iff,Prod.mk.injEq];constructor
  . rintro ⟨x,_,y,h,rfl,rfl⟩;exact h
  . intro h;exact ⟨b,T4 h,o,h,E,E⟩
theorem heapA_fx(w:World):Fx (B0S w) w:=λb o h=>A1z.1 h
section
variable{H:Type}{enc:TypeId×Value->H}{P:Program}{w:World}{spare:Nat->Bool}{held:Bool}{fuel:Nat}{t e:TypeId}{cs:List Value}{x:DataW H×List MemPlace}{v:Value}{d:DataW H}{p:List MemPlace}{r:Reach}{base:Nat}{k:IntKind}
theorem A2T{a:Addr}{n:Nat}{c:List Value}(h:w.cells? 0 a n=some c):c.length=n∧∀j,j<n->w.cell? (a.add j)=c[j]?:=by unfold World.cells? at h;rw [if_pos (Am _)] at h;exact ⟨by simpa using mapM_some_length h,λj hj=>mapM_some_get h j j (by simp [hj])⟩
theorem B6G{sz:Nat}(ht:P.underlying t=some (.slice e))(hsz:P.cellsOf e=sz)(hs0:0<sz)(h:DataW.trod enc P w 0 spare held fuel t cs=some x) :
    ∃(v:Value) (xss:List (List Value)),cs=[v]∧xss.length<=maxLen∧Rd (B0S w) sz v xss.length xss.flatten∧∀c∈xss,c.length=sz∧∃m y,DataW.trod enc P w 0 spare held m e c=some y:=by
  rcases DataW.trod_slice ht h with ⟨rfl,_⟩|⟨a,len,cap,elems,rest,n,_,rfl,_,_,hl,hm,hlen,hel,_,_⟩
  . exact ⟨_,[],rfl,by simp,Rd.nil,λc hc=>by cases hc⟩
  . rw [hsz] at hel
    have hrow:∀i,i<len->∃c y,w.cells? 0 (a.add (i*sz)) sz=some c∧DataW.trod enc P w 0 spare held n e c=some y:=by intro i hi;have h1:=hel i hi;rw [Ab (by omega)] at h1;obtain ⟨c,h2,h3⟩:=Option.bind_eq_some_iff.1 h1;exact ⟨c,_,h2,h3⟩
    have hget:∀i,i<len->((List.range len).map λi=>(w.cells? 0 (a.add (i*sz)) sz).getD [])[i]? = some ((w.cells? 0 (a.add (i*sz)) sz).getD []):=by intro i hi;simp [hi]
    have hlen2:∀c∈(List.range len).map (λi=>(w.cells? 0 (a.add (i*sz)) sz).getD []),c.length=sz∧∃m y,DataW.trod enc P w 0 spare held m e c=some y:=by intro c hc;obtain ⟨i,hi,rfl⟩:=List.mem_map.1 hc;obtain ⟨c,y,h1,h2⟩:=hrow i (List.mem_range.1 hi);rw [h1,Option.getD_some];exact ⟨(A2T h1).1,n,y,h2⟩
    refine ⟨_,(List.range len).map λi=>(w.cells? 0 (a.add (i*sz)) sz).getD [],E,by simp;omega,?_,hlen2⟩;have hl1:((List.range len).map λi=>(w.cells? 0 (a.add (i*sz)) sz).getD []).length=len:=by simp
    have hfl:=A53 (rows:=(List.range len).map λi=>(w.cells? 0 (a.add (i*sz)) sz).getD []) (s:=sz) λc hc=>(hlen2 c hc).1;rw [hl1];rw [hl1] at hfl;by_cases h0:len*sz=0
    . refine ⟨some a,cap,E,hfl,hl,.inl ?_⟩;rcases Nat.mul_eq_zero.1 h0 with h|h<;>omega
    . have hlp:0<len:=Nat.pos_of_ne_zero (by rintro rfl;simp at h0);have hsp:0<sz:=Nat.pos_of_ne_zero (by rintro rfl;simp at h0);obtain ⟨c0,y0,h1,_⟩:=hrow 0 hlp;have h2:=(A2T h1).2 0 hsp;have h3:=(A2T h1).1;obtain ⟨b,o,sp⟩:=a;have hadd:((⟨b,o,sp⟩:Addr).add (0*sz)).add 0=⟨b,o,sp⟩:=by simp [Addr.add]
      rw [hadd,Ab (by omega)] at h2
      cases hb:w.heap[b]? with
      | none=>simp [World.cell?,hb] at h2
      | some ob =>
        cases ob<;>simp [World.cell?,hb] at h2;rename_i cells et fr;obtain ⟨rfl,h2⟩:=h2;refine ⟨_,cap,E,hfl,hl,.inr ⟨b,o,cells.toList,et,fr,E,A1z.2 (by simpa using hb),λj u hj=>?_⟩⟩;have hjl:j<len*sz:=by have:=(Ac.1 hj).1;rwa [hfl] at this
        have hi:j/sz<len:=Nat.div_lt_of_lt_mul (by rw [Nat.mul_comm];exact hjl);have hr:j%sz<sz:=Ad _ hsp;have hj2:=A2D (λc hc=>(hlen2 c hc).1) (hget _ hi) (j%sz) hr;have ej:j/sz*sz+j%sz=j:=by rw [Nat.mul_comm];exact Nat.div_add_mod j sz
        rw [ej,hj] at hj2;obtain ⟨c,y,h5,_⟩:=hrow _ hi;rw [h5,Option.getD_some] at hj2;have h6:=(A2T h5).2 _ hr;rw [<- hj2,Addr.add_mid,Addr.add_mid,World.cell?,hb] at h6;simp only [Option.isSome_none,Bool.false_eq_true,if_false] at h6;rw [Array.getElem?_toList,show o+j=o+j/sz*sz+j%sz by omega,h6]
theorem A7L(hk:k.signed=false){n:Int}(h:(Lit.int k n).wf=true):∃m:Nat,n=(m:Int)∧m<2^k.bits:=by
  obtain ⟨h1,h2⟩:=wf_u hk h;obtain ⟨m,rfl⟩:=Int.eq_ofNat_of_zero_le h1;refine ⟨m,E,?_⟩;have h3:((m:Nat):Int)<((2^k.bits:Nat):Int):=by simpa using h2
  exact Int.ofNat_lt.1 h3
theorem inU(ht:P.underlying t=some (.int k))(hk:k.signed=false)(hv:Value.okWide P w r base t v)(h:DataW.Trod enc P w 0 spare held t v d p):∃n:Nat,v=.int k (n:Int)∧n<2^k.bits:=by obtain ⟨n,rfl⟩:=okWide_int ht hv;obtain ⟨f,hf⟩:=h;obtain ⟨m,h1,_,h2⟩:=DataW.trod_int ht hf;obtain ⟨q,rfl,h3⟩:=A7L hk h2;exact ⟨q,by simpa [Value.cells] using h1,h3⟩
theorem B6H(hk:k.signed=false)(he:P.underlying e=some (.int k)){xss:List (List Value)}(h:∀c∈xss,c.length=1∧∃m y,DataW.trod enc P w 0 spare held m e c=some y) :
    ∃ws:List Nat,xss.flatten=nums k ws∧ws.length=xss.length∧∀x∈ws,x<2^k.bits:=by
  induction xss with
  | nil=>exact ⟨[],rfl,rfl,λx hx=>by cases hx⟩
  | cons c xss ih =>
    obtain ⟨ws,h1,h2,h3⟩:=ih λc hc=>h c (by simp [hc]);obtain ⟨_,m,y,h4⟩:=h c (by simp);obtain ⟨n,rfl,_,h5⟩:=DataW.trod_int he h4;obtain ⟨q,rfl,h6⟩:=A7L hk h5;refine ⟨q::ws,by rw [List.flatten_cons,h1];rfl,by simp [h2],λx hx=>?_⟩;rcases List.mem_cons.1 hx with rfl|hx
    . exact h6
    . exact h3 x hx
theorem inSlU(ht:P.underlying t=some (.slice e))(he:P.underlying e=some (.int k))(hc:P.cellsOf e=1)(hk:k.signed=false)(hv:Value.okWide P w r base t v)(h:DataW.Trod enc P w 0 spare held t v d p) :
    ∃ws,Rd (B0S w) 1 v ws.length (nums k ws)∧(∀x∈ws,x<2^k.bits)∧ws.length<=maxLen:=by
  obtain ⟨a,len,cap,rfl⟩:=okWide_slice ht hv;obtain ⟨f,hf⟩:=h;obtain ⟨v,xss,h1,h2,h3,h4⟩:=B6G ht hc (by decide) hf;obtain ⟨ws,h5,h6,h7⟩:=B6H hk he h4;obtain rfl:Value.slice a len cap=v:=by simpa [Value.cells] using h1
  exact ⟨ws,by rw [h6,<- h5];exact h3,h7,by omega⟩
end
end Go.Px

namespace Go.Px
variable{c:Code}
section
variable{C:Cx}{Q:XQ}{l:Env}{M J B R M':Mem}{w:World}
theorem St.freezes(h:St C (B++M) J w):St C M (B++J) w:=by
  induction B generalizing J with
  | nil=>exact h
  | cons x B ih =>
    have h1:=ih (J:=x::J) (St.freeze (by simpa using h));refine h1.drop (Ao _) λy hy=>?_;simp only [Cu,Cv,List.mem_append] at hy ⊢;rcases hy with h|h|h<;>simp [h]
theorem St.frz(hp:M.Perm (B++M'))(h:St C M J w):St C M' (B++J) w:=(h.perm hp).freezes
theorem A0a(hp:M.Perm (B++M'))(h:XC C c Q l M' (B++J)):XC C c Q l M J:=λa w ha hw=>h a w ha (hw.frz hp)
theorem A4w{ops:Array Oper}{rest:List Oper}(hp:M.Perm (B++M'))(h:XL C ops rest Q l M' (B++J)):XL C ops rest Q l M J:=λa w ha hw=>h a w ha (hw.frz hp)
end
variable{P:Program}{f:FuncId}{args:List Value}
theorem FnX.frz0{A:Mem}{φ:Value->Mem->Prop}(h:FnX P f args [] A λr M J=>J=[]∧φ r M):FnX P f args [] A λr M J=>M=[]∧φ r J:=by intro w hw;refine Calls.mono (h w hw) ?_;rintro e w' ⟨v,M',J,rfl,⟨rfl,hq⟩,hs⟩;exact ⟨v,[],M',E,⟨E,hq⟩,by have:=St.frz (B:=M') (M':=[]) (by simp) hs;simpa using this⟩
structure By(R:Mem)(v:Value)(w:List Nat):Prop where
  rd:Rd R 1 v w.length (nums .u8 w)
  lt:∀x∈w,x<256
  len:w.length<=16777216
theorem By.mono{R R':Mem}{v:Value}{w:List Nat}(h:By R v w)(hR:∀x,x∈R->x∈R'):By R' v w:=⟨h.rd.mono hR,h.lt,h.len⟩
variable{R:Mem}{v:Value}{w:List Nat}
theorem By.b256(h:By R v w):B256 w:=⟨h.lt⟩
theorem By.one{R:Mem}{v:Value}{w:List Nat}(h:By R v w):v.oneCell'=true:=h.rd.one
theorem By.cel{R:Mem}{v:Value}{w:List Nat}(h:By R v w):Cel v [v]:=h.rd.cel
theorem By.nil{R:Mem}:By R (.slice none 0 0) []:=⟨Rd.nil,(λx h=>by cases h),by decide⟩
theorem By.max(h:By R v w):w.length<=maxLen:=Az h.len (by unfold maxLen;omega)
structure Lst(R:Mem)(vs:List Value)(ls:List (List Nat)):Prop where
  len:vs.length=ls.length
  get:∀(j:Nat) (w:List Nat),ls[j]? = some w->∃v,vs[j]? = some v∧By R v w
theorem Lst.mono{R R':Mem}{vs:List Value}{ls:List (List Nat)}(h:Lst R vs ls)(hR:∀x,x∈R->x∈R'):Lst R' vs ls:=⟨h.len,λj w hj=>by
  obtain ⟨v,h1,h2⟩:=h.get j w hj
  exact ⟨v,h1,h2.mono hR⟩⟩
variable{vs:List Value}{ls:List (List Nat)}
theorem Lst.at(h:Lst R vs ls){j:Nat}(hj:j<ls.length):∃v,vs[j]? = some v∧By R v ls[j]:=h.get j ls[j] (Ab hj)
theorem Lst.nil:Lst R [] []:=⟨E,λj w h=>by simp at h⟩
theorem Lst.cons(hv:By R v w)(h:Lst R vs ls):Lst R (v::vs) (w::ls):=⟨by simp [h.len],λj u hj=>by
  cases j with
  | zero=>simp at hj;subst hj;exact ⟨v,E,hv⟩
  | succ j=>exact h.get j u hj⟩
theorem Lst.snoc(h:Lst R vs ls)(hv:By R v w):Lst R (vs++[v]) (ls++[w]):=⟨by simp [h.len],λj u hj=>by
  by_cases hlt:j<ls.length
  . rw [Ak hlt] at hj;obtain ⟨v',h1,h2⟩:=h.get j u hj;exact ⟨v',by rw [Ak (Ac.1 h1).1];exact h1,h2⟩
  . rw [Aq (by omega)] at hj
    have hj0:j=ls.length:=by have:=(Ac.1 hj).1;simp at this;omega
    subst hj0;simp at hj;subst hj
    exact ⟨v,by rw [Aq (by rw [h.len];omega),h.len];simp,hv⟩⟩
structure LsV(R:Mem)(v:Value)(ls:List (List Nat)):Prop where
  ex:∃vs,Rd R 1 v ls.length vs∧Lst R vs ls
theorem LsV.mono{R R':Mem}{v:Value}{ls:List (List Nat)}(h:LsV R v ls)(hR:∀x,x∈R->x∈R'):LsV R' v ls:=by obtain ⟨vs,h1,h2⟩:=h.ex;exact ⟨vs,h1.mono hR,h2.mono hR⟩
theorem LsV.nil{R:Mem}:LsV R (.slice none 0 0) []:=⟨[],Rd.nil,Lst.nil⟩
theorem LsV.cel{R:Mem}{v:Value}{ls:List (List Nat)}(h:LsV R v ls):Cel v [v]:=by obtain ⟨vs,h1,_⟩:=h.ex;exact h1.cel
variable{b by_:Nat}{u:Value}{M':Mem}
section loud
variable{C:Cx}{l:Env}{M J:Mem}{K:Env->Mem->Mem->Prop}{d:Nat}{ty t e:TypeId}{pos:String}{af:Array Edge}{g:Option (Nat×Bool)}{x y:Operand}
theorem A4x{m n:Nat}{k:IntKind}{ws us ws':List Nat}{e':TypeId}(hx:ev l x=some (.slice (some ⟨b,0,none⟩) m m))(hy:ev l y=some u)(ht:A10 C.P t=some (e,1,by_))
    (hr:Rd (M++(J++C.A)) 1 u n (nums k us)) (hm:ws.length=m) (hw':ws'=us.take m++ws.drop n) (hu:Upd M b (blk (nums k ws) e') (blk (nums k ws') e') M') (hd:Nat.blt d C.N=true) (h:K ((d,(vI (min n m)))::l) M' J) :
    OpL C ⟨some d,.call { callee:=.builtin .copy,args:=#[x,y],argTypes:=#[t,t] },ty,pos,af,g⟩ l M J K:=by
  intro Qp a w ha hw;obtain ⟨i,z,hut,hi,hz,hzs,his,hib⟩:=T6 ht;obtain ⟨pu,cu,rfl,hul,huc,hub⟩:=hr
  have hru:Rd (M++(J++C.A)) 1 (.slice pu n cu) n (nums k us):=⟨pu,cu,E,hul,huc,hub⟩
  have hb:=hw.mem _ _ (Ae _ hu.mem);have hf:=A3R (P:=C.P) (m:=n) (c2:=cu) (hru.hi (min n m) (Nat.min_le_left _ _)) hw.fx;have hus:us.length=n:=by simpa using hul
  rw [Nat.mul_one,show (nums k us).take (min n m)=nums k (us.take (min n m)) by simp [nums]] at hf;have hst:=run_storeCells_at (P:=C.P) b 0 e' (nums k (us.take (min n m))) 0 (nums k ws).toArray w hb (by simp [hus,hm];omega) E9;simp only [Nat.add_zero,Nat.zero_add,List.take_zero,Ct,nums_len,List.length_take,hus] at hst;rw [<- A0U,<- H6] at hst
  have e1:us.take (min n m)++ws.drop (min (min n m) n)=ws':=by
    rw [hw'];rcases Nat.le_total m n with h|h
    . rw [Nat.min_eq_right h,Nat.min_eq_left h,Bv (l:=ws) (i:=m) (by omega),Bv (l:=ws) (i:=n) (by omega)]
    . rw [Nat.min_eq_left h,Nat.min_self,Aw (l:=us) (i:=n) (by omega),Aw (l:=us) (i:=m) (by omega)]
  rw [e1] at hst
  have hrun:(execOp a.eval ⟨some d,.call { callee:=.builtin .copy,args:=#[x,y],argTypes:=#[t,t] },ty,pos,af,g⟩).run C.P w=.ok (.value (vI (min n m))) (w.setRow b (nums k ws').toArray):=by simp [execOp,resolve,invoke,builtin,ha.ev hx,ha.ev hy,Builtin.copy_,run_underlying hut,sizeOf,typeInfo,hi,his,Builtin.lenOf,hf,hst,goInt]
  unfold Oper.wp;rw [hrun];exact ⟨_,M',J,ha.put (P1 hd) _,hw.setRow hu,h⟩
theorem A2U{sz n m o:Nat}{xs ys:List Value}(hx:ev l x=some (.slice (some ⟨b,o,none⟩) n n))(hy:ev l y=some u)(ht:A10 C.P t=some (e,sz,by_))(hsz:Nat.blt 0 sz=true)
    (hs:Rd (M++(J++C.A)) sz (.slice (some ⟨b,o,none⟩) n n) n xs) (hr:Rd (M++(J++C.A)) sz u m ys) (hm:0<m) (hmax:n+m<=maxLen) (hbytes:(n+m)*by_<=140737488355328) (hd:Nat.blt d C.N=true)
    (k:∀v' B',Sl sz v' (n+m) (xs++ys) B'->K ((d,v')::l) (B'++M) J) :
    OpL C ⟨some d,.call { callee:=.builtin .append,args:=#[x,y],argTypes:=#[t,t] },ty,pos,af,g⟩ l M J K:=by
  intro Qp a w ha hw;obtain ⟨i,z,hu,hi,hz,hzs,his,hib⟩:=T6 ht;obtain ⟨pu,cu,rfl,hul,huc,hub⟩:=hr;obtain ⟨p',c',e',hxl,hcc,hxb⟩:=hs;cases e';subst his;subst hib
  obtain ⟨bu,ou,csu,eu,fru,rfl,hbu,hxu⟩:∃(b o:Nat) (cs:List Value) (e:TypeId) (fr:Nat×Nat),pu=some ⟨b,o,none⟩∧(b,Obj.cells cs.toArray e fr)∈M++(J++C.A)∧∀j u,ys[j]? = some u->cs[o+j]? = some u:=by
    rcases hub with h|h
    . omega
    . exact h
  have hnews:∀j u,ys[j]? = some u->w.cell? ((⟨bu,ou,none⟩:Addr).add j)=some u:=λj u hj=>by rw [Addr.add_mid,A2f hw.fx hbu];simpa using hxu j u hj
  have holds:∀j u,xs[j]? = some u->w.cell? ((⟨b,o,none⟩:Addr).add j)=some u:=λj u hj=>by
    rcases hxb with h|⟨b2,o2,cs2,e2,f2,h1,h2,h3⟩
    . subst h;have:xs=[]:=Bd (by simpa using hxl);subst this;simp at hj
    . cases h1;rw [Addr.add_mid,A2f hw.fx h2];simpa using h3 j u hj
  have hsmall:n+m<=9223372036854775807:=by simp only [maxLen] at hmax;omega
  have hge:=grownCap_ge w (n+m) n e;have hcm:grownCap w (n+m) n e<=maxLen:=grownCap_le_maxLen w (n+m) n e hmax;have hrg:=run_append_grow (P:=C.P) w t ty e i z hu hi hz ⟨b,o,none⟩ n n xs hxl holds ⟨bu,ou,none⟩ m cu ys hul hnews (by omega) (by omega) (growslice_fits (by omega) hbytes)
  have hexec:(execOp a.eval ⟨some d,.call { callee:=.builtin .append,args:=#[x,y],argTypes:=#[t,t] },ty,pos,af,g⟩).run C.P w=.ok (.value (.slice (some ⟨w.heap.size,0,none⟩) (n+m) (grownCap w (n+m) n e))) (w.drew.alloc (.cells (xs.toArray++ys.toArray++Builtin.zeroCells z.cells (grownCap w (n+m) n e-(n+m))) e (0,0))):=by simp [execOp,resolve,invoke,builtin,ha.ev hx,ha.ev hy,hrg]
  unfold Oper.wp;rw [hexec]
  have hsl:Sl i.size (.slice (some ⟨w.heap.size,0,none⟩) (n+m) (grownCap w (n+m) n e)) (n+m) (xs++ys) [(w.heap.size,.cells (xs.toArray++ys.toArray++Builtin.zeroCells z.cells (grownCap w (n+m) n e-(n+m))) e (0,0))]:=by
    refine .inr ⟨w.heap.size,0,_,(xs.toArray++ys.toArray++Builtin.zeroCells z.cells (grownCap w (n+m) n e-(n+m))).toList,e,E,by simp [blk],hge,hcm,?_,?_,?_⟩
    . simp only [Array.length_toList,Array.size_append,List.size_toArray,size_zeroCells,hzs,hxl,hul,<- Nat.add_mul,Nat.zero_add];refine Au _ ?_;omega
    . simp [hxl,hul,Nat.add_mul]
    . intro j u hj;have hlt:j<(xs++ys).length:=(Ac.1 hj).1;rw [Nat.zero_add];simp only [Array.toList_append,List.append_assoc];rw [<- Ap,Ak (by simpa using hlt)];exact hj
  exact ⟨_,_,J,ha.put (P1 hd) _,St.alloc (w:=w.drew) hw.drew _,k _ _ hsl⟩
end loud
def retZ(P:Program)(fn:Func)(A:Mem)(post:Value->Mem->Mem->Prop):XQ
  | .ret,l,M,J=>∃v M' B,Res P fn l (M++(J++A)) v∧Fit M (B++M')∧post v M' (B++J)
  | .normal,l,M,J=>∃v M' B,Res P fn l (M++(J++A)) v∧Fit M (B++M')∧post v M' (B++J)
  | _,_,_,_=>False
variable{M:Mem}
theorem FnX.enterZ{fn:Func}{N:Nat}{A:Mem}{post:Value->Mem->Mem->Prop}
    (hf:P.funcs[f]? = some fn) (hb:fn.body=some c) (hn:fn.ntmps=N) (hN:Nat.ble args.length N=true)
    (h:∀w,XC ⟨P,w,M.map Prod.fst,A,N⟩ c (retZ P fn A post) (C2s args 0) M []):FnX P f args M A post:=by
  intro w hw;refine calls_of_wp hf hb ?_;have hle:args.length<=N:=by simpa using hN
  refine Code.wp_mono ?_ (h w _ w ?_ hw.cx)
  . rintro e a' w' ⟨l,M',J,ha,hw',hq⟩;cases e<;>first|exact hq.elim|skip
    all_goals
      obtain ⟨v,M2,B,hv,hM2,hp⟩:=hq;exact ⟨ha.defers,v,hv N a' w' ha hw'.fx,v,M2,B++J,E,hp,(hw'.fit hM2 (λ_ h=>h)).freezes.cx⟩
  . refine ⟨E,by simp [hn];omega,?_⟩;intro i v hi;obtain ⟨_,h2⟩:=A8v args 0 i v hi;simp only [Nat.sub_zero] at h2;have hlt:i<args.length:=(Ac.1 h2).1;rw [Array.getElem?_append_left (by simpa using hlt)];simpa using h2
theorem Fit.nil:Fit M ([]++[]):=Fit.sub (List.nil_sublist _)
theorem Fit.none(h:Fit M M'):Fit M ([]++M'):=h
instance PickC.two{M X Y R1 R:Mem}[h1:PickC M X R1][h2:PickC R1 Y R]:PickC M (X++Y) R:=⟨h1.perm.trans (by rw [Ap];exact h2.perm.append_left X)⟩
instance(priority:=50) PickC.left{D M B R:Mem}[h:PickC D B R]:PickC (D++M) B (R++M):=⟨(List.Perm.append_right M h.perm).trans (by rw [Ap])⟩
instance(priority:=60) PickC.consB{M B R1 R:Mem}{x:Nat×Obj}[h1:PickC M [x] R1][h2:PickC R1 B R]:PickC M (x::B) R:=⟨h1.perm.trans (List.Perm.cons x h2.perm)⟩
theorem uL{B B' r:Mem}{o o':Obj}(h:Upd B b o o' B'):Upd (B++r) b o o' (B'++r):=by
  induction h with
  | hd=>exact .hd
  | tl _ ih=>exact .tl ih
instance(priority:=50) UpC.lft{b:Nat}{o o':Obj}{B B' r:Mem}[h:UpC B b o o' B']:UpC (B++r) b o o' (B'++r):=⟨uL h.upd⟩
end Go.Px

namespace Go.Proofs.YtglbhoeolghndaaGreatDoor
open Go.Px
structure Glb(A:Mem):Prop where
  first:∃e f,(0,Obj.cells (nums .u32 A3w.list).toArray e f)∈A
  round:∃e f,(1,Obj.cells (nums .u32 A2x).toArray e f)∈A
  pow:∃e f,(4,Obj.cells (nums .u64 A0G).toArray e f)∈A
theorem Glb.sub{A A':Mem}(h:Glb A)(hs:∀x,x∈A->x∈A'):Glb A':=by obtain ⟨⟨a,b,c⟩,⟨d,e,f⟩,⟨g,h,i⟩⟩:=h;exact ⟨⟨a,b,hs _ c⟩,⟨d,e,hs _ f⟩,⟨g,h,hs _ i⟩⟩
variable{M:Mem}
theorem Glb.up{J A:Mem}(h:Glb A):Glb (M++(J++A)):=h.sub λ_ h=>mA h
structure Ps where
  real:Bool
  seed:LN
  n:Nat
  ts:List Tm
def md(b:Bool):Int:=if b then 0 else 1
structure Prm(pb:Nat)(s:Ps)(M:Mem):Prop where
  ex:∃(sv:Value) (bt bm:Nat) (B MT:Mem),M=(pb,blk [.int .u8 (md s.real),sv,(vI s.n),(vP bt)] 74)::(B++MT)∧By B sv s.seed∧Tab bt bm s.ts MT
def H5(w:LN)(n:Nat):LN:=w.take n++List.replicate (n-w.length) 0
theorem L7(w:LN)(n:Nat):(H5 w n).length=n:=by simp [H5];omega
variable{w:LN}
theorem A3j(h:∀x∈w,x<256)(n:Nat):∀x∈H5 w n,x<256:=by
  intro x hx;rcases List.mem_append.1 hx with h1|h1
  . exact h x (Bw h1)
  . rw [(List.mem_replicate.1 h1).2];decide
def A9I(n:Nat):LN:=(List.range 8).map (byt ((n:Nat):Int))
def B5O(seed:LN)(n:Nat):LN:=Z8 (A8r [] seed) ([107,101,121]++A9I n) 32
def B1o(n:Nat):Tm:=⟨1,[],[],(n:Int)⟩
def E7(s:Ps):Ps:=if s.real then { s with n:=s.n+1 } else { s with n:=s.n+1,ts:=add s.ts (B1o (s.n+1)) }
def F3(s:Ps):LN:=if s.real then B5O s.seed (s.n+1) else bts ((at_ s.ts (B1o (s.n+1)):Nat):Int)
variable{s:Ps}
theorem A6r(h:s.real=true):E7 s={ s with n:=s.n+1 }:=if_pos h
theorem A2V(h:s.real=false):E7 s={ s with n:=s.n+1,ts:=add s.ts (B1o (s.n+1)) }:=if_neg (by rw [h];decide)
theorem A6s(h:s.real=true):F3 s=B5O s.seed (s.n+1):=if_pos h
theorem A33(h:s.real=false):F3 s=bts ((at_ s.ts (B1o (s.n+1)):Nat):Int):=if_neg (by rw [h];decide)
theorem B2C(n:Nat):∀x∈A9I n,x<256:=by intro x hx;obtain ⟨k,_,rfl⟩:=List.mem_map.1 hx;exact B8L _ _
theorem A4y(key info:LN)(n:Int):∀x∈Z8 key info n,x<256:=λx hx=>B1T _ _ _ x (Bw hx)
theorem B2D(key info:LN)(n:Int):(Z8 key info n).length<=n.toNat:=by unfold Z8;exact List.length_take_le _ _
variable{n:Nat}
theorem A6t(h:n<=1099511627776):Tmo (B1o n):=⟨show 1<256 by decide,show i64 (n:Int) by unfold i64;omega,λi hi=>(List.not_mem_nil hi).elim,show 0<=1048576 by decide,⟨λx hx=>(List.not_mem_nil hx).elim⟩,show 0<=1099511627776 by decide⟩
theorem C2V{R:Mem}{v:Value}{i:Int}(h:Rd R 1 v 32 (nums .u8 (bts i))):By R v (bts i):=⟨by rw [show (bts i).length=32 from A0Q i qO];exact h,B6B i,by rw [show (bts i).length=32 from A0Q i qO];decide⟩
theorem V2(i:Int)(A:Mem):FnX prog 35 [.int .i64 i] [] A λr M J=>M=[]∧By J r (bts i) :=
  ((B0P i A).mono (post':=λr M J=>J=[]∧By M r (bts i)) λv M J ⟨h1,h2⟩=>⟨h1,C2V (h2.rd λ_ h=>h)⟩).frz0
theorem B2E(r:Bool)(v:Value)(seed:LN)(A:Mem)(hv:By A v seed):FnX prog 8 [.int .u8 (md r),v] [] A λq M J=>∃pb,q=.tuple #[(vP pb),P0]∧Prm pb ⟨r,seed,0,[]⟩ M:=by
 haveI:=hv.cel;have hvl:=hv.len;refine FnX.enterZ (N:=18) func8 E E E λw_=>?_;refine A8 (D0 0 1) (A1 (as_ (as_ (A0 (D0 0 1) (A3 ?_)))));cases r
 . refine A1 (mv_ ?_);refine lQ_ (F5 true E E (neT qD)) ?_;refine mv_ ?_;refine F4 E E (Cn qm_ E ?_);refine F4 E E (Cn (F5 false E E (neF qR)) E ?_);refine lQ_ (G4 E E) (A0 (D6 0 1 11) ?_);refine C7 E ?_;refine A6 (nx (D0 0 1) (A1 (mv_ (mv_ ?_))));refine A2 E (H4 (e:=5) (sz:=1) (by_:=1) E E kR E Sl.nil (hv.rd.mono qS) E9 qP (by unfold maxLen;omega) qO E λv14 B14 hs14=>?_);haveI:=hs14.cel;refine C6 a0 kR (A7I _) E ?_;rintro v15 M15 J15 ⟨rfl,bt,bm,rfl,hT0⟩;refine lQ_ (F0 (place:=λx=>#[(0,1),(1,1),(2,1),(3,1)][x]?) (z:=[zu8,vS,P0,.pointer none]) (λ_=>by kernel_rfl) (eS E (eS E (eS E e0))) (bdS 0 1 E qR (bdS 1 1 E qR (bdS 3 1 E qR bd0)))) ?_;refine A2 E (bx_ λb17=>?_);refine as_ (as_ (A0 (D0 4 5) (A9 ?_)));refine ⟨_,(b17,_)::(B14++M15),[],A1Z E E E,Fit.none (Ch (B:=[_]) qP (Ch qP (Cf qP))),_,E,⟨v14,bt,bm,B14,M15,E,⟨?_,hv.lt,hv.len⟩,hT0⟩⟩;have h:=hs14.rd (R:=B14) λ_ h=>h;simpa using h
 . refine A1 (mv_ ?_);refine lQ_ (F5 false E E (neF qR)) ?_;refine mv_ ?_;refine K0 E E E E ?_;refine K0 E E E E ?_;refine lQ_ (E3 E E) (A0 (D6 0 1 11) ?_);refine C7 E ?_;refine A6 (nx (D0 0 1) (A1 (mv_ (mv_ ?_))));refine A2 E (H4 (e:=5) (sz:=1) (by_:=1) E E kR E Sl.nil (hv.rd.mono qS) E9 qP (by unfold maxLen;omega) qO E λv14 B14 hs14=>?_);haveI:=hs14.cel;refine C6 a0 kR (A7I _) E ?_;rintro v15 M15 J15 ⟨rfl,bt,bm,rfl,hT0⟩;refine lQ_ (F0 (place:=λx=>#[(0,1),(1,1),(2,1),(3,1)][x]?) (z:=[zu8,vS,P0,.pointer none]) (λ_=>by kernel_rfl) (eS E (eS E (eS E e0))) (bdS 0 1 E qR (bdS 1 1 E qR (bdS 3 1 E qR bd0)))) ?_;refine A2 E (bx_ λb17=>?_);refine as_ (as_ (A0 (D0 4 5) (A9 ?_)));refine ⟨_,(b17,_)::(B14++M15),[],A1Z E E E,Fit.none (Ch (B:=[_]) qP (Ch qP (Cf qP))),_,E,⟨v14,bt,bm,B14,M15,E,⟨?_,hv.lt,hv.len⟩,hT0⟩⟩;have h:=hs14.rd (R:=B14) λ_ h=>h;simpa using h
theorem Y0(v:Value)(w:LN)(n:Nat)(A:Mem)(hv:By A v w)(hn:n<=1000):FnX prog 45 [v,.int .i64 (n:Int)] [] A λq M J=>M=[]∧By J q (H5 w n):=by haveI:=hv.cel;have hvl:=hv.len;refine FnX.enterZ (N:=12) func45 E E E λw_=>?_;refine A8 (D0 0 1) (A1 (as_ (A0 (D0 0 1) (A1 (mv_ ?_)))));refine A2 E (A0N (by_:=1) (k:=.u8) (e:=5) n E E kR E E qO qO E λb7=>?_);refine as_ (A0 (D0 0 5) (A1 (mv_ (mv_ ?_))));refine A2 E (A4x (e:=5) (us:=w) (ws:=List.replicate n 0) (ws':=H5 w n) (by_:=1) E E kR (hv.rd.mono qS) qM (by simp [H5]) Cs E ?_);refine A0 (D4 5) (A1 (mv_ (as_ (A0 (D4 4) (A9 ?_)))));refine ⟨_,[],[(b7,blk (nums .u8 (H5 w n)) 5)],H8 E E,Ce qM,⟨E,⟨?_,A3j hv.lt n,by rw [L7];omega⟩⟩⟩;rw [L7];exact Co (n:=n) qK (by simp [L7])
theorem A5E(pb:Nat)(s:Ps)(v:Value)(w:LN)(MP A:Mem)(hP:Prm pb s MP)(hn:s.ts.length<=1048576)(hv:By A v w)(hG:Glb A):FnX prog 46 [(vP pb),v] MP A λq M J=>q=(vI (rdI s.ts w))∧Prm pb { s with ts:=rdT s.ts w } M:=by obtain ⟨sv,bt,bm,B,MT,rfl,hby,hT⟩:=hP.ex;obtain ⟨⟨ge0,gf0,h0⟩,⟨ge1,gf1,h1⟩,⟨ge4,gf4,h4⟩⟩:=hG;haveI:=hv.cel;have hvl:=hv.len;refine FnX.enterZ (N:=11) func46 E E E λw_=>?_;refine A8 (D0 0 1) (A1 (aS_ E (A0 (D0 0 1) (A1 (mV_ E (lQ_ (E1 E) (lQ_ (qf_ 3 3) ?_)))))));refine lQ_ ql_ ?_;refine mv_ ?_;refine A2 E (C9 (Mc:=MT) (R:=_) (aS E (aS E a0)) kR qP (A7K bt bm s.ts v w MT _ hT hn (hv.rd.mono qS) hv.lt qO (mA h4)) E ?_);rintro v10 M10 J10 ⟨rfl,rfl,hT10⟩;refine as_ (A0 (D4 4) (A9 ?_));exact ⟨_,(pb,blk [.int .u8 (md s.real),sv,.int .i64 (((s.n:Nat):Int)),(vP bt)] 74)::(B++M10),[],H8 E E,(Fit.none (Ch (B:=[_]) qP (Ch qP (Cf qP)))),E,⟨sv,bt,bm,B,M10,E,hby,hT10⟩⟩
theorem X3(pb:Nat)(s:Ps)(MP A:Mem)(hP:Prm pb s MP)(hn:s.ts.length<=1048576)(hk:s.n<1099511627776)(hG:Glb A):FnX prog 16 [(vP pb)] MP A λq M J=>Prm pb (E7 s) M∧By J q (F3 s):=by
 obtain ⟨sv,bt,bm,B,MT,rfl,hby,hT⟩:=hP.ex;obtain ⟨⟨ge0,gf0,h0⟩,⟨ge1,gf1,h1⟩,⟨ge4,gf4,h4⟩⟩:=hG;haveI:=hby.cel;refine FnX.enterZ (N:=55) func16 E E E λw_=>?_;refine A8 (D4 0) (A1 (aS_ E (A0 (D4 0) (A3 (A1 (mV_ E (lQ_ (F6 (e:=74) E E kR) (A0 (D0 0 6) ?_))))))));refine C7 E ?_;refine A6 (nx (D4 0) (A1 (mV_ E (lQ_ (E1 E) (lQ_ (qf_ 2 2) ?_)))));refine lQ_ ql_ ?_;refine lQ_ (K5 (b:=1) E E E E qO) ?_;refine lQ_ (E1 E) (lQ_ (qf_ 2 2) ?_);refine A2 E (E4 E E E kR Cq Cs ?_);refine A0 (D4 0) (A3 (A1 (mV_ E (lQ_ (E1 E) (lQ_ (qf_ 0 0) ?_)))));refine lQ_ ql_ ?_;refine lQ_ (E8 E E E) (A0 (D0 0 18) ?_);refine C3 E ?_ ?_<;>intro hc
 .
  have hr:s.real=true:=by cases hq:s.real with|true=>rfl|false=>rw [hq] at hc;exact absurd hc qD
  refine A1 (as_ (A0 (D0 0 3) (A3 (A1 (mv_ (A0 (D6 0 3 19) (A7 ?_)))))));refine E5 (α:=Nat×Value×Mem) (λx=>[(0,(vP pb)),(3,x.2.1),(19,(vI x.1))]) (λx=>x.2.2++((pb,blk [.int .u8 (md s.real),sv,.int .i64 (((s.n+1:Nat):Int)),(vP bt)] 74)::(B++MT))) (λ_=>[]) (λx=>x.1<=8∧Sl 1 x.2.1 x.1 (nums .u8 ((List.range x.1).map (byt ((s.n+1:Nat):Int)))) x.2.2) (λx=>8-x.1) ⟨0,vS,[]⟩ ⟨Am _,Sl.nil⟩ (D6 0 3 19) .rfl qI ?_;rintro ⟨i,v3,B3⟩ ⟨hi,hs3⟩;dsimp only at hi hs3 ⊢;haveI:=hs3.cel;refine A1 (lQ_ (E8 E E E) (A0 (D7 0 3 19 20) (A3 ?_)));refine C3 E ?_ ?_<;>intro hc
  .
   have hlt:i<8:=by simp at hc;omega
   refine A6 (nx (D6 0 3 19) (A3 (A7 (A1 (mV_ E (aS_ E (A0 (D7 0 3 4 19) (C1 (mV_ E (mV_ E (lQ_ (E1 E) (lQ_ (qf_ 2 2) ?_))))))))))));refine lQ_ ql_ ?_;refine mv_ ?_;refine lQ_ (A1g (a:=8) E E E E qO) ?_;refine lQ_ (B2v (k:=i) E E E hlt) ?_;refine lQ_ (B2w E kR) ?_;refine A2 E (C4 (e:=5) (sz:=1) (z:=[zu8]) kR (eS E e0) (bdS 0 1 E qR bd0) E λb31=>?_);refine A2 E (H4 (e:=5) (sz:=1) (by_:=1) E E kR E (by first|assumption|exact Sl.nil) (Co (n:=1) Cc qR) (by first|(simp [Value.oneCell'];done)|(intro c hc;simp only [List.mem_singleton] at hc;subst hc;first|exact Rd.one (by assumption)|exact Sl.one (by assumption))) qP (by unfold maxLen;omega) qO E λv32 B32 hs32=>?_);refine as_ (C5 (nb (nx (D6 0 3 19) (C1 ?_))));refine lQ_ (K5 (b:=1) E E E E qO) ?_;refine mv_ (C5 ?_);exact rn ⟨i+1,v32,B32⟩ ⟨by dsimp only;omega,by dsimp only;rw [List.range_succ,List.map_append,H6];exact hs32⟩ (by dsimp only;omega) (D6 0 3 19) (Ch qP (Ch (B:=[_]) qP (Cf qP))) (λ_ h=>by cases h)
  .
   have hge:i=8:=by simp at hc;omega
   subst hge;refine D8 (te (re (be E (nx (D0 0 3) (A1 (mV_ E (lQ_ (E1 E) (lQ_ (qf_ 1 1) ?_))))))));refine lQ_ ql_ ?_;refine C6 (aS rfl (aS rfl a0)) kR ((A3y (vS) sv [] s.seed _ Rd.nil (λx h=>by cases h) qM (hby.rd.mono qS) hby.lt (by have:=hby.len;omega) (mA h0) (mA h1)).frz0) E ?_;rintro v38 M38 J38 ⟨rfl,h38⟩;refine A2 E (C4 (e:=5) (sz:=1) (z:=[zu8,zu8,zu8]) kR (eS E (eS E (eS E e0))) (bdS 0 1 E qR (bdS 1 1 E qR (bdS 2 1 E qR bd0))) E λb39=>?_);refine A2 E (A4k E kR Cs E ?_);refine mv_ ?_;refine A2 E (A2U (e:=5) (sz:=1) (by_:=1) (xs:=nums .u8 [107,101,121]) E E kR E (Co (n:=3) Cc qR) (hs3.rd qS) qD qD qD E λv42 B42 hs42=>?_);have hs42:Sl 1 v42 ([107,101,121]++A9I (s.n+1)).length (nums .u8 ([107,101,121]++A9I (s.n+1))) B42:=W8 hs42 (by simp [A9I]) (by rw [H6];rfl);refine C6 (aS E (aS E (aS E a0))) kR ((A4o v38 v42 (A8r [] s.seed) ([107,101,121]++A9I (s.n+1)) 32 _ (by rw [A03];exact (h38.rd qS)) (A4n _ _) (by rw [A03];decide) (hs42.rd qS) (λx hx=>by rcases List.mem_append.1 hx with h|h;(simp at h;omega);exact B2C _ x h) (by simp [A9I]) qD qD (mA h0) (mA h1)).frz0) E ?_;rintro v43 M43 J43 ⟨rfl,h43⟩;refine as_ (A0 (D4 2) (A9 (tr ?_)));exact ⟨_,(pb,blk [.int .u8 (md s.real),sv,.int .i64 (((s.n+1:Nat):Int)),(vP bt)] 74)::(B++MT),[],H8 E E,(Fit.none (Ch (B:=[_]) qP (Ch qP (Cf qP)))),by rw [A6r hr];exact ⟨sv,bt,bm,B,MT,E,hby,hT⟩,by rw [A6s hr];exact ⟨h43.mono qS,A4y _ _ _,Az (B2D _ _ _) qD⟩⟩
 .
  have hr:s.real=false:=by cases hq:s.real with|false=>rfl|true=>rw [hq] at hc;exact absurd hc qD
  refine A6 (nx (D4 0) ?_);refine C8 [0,1,2,3,4,5,6,7,8,11] (zp 0 [0,0,0,1,0,0,0,1,0,2,2,0]) kR kR λhs=>?_;refine fM_ E E (fQ_ E (E1 E) (fQ_ E (qf_ 3 3) ?_));refine fR_ E ql_ ?_;refine fM_ E E (fQ_ E (E1 E) (fQ_ E (qf_ 2 2) ?_));refine fR_ E ql_ ?_;refine fQ_ E (F0 (place:=λx=>#[(0,1),(1,1),(2,1),(3,1)][x]?) (z:=[zu8,vS,.string ByteArray.empty,P0]) (λ_=>by kernel_rfl) (eS E (eS E e0)) (bdS 0 1 E qR (bdS 3 1 E qR bd0))) ?_;refine G1 E E E (C9 (Mc:=MT) (R:=_) (aS E (aS E a0)) kR qP (R8 bt bm s.ts (vS) (B1o (s.n+1)) MT _ hT hn Rd.nil (A6t qO) (mA h4)) E ?_);rintro v53 M53 J53 ⟨rfl,rfl,hT53⟩;refine G1 E E E (E2 (aS E a0) kR (V2 _ _) E ?_);rintro v54 M54 J54 ⟨rfl,h54⟩;refine fA_ E E (E0 (D4 2) (A9 ?_));exact ⟨_,(pb,blk [.int .u8 (md s.real),sv,.int .i64 (((s.n+1:Nat):Int)),(vP bt)] 74)::(B++M53),[],H8 E E,(Fit.none (Ch (B:=[_]) qP (Ch qP (Cf qP)))),by rw [A2V hr];exact ⟨sv,bt,bm,B,M53,E,hby,hT53⟩,by rw [A33 hr];exact h54.mono qS⟩

def B1p(ws:List (LN)):LN:=ws.flatMap λw=>H5 w 32
def A7e(key:LN)(ws:List (LN))(lb:LN)(n:Nat):LN:=Z8 (A8r (H5 key 32) (B1p ws)) lb ((32*n:Nat):Int)
def C2i(b:LN)(n:Nat):List (LN):=(List.range n).map λi=>(b.take (32*i+32)).drop (32*i)
def drv(ofs:List Int)(lb:LN)(i:Nat):Tm:=⟨5,ofs,lb,(i:Int)⟩
def A0B(st:List Tm×List Int)(w:LN):List Tm×List Int:=(rdT st.1 w,st.2++[((rdI st.1 w:Nat):Int)])
def W9(ts:List Tm)(key:LN)(ws:List (LN)):List Tm×List Int:=ws.foldl A0B (A0B (ts,[]) key)
def B1q(ofs:List Int)(lb:LN)(st:List Tm×List (LN))(i:Nat):List Tm×List (LN):=(add st.1 (drv ofs lb i),st.2++[bts ((at_ st.1 (drv ofs lb i):Nat):Int)])
def N7(ts:List Tm)(ofs:List Int)(lb:LN)(n:Nat):List Tm×List (LN):=(List.range n).foldl (B1q ofs lb) (ts,[])
def B0T(ts:List Tm)(key:LN)(ws:List (LN))(lb:LN)(n:Nat):List Tm×List (LN):=N7 (W9 ts key ws).1 (W9 ts key ws).2 lb n
def A34(s:Ps)(key:LN)(ws:List (LN))(lb:LN)(n:Nat):Ps:=if s.real then s else { s with ts:=(B0T s.ts key ws lb n).1 }
def A4z(s:Ps)(key:LN)(ws:List (LN))(lb:LN)(n:Nat):List (LN):=if s.real then C2i (A7e key ws lb n) n else (B0T s.ts key ws lb n).2
variable{key lb:LN}{ws:List (LN)}
theorem A5F(h:s.real=true):A34 s key ws lb n=s:=if_pos h
theorem A3B(h:s.real=false):A34 s key ws lb n={ s with ts:=(B0T s.ts key ws lb n).1 }:=if_neg (by rw [h];decide)
theorem A2W(h:s.real=true):A4z s key ws lb n=C2i (A7e key ws lb n) n:=if_pos h
theorem A5G(h:s.real=false):A4z s key ws lb n=(B0T s.ts key ws lb n).2:=if_neg (by rw [h];decide)
theorem C0g(h:∀w∈ws,∀x∈w,x<256):∀x∈B1p ws,x<256:=by intro x hx;obtain ⟨w,hw,hx⟩:=List.mem_flatMap.1 hx;exact A3j (h w hw) 32 x hx
theorem B6I(ws:List (LN)):(B1p ws).length=32*ws.length:=by
  induction ws with
  | nil=>rfl
  | cons w ws ih =>
    have:B1p (w::ws)=H5 w 32++B1p ws:=rfl;rw [this,An,ih,L7,List.length_cons];omega
variable{i:Nat}
theorem B2F(h:i<ws.length):B1p (ws.take (i+1))=B1p (ws.take i)++H5 ws[i] 32:=by unfold B1p;rw [Bh,Ab h,List.flatMap_append];simp
variable{β:Type}
theorem B2G{α:Type}{f:β->α->β}{b:β}{l:List α}(h:i<l.length):(l.take (i+1)).foldl f b=f ((l.take i).foldl f b) l[i]:=by rw [Bh,Ab h,List.foldl_append];rfl
theorem Q4{f:β->Nat->β}{b:β}(i:Nat):(List.range (i+1)).foldl f b=f ((List.range i).foldl f b) i:=by rw [List.range_succ,List.foldl_append];rfl
variable{ts:List Tm}
theorem B8N(hw:∀x∈w,x<256)(hl:w.length<=1099511627776)(hts:∀t∈ts,Tmo t):rdI ts w<(rdT ts w).length:=by
  cases hp:plc w ts.length with
  | some j =>
    obtain ⟨h1,h2⟩:=A0g hp;rw [h1,h2];exact (A7J hp).1
  | none =>
    obtain ⟨h1,h2⟩:=A0H hp;rw [h1,h2]
    cases hq:pos ts (B5N w) with
    | some j =>
      obtain ⟨h3,h4⟩:=A6q hq;rw [h3,h4];exact (Ac.1 (A6n (A3i hw hl) hts hq)).1
    | none =>
      obtain ⟨h3,h4⟩:=A9H hq;rw [h3,h4];simp
theorem C0h(hw:∀x∈w,x<256)(hl:w.length<=1099511627776)(hts:∀t∈ts,Tmo t):∀t∈rdT ts w,Tmo t:=by
  cases hp:plc w ts.length with
  | some j=>rw [(A0g hp).1];exact hts
  | none =>
    rw [(A0H hp).1];unfold add;split
    . exact hts
    . intro t ht;rcases List.mem_append.1 ht with h|h
      . exact hts t h
      . rw [List.mem_singleton.1 h];exact A3i hw hl
variable{ofs:List Int}
theorem B8O(ho:∀x∈ofs,i64 x)(hl:ofs.length<=1048576)(hb:B256 lb)(hbl:lb.length<=1099511627776)(hi:i<=100):Tmo (drv ofs lb i):=⟨show 5<256 by decide,show i64 (i:Int) by unfold i64;omega,ho,hl,hb,hbl⟩
structure RdOk(n0 k:Nat)(st:List Tm×List Int):Prop where
  len:st.1.length<=n0+k
  ofl:st.2.length=k
  of:∀x∈st.2,0<=x∧x<(st.1.length:Int)
  tmo:∀t∈st.1,Tmo t
theorem B2H:ts.length<=(rdT ts w).length:=by
  cases hp:plc w ts.length with
  | some j=>rw [(A0g hp).1];exact Av _
  | none =>
    rw [(A0H hp).1];unfold add;split<;>simp
theorem RdOk.step{n0 k:Nat}{st:List Tm×List Int}(h:RdOk n0 k st)(hw:∀x∈w,x<256)(hl:w.length<=1099511627776):RdOk n0 (k+1) (A0B st w):=by
  refine ⟨?_,by simp [A0B,h.ofl],?_,C0h hw hl h.tmo⟩
  . have:=R9 (ts:=st.1) (ws:=w);have:=h.len;show (rdT st.1 w).length<=_;omega
  . intro x hx;have hge:=B2H (ts:=st.1) (w:=w);have hlt:=B8N (ts:=st.1) hw hl h.tmo;show 0<=x∧x<(((rdT st.1 w).length:Nat):Int);rcases List.mem_append.1 hx with h1|h1
    . have:=h.of x h1;omega
    . rw [List.mem_singleton.1 h1];omega
theorem A6u(b:LN)(n:Nat):(C2i b n).length=n:=by simp [C2i]
theorem A1A(ts:List Tm)(ofs:List Int)(lb:LN)(n:Nat):(N7 ts ofs lb n).2.length=n∧(N7 ts ofs lb n).1.length<=ts.length+n:=by
  induction n with
  | zero=>exact ⟨E,Av _⟩
  | succ n ih =>
    have e:N7 ts ofs lb (n+1)=B1q ofs lb (N7 ts ofs lb n) n:=Q4 n;rw [e];refine ⟨by simp [B1q,ih.1],?_⟩;have:=A0P (ts:=(N7 ts ofs lb n).1) (t:=drv ofs lb n);show (add _ _).length<=_;omega
theorem A9J(key:LN)(ws:List (LN))(lb:LN)(hn:n<=8):(A7e key ws lb n).length=32*n:=by unfold A7e;rw [V4];omega
theorem B2I(l:List Int)(x:Int):A13 (l++[x])=A13 l++[.int .i64 x]:=by simp [A13]
theorem A2q(pb:Nat)(s:Ps)(kv wv:Value)(key lb:LN)(ws:List (LN))(n:Nat)(MP A:Mem)(hP:Prm pb s MP)(hk:By A kv key)(hw:LsV A wv ws)(hwn:ws.length<=1000)(hlb:B256 lb)(hll:lb.length<=1000)(hn0:1<=n)(hn8:n<=8)(hn:s.ts.length<=1040000)(hG:Glb A):FnX prog 79 [(vP pb),kv,wv,.string (txt lb),.int .i64 (n:Int)] MP A λq M J=>Prm pb (A34 s key ws lb n) M∧LsV J q (A4z s key ws lb n):=by
 obtain ⟨sv,bt,bm,B,MT,rfl,hby,hT⟩:=hP.ex;have hGG:=hG;obtain ⟨⟨ge0,gf0,h0⟩,⟨ge1,gf1,h1⟩,⟨ge4,gf4,h4⟩⟩:=hGG;haveI:=hby.cel;haveI:=hk.cel;obtain ⟨wvs,hwr,hwl⟩:=hw.ex;haveI:=hwr.cel
 have hw256:∀w∈ws,∀x∈w,x<256:=λw hw=>by obtain ⟨j,hj⟩:=List.getElem?_of_mem hw;obtain ⟨v,_,h⟩:=hwl.get j w hj;exact h.lt
 have hTmo:∀t∈s.ts,Tmo t:=by obtain ⟨_,_,_,_,_,_,_,_,_,_,_,h,_⟩:=hT;exact h
 refine FnX.enterZ (N:=108) func79 E E E λw_=>?_;refine A8 (F2 0 1 2 3 4) (A1 (aS_ E (A0 (F2 0 1 2 3 4) (A1 (aS_ E (A0 (G7 0 1 2 3 4 11) (A3 (A1 (mV_ E (lQ_ (F6 (e:=74) E E kR) (mv_ ?_)))))))))));refine F4 E E (Cn qm_ E ?_);refine F4 E E (Cn (F5 false E E (ltF qO)) E ?_);refine lQ_ (E3 E E) (A0 (N9 0 1 2 3 4 11 26) ?_);refine C7 E ?_;refine A6 (nx (G7 0 1 2 3 4 11) (A3 (A1 (mV_ E (lQ_ (E1 E) (lQ_ (qf_ 0 0) ?_))))));refine lQ_ ql_ ?_;refine lQ_ (E8 E E E) (A0 (N9 0 1 2 3 4 11 32) ?_);refine C3 E ?_ ?_<;>intro hc
 .
  have hr:s.real=true:=by cases hq:s.real with|true=>rfl|false=>rw [hq] at hc;exact absurd hc qD
  refine A1 (as_ (A0 (G7 1 2 3 4 11 12) (A3 (A1 (mv_ ?_)))));refine lQ_ (G2 (sz:=1) E kR hwr) ?_;refine mv_ (A0 (W6 1 3 4 11 12 33 34 35) (A7 ?_));refine E5 (α:=Nat×Value×Mem×Mem) (λx=>[(1,kv),(3,.string (txt lb)),(4,.int .i64 (n:Int)),(11,vS),(12,x.2.1),(33,wv),(34,(vI ws.length)),(35,(vI x.1))]) (λx=>x.2.2.1++((pb,blk [.int .u8 (md s.real),sv,.int .i64 (((s.n:Nat):Int)),(vP bt)] 74)::(B++MT))) (λx=>x.2.2.2) (λx=>x.1<=ws.length∧Sl 1 x.2.1 (B1p (ws.take x.1)).length (nums .u8 (B1p (ws.take x.1))) x.2.2.1) (λx=>ws.length-x.1) ⟨0,vS,[],[]⟩ ⟨Am _,Sl.nil⟩ (W6 1 3 4 11 12 33 34 35) .rfl qI ?_;rintro ⟨i,v12,B12,J12⟩ ⟨hi,hs12⟩;dsimp only at hi hs12 ⊢;haveI:=hs12.cel;have hfl:=B6I (ws.take i);rw [Bj] at hfl;refine A1 (lQ_ (E8 E E E) (A0 (A0q 1 3 4 11 12 33 34 35 36) (A3 ?_)));refine C3 E ?_ ?_<;>intro hc
  .
   have hlt:i<ws.length:=by simp at hc;omega
   obtain ⟨v,hvi,hvb⟩:=hwl.at hlt;haveI:=hvb.cel;have hft:=B2F hlt;refine A6 (nx (W6 1 3 4 11 12 33 34 35) (A3 (A7 (A1 ?_))));refine lQ_ (H2 (sz:=1) E E kR E hwr hlt) ?_;refine lQ_ (Z4 (u:=v) (hwr.mono qS) E kR hvi) (as_ (A0 (A0q 1 3 4 11 12 14 33 34 35) (C1 (mv_ (mv_ ?_)))));refine C6 (aS E (aS E a0)) kR (Y0 v ws[i] 32 _ (hvb.mono qS) qD) E ?_;rintro v41 M41 J41 ⟨rfl,hb41⟩;have hb41r:=hb41.rd;rw [L7] at hb41r;refine A2 E (H4 (e:=5) (sz:=1) (by_:=1) E E kR E hs12 (hb41r.mono qS) E9 qP (by unfold maxLen;omega) qO E λv42 B42 hs42=>?_);refine as_ (C5 (nb (nx (W6 1 3 4 11 12 33 34 35) (C1 ?_))));refine lQ_ (K5 (b:=1) E E E E qO) ?_;refine mv_ (C5 ?_);exact rn ⟨i+1,v42,B42,_⟩ ⟨by dsimp only;omega,W8 hs42 (by dsimp only;rw [hft,An,L7]) (by dsimp only;rw [hft,H6])⟩ (by dsimp only;omega) (W6 1 3 4 11 12 33 34 35) (Ch qP (Ch (B:=[_]) qP (Ch qP (Cf qP)))) qI
  .
   have hge:i=ws.length:=by simp at hc;omega
   subst hge;rw [List.take_length] at hs12 hfl;refine D8 (te (re (be E (nx (F2 1 3 4 11 12) (A1 (mv_ ?_))))));refine C6 (aS E (aS E a0)) kR (Y0 kv key 32 _ (hk.mono qS) qD) E ?_;rintro v45 M45 J45 ⟨rfl,hb45⟩;refine mv_ ?_;refine C6 (aS E (aS E a0)) kR ((A3y v45 v12 (H5 key 32) (B1p ws) _ (hb45.rd.mono qS) hb45.lt (by rw [L7];decide) (hs12.rd qS) (C0g hw256) qO (mA h0) (mA h1)).frz0) E ?_;rintro v47 M47 J47 ⟨rfl,h47⟩;refine mv_ ?_;refine A2 E (A0V (e:=5) E E hlb.lt kR kR kR E λv49 B49 hs49=>?_);refine A4w (B:=B49) qP ?_;refine mv_ ?_;refine lQ_ (A5q (n:Int) E E (by split<;>omega)) ?_;refine lQ_ (A1g (a:=32) E E E E qO) ?_;refine C6 (aS E (aS E (aS E a0))) kR ((A4o v47 v49 (A8r (H5 key 32) (B1p ws)) lb ((32*n:Nat):Int) _ (by rw [A03];exact (h47.rd qS)) (A4n _ _) (by rw [A03];decide) (hs49.mono qS) hlb.lt qO qO qO (mA h0) (mA h1)).frz0) E ?_;rintro v53 M53 J53 ⟨rfl,h53⟩;have hbl:=A9J key ws lb hn8;change Rd J53 1 v53 (A7e key ws lb n).length (nums .u8 (A7e key ws lb n)) at h53;rw [hbl] at h53;haveI:=h53.cel;have hb256:∀x∈A7e key ws lb n,x<256:=A4y _ _ _;generalize hbigE:A7e key ws lb n=big at *;refine as_ (A0 (D6 4 11 15) (A3 (A1 (mv_ ?_))));refine lQ_ (A5q (n:Int) E E (by split<;>omega)) ?_;refine mv_ (A0 (D7 11 15 55 56) (A7 ?_));refine E5 (α:=Nat×Value×List Value×Mem) (λx=>[(11,x.2.1),(15,v53),(55,.int .i64 (n:Int)),(56,(vI x.1))]) (λx=>x.2.2.2++((pb,blk [.int .u8 (md s.real),sv,.int .i64 (((s.n:Nat):Int)),(vP bt)] 74)::(B++MT))) (λ_=>J53) (λx=>x.1<=n∧Sl 1 x.2.1 x.1 x.2.2.1 x.2.2.2∧Lst J53 x.2.2.1 ((List.range x.1).map λi=>(big.take (32*i+32)).drop (32*i))) (λx=>n-x.1) ⟨0,vS,[],[]⟩ ⟨Am _,Sl.nil,Lst.nil⟩ (D7 11 15 55 56) (Fit.none (Ch (B:=[_]) qP (Ch qP (Cf qP)))) (λx hx=>qS x hx) ?_;rintro ⟨i,v11,vs11,B11⟩ ⟨hi,hs11,hl11⟩;dsimp only at hi hs11 hl11 ⊢;haveI:=hs11.cel;refine A1 (lQ_ (E8 E E E) (A0 (F2 11 15 55 56 57) (A3 ?_)));refine C3 E ?_ ?_<;>intro hc
   .
    have hlt:i<n:=by simp at hc;omega
    refine A6 (nx (D7 11 15 55 56) (A3 (A7 (A1 (mV_ E (aS_ E (A0 (F2 11 15 16 55 56) (C1 (mv_ (mv_ (mv_ ?_)))))))))));refine lQ_ (A1g (a:=32) E E E E qO) ?_;refine mv_ ?_;refine lQ_ (A1g (a:=32) E E E E qO) ?_;refine lQ_ (K5 (b:=32) E E E E qO) ?_;refine lQ_ (C2E (sz:=1) (a:=32*i) (b:=32*i+32) E E E kR E E h53 qO qO) ?_;have hpt:=(h53.hiV (32*i+32) qO).loV (32*i) qO;rw [Nat.mul_one,Nat.mul_one,<- A1m,<- A0U] at hpt;generalize vLo (32*i) 1 (vHi (32*i+32) v53)=vp at *;haveI:=hpt.cel
    have hpb:By J53 vp ((big.take (32*i+32)).drop (32*i)):=⟨by rw [Bg,Bj,hbl,Nat.min_eq_left qO];exact hpt,λx hx=>hb256 x (Bw (List.mem_of_mem_drop hx)),by rw [Bg,Bj,hbl];omega⟩
    refine A2 E (C4 (e:=22) (sz:=1) (z:=[vS]) kR (eS E e0) (bdS 0 1 E qR bd0) E λb67=>?_);refine A2 E (H4 (e:=22) (sz:=1) (by_:=24) E E kR E hs11 (Co (n:=1) Cc qR) (by intro c hc;rw [List.mem_singleton.1 hc];exact hpt.one) qP (by unfold maxLen;omega) qO E λv68 B68 hs68=>?_);refine as_ (C5 (nb (nx (D7 11 15 55 56) (C1 ?_))));refine lQ_ (K5 (b:=1) E E E E qO) ?_;refine mv_ (C5 ?_);exact rn ⟨i+1,v68,vs11++[vp],B68⟩ ⟨by dsimp only;omega,hs68,by dsimp only;rw [List.range_succ,List.map_append];exact hl11.snoc hpb⟩ (by dsimp only;omega) (D7 11 15 55 56) (Ch qP (Ch (B:=[_]) qP (Ch qP (Cf qP)))) (λx hx=>qS x hx)
   .
    have hge:i=n:=by simp at hc;omega
    subst hge;refine D8 (te (re (be E (nx (D4 11) (A1 (mV_ E (aS_ E (A0 (D4 10) (A9 (tr ?_))))))))));exact ⟨_,(pb,blk [.int .u8 (md s.real),sv,.int .i64 (((s.n:Nat):Int)),(vP bt)] 74)::(B++MT),B11,H8 E E,(Ch qP (Ch (B:=[_]) qP (Ch qP (Cf qP)))),by rw [A5F hr];exact ⟨sv,bt,bm,B,MT,E,hby,hT⟩,by rw [A2W hr,hbigE];exact ⟨vs11,by rw [A6u];exact hs11.rd qS,hl11.mono qS⟩⟩
 .
  have hr:s.real=false:=by cases hq:s.real with|false=>rfl|true=>rw [hq] at hc;exact absurd hc qD
  refine A6 (nx (G7 0 1 2 3 4 11) (A1 (mv_ (mv_ ?_))));refine A2 E (C9 (Mc:=(pb,blk [.int .u8 (md s.real),sv,.int .i64 (((s.n:Nat):Int)),(vP bt)] 74)::(B++MT)) (R:=_) (aS E (aS E a0)) kR qP (A5E pb s kv key _ _ hP qO (hk.mono qS) hG.up) E ?_);rintro v73 M73 J73 ⟨rfl,hP73⟩
  have hst0:RdOk s.ts.length 0 (s.ts,[]):=⟨Av _,rfl,(λx hx=>by cases hx),hTmo⟩
  have hst:=hst0.step hk.lt (by have:=hk.len;omega);refine A2 E (C4 (e:=3) (sz:=1) (z:=[P0]) kR (eS E e0) (bdS 0 1 E qR bd0) E λb74=>?_);refine as_ (A0 (G7 0 2 3 4 11 17) (A3 (A1 (mv_ ?_))));refine lQ_ (G2 (sz:=1) E kR hwr) ?_;refine mv_ (A0 (W6 0 3 4 11 17 75 76 77) (A7 ?_));refine E5 (α:=Nat×Value×Mem×Mem) (λx=>[(0,(vP pb)),(3,.string (txt lb)),(4,.int .i64 (n:Int)),(11,vS),(17,x.2.1),(75,wv),(76,(vI ws.length)),(77,(vI x.1))]) (λx=>x.2.2.1++x.2.2.2) (λx=>[]) (λx=>x.1<=ws.length∧RdOk s.ts.length (1+x.1) ((ws.take x.1).foldl A0B (A0B (s.ts,[]) key))∧Sl 1 x.2.1 (1+x.1) (A13 ((ws.take x.1).foldl A0B (A0B (s.ts,[]) key)).2) x.2.2.1∧Prm pb { s with ts:=((ws.take x.1).foldl A0B (A0B (s.ts,[]) key)).1 } x.2.2.2) (λx=>ws.length-x.1) ⟨0,.slice (some ⟨b74,0,none⟩) 1 1,[(b74,_)],M73⟩ ⟨Am _,hst,Sl.fresh (n:=1) (sz:=1) (cs:=A13 [((rdI s.ts key:Nat):Int)]) (e:=3) qR qD,hP73⟩ (W6 0 3 4 11 17 75 76 77) (Ch (B:=[(b74,blk [(vI (rdI s.ts key))] 3)]) qP (Cf (B:=M73) qP)) (λ_ h=>by cases h) ?_;rintro ⟨i,v17,B17,MR⟩ ⟨hi,hok,hs17,hPR⟩;dsimp only at hi hok hs17 hPR ⊢;haveI:=hs17.cel;refine A1 (lQ_ (E8 E E E) (A0 (A0q 0 3 4 11 17 75 76 77 78) (A3 ?_)));refine C3 E ?_ ?_<;>intro hc
  .
   have hlt:i<ws.length:=by simp at hc;omega
   obtain ⟨v,hvi,hvb⟩:=hwl.at hlt;haveI:=hvb.cel;have hft:=B2G (f:=A0B) (b:=A0B (s.ts,[]) key) hlt;have hok2:=hok.step hvb.lt (by have:=hvb.len;omega);rw [<- hft] at hok2;have hokl:=hok.len;refine A6 (nx (W6 0 3 4 11 17 75 76 77) (A3 (A7 (A1 ?_))));refine lQ_ (H2 (sz:=1) E E kR E hwr hlt) ?_;refine lQ_ (Z4 (u:=v) (hwr.mono qS) E kR hvi) (as_ (A0 (A0q 0 3 4 11 17 19 75 76 77) (C1 (mv_ (mv_ (mv_ ?_))))));refine A2 E (C9 (Mc:=MR) (R:=_) (aS E (aS E a0)) kR qP (A5E pb _ v ws[i] _ _ hPR (by dsimp only;omega) (hvb.mono qS) hG.up) E ?_);rintro v84 M84 J84 ⟨rfl,hP84⟩;refine A2 E (C4 (e:=3) (sz:=1) (z:=[P0]) kR (eS E e0) (bdS 0 1 E qR bd0) E λb85=>?_);refine A2 E (H4 (e:=3) (sz:=1) (by_:=8) E E kR E hs17 (Co (n:=1) Cc qR) (by simp [Value.oneCell']) qP (by unfold maxLen;omega) qO E λv86 B86 hs86=>?_);refine as_ (C5 (nb (nx (W6 0 3 4 11 17 75 76 77) (C1 ?_))));refine lQ_ (K5 (b:=1) E E E E qO) ?_;refine mv_ (C5 ?_);exact rn ⟨i+1,v86,B86,M84⟩ ⟨by dsimp only;omega,hok2,(by dsimp only;rw [hft,show A0B _ ws[i]=(_,_++[_]) from rfl];dsimp only;rw [B2I];exact hs86),(by dsimp only;rw [hft];exact hP84)⟩ (by dsimp only;omega) (W6 0 3 4 11 17 75 76 77) (Ch qP (Cf qP)) (λ_ h=>by cases h)
  .
   have hge:i=ws.length:=by simp at hc;omega
   subst hge;rw [List.take_length] at hok hs17 hPR;change RdOk _ _ (W9 s.ts key ws) at hok;change Sl _ _ _ (A13 (W9 s.ts key ws).2) _ at hs17;change Prm _ { s with ts:=(W9 s.ts key ws).1 } _ at hPR;refine D8 (te (re (be E (nx (F2 0 3 4 11 17) (A3 (A1 (mv_ ?_)))))));refine lQ_ (A5q (n:Int) E E (by split<;>omega)) ?_;refine mv_ (A0 (G7 0 3 11 17 89 90) (A7 ?_));have hokl:=hok.len;have hokf:=hok.ofl;have hoki:∀x∈(W9 s.ts key ws).2,i64 x:=λx hx=>by have:=hok.of x hx;unfold i64;omega
   generalize hra:(W9 s.ts key ws).1=tr at *;generalize hof:(W9 s.ts key ws).2=ofs at *;refine E5 (α:=Nat×Value×List Value×Mem×Mem×Mem) (λx=>[(0,(vP pb)),(3,.string (txt lb)),(11,x.2.1),(17,v17),(89,.int .i64 (n:Int)),(90,(vI x.1))]) (λx=>x.2.2.2.1++(B17++x.2.2.2.2.1)) (λx=>x.2.2.2.2.2) (λx=>x.1<=n∧Sl 1 x.2.1 x.1 x.2.2.1 x.2.2.2.1∧Lst x.2.2.2.2.2 x.2.2.1 (N7 tr ofs lb x.1).2∧Prm pb { s with ts:=(N7 tr ofs lb x.1).1 } x.2.2.2.2.1) (λx=>n-x.1) ⟨0,vS,[],[],MR,[]⟩ ⟨Am _,Sl.nil,Lst.nil,hPR⟩ (G7 0 3 11 17 89 90) .rfl (λ_ h=>by cases h) ?_;rintro ⟨i,v11,vs11,B11,MQ,JQ⟩ ⟨hi,hs11,hl11,hPQ⟩;dsimp only at hi hs11 hl11 hPQ ⊢;haveI:=hs11.cel;obtain ⟨hpl2,hpl1⟩:=A1A tr ofs lb i;refine A1 (lQ_ (E8 E E E) (A0 (N9 0 3 11 17 89 90 91) (A3 ?_)));refine C3 E ?_ ?_<;>intro hc
   .
    have hlt:i<n:=by simp at hc;omega
    obtain ⟨sv2,bt2,bm2,B2,MT2,rfl,hby2,hT2⟩:=hPQ.ex;dsimp only at hpl1 hT2 hby2 ⊢;have hor:=hs17.rd (R:=B17) λ_ h=>h;rw [hokf.symm] at hor;have hor:Rd B17 1 v17 ofs.length (A13 ofs):=A0C hor qO rfl;refine A6 (nx (G7 0 3 11 17 89 90) (A3 (A7 (A1 (mV_ E (aS_ E (A0 (N9 0 3 11 17 20 89 90) (C1 (mV_ E (mV_ E (lQ_ (E1 E) (lQ_ (qf_ 3 3) ?_))))))))))));refine lQ_ ql_ ?_;refine mv_ (mv_ (mv_ ?_));refine lQ_ (F0 (place:=λx=>#[(0,1),(1,1),(2,1),(3,1)][x]?) (z:=[zu8,vS,.string ByteArray.empty,P0]) (λ_=>by kernel_rfl) (eS E (eS E (eS E (eS E e0)))) (bdS 0 1 E qR (bdS 1 1 E qR (bdS 2 1 E qR (bdS 3 1 E qR bd0))))) ?_;refine A2 E (C9 (Mc:=MT2) (R:=_) (aS E (aS E a0)) kR qP (R8 bt2 bm2 (N7 tr ofs lb i).1 v17 (drv ofs lb i) MT2 _ hT2 qO (hor.mono qS) (B8O hoki qO hlb qO qO) (mA h4)) E ?_);rintro v102 M102 J102 ⟨rfl,rfl,hT102⟩;refine C6 (aS E a0) kR (V2 _ _) E ?_;rintro v103 M103 J103 ⟨rfl,hb103⟩;haveI:=hb103.cel;refine A2 E (C4 (e:=22) (sz:=1) (z:=[vS]) kR (eS E e0) (bdS 0 1 E qR bd0) E λb104=>?_);refine A2 E (H4 (e:=22) (sz:=1) (by_:=24) E E kR E hs11 (Co (n:=1) Cc qR) (by intro c hc;rw [List.mem_singleton.1 hc];exact hb103.one) qP (by unfold maxLen;omega) qO E λv105 B105 hs105=>?_);refine as_ (C5 (nb (nx (G7 0 3 11 17 89 90) (C1 ?_))));refine lQ_ (K5 (b:=1) E E E E qO) ?_;refine mv_ (C5 ?_);exact rn ⟨i+1,v105,vs11++[v103],B105,(pb,blk [.int .u8 (md s.real),sv2,.int .i64 (((s.n:Nat):Int)),(vP bt2)] 74)::(B2++M102),J103++JQ⟩ ⟨by dsimp only;omega,hs105,(by dsimp only;rw [show N7 tr ofs lb (i+1)=B1q ofs lb (N7 tr ofs lb i) i from Q4 i];exact (hl11.mono qS).snoc (hb103.mono qS)),(by dsimp only;rw [show N7 tr ofs lb (i+1)=B1q ofs lb (N7 tr ofs lb i) i from Q4 i];exact ⟨sv2,bt2,bm2,B2,M102,E,hby2,hT102⟩)⟩ (by dsimp only;omega) (G7 0 3 11 17 89 90) (Ch qP (Ch qP (Ch (B:=[_]) qP (Ch qP (Cf qP))))) qI
   .
    have hge:i=n:=by simp at hc;omega
    subst hge;refine D8 (te (re (be E (nx (D4 11) (A1 (mV_ E (aS_ E (A0 (D4 10) (A9 ?_)))))))));exact ⟨_,MQ,B11,H8 E E,(Ch qP (Cf qP)),by rw [A3B hr,show B0T s.ts key ws lb i=N7 tr ofs lb i by unfold B0T;rw [hra,hof]];exact hPQ,by rw [A5G hr,show B0T s.ts key ws lb i=N7 tr ofs lb i by unfold B0T;rw [hra,hof]];exact ⟨vs11,by rw [hpl2];exact hs11.rd qS,hl11.mono qS⟩⟩

structure Tok(ts:List Tm):Prop where
  tmo:∀t∈ts,Tmo t
  nd:ts.Nodup
variable{bt bm:Nat}
theorem Tab.tok(h:Tab bt bm ts M):Tok ts:=by obtain ⟨_,_,_,_,_,_,_,_,_,_,_,h1,h2⟩:=h;exact ⟨h1,h2⟩
theorem A4A{t:Tm}(ht:Tmo t)(h:Tok ts):∃l,add ts t=ts++l∧(add ts t).length<=ts.length+1∧(add ts t)[at_ ts t]? = some t∧Tok (add ts t):=by
  cases hp:pos ts t with
  | some j =>
    obtain ⟨h1,h2⟩:=A6q hp;exact ⟨[],by rw [h1,List.append_nil],A0P,by rw [h1,h2];exact A6n ht h.tmo hp,by rw [h1];exact h⟩
  | none =>
    obtain ⟨h1,h2⟩:=A9H hp;refine ⟨[t],h1,A0P,by rw [h1,h2];simp,?_⟩;rw [h1];refine ⟨λu hu=>?_,?_⟩
    . rcases List.mem_append.1 hu with hu|hu
      . exact h.tmo u hu
      . rw [List.mem_singleton.1 hu];exact ht
    . rw [List.nodup_append];refine ⟨h.nd,by simp,λx hx y hy e=>(A6o ht h.tmo).1 hp ?_⟩;rw [List.mem_singleton.1 hy] at e;exact e▸hx
variable{l:List Tm}
theorem A4B{t:Tm}(h:ts[i]? = some t):(ts++l)[i]? = some t:=by rw [Ak (Ac.1 h).1];exact h
theorem B2J{t:Tm}(h:Tok ts)(ht:ts[i]? = some t):add ts t=ts∧at_ ts t=i:=A6q (C2L h.tmo h.nd ht)
theorem A8J{j:Nat}(hi:i<18446744073709551616)(hj:j<18446744073709551616)(h:bts ((i:Nat):Int)=bts ((j:Nat):Int)):i=j:=by
  have h1:=A2o ((i:Nat):Int) 18446744073709551616;have h2:=A2o ((j:Nat):Int) 18446744073709551616;have ui:u64 ((i:Nat):Int)=i:=by unfold u64;omega
  have uj:u64 ((j:Nat):Int)=j:=by unfold u64;omega
  rw [ui,if_pos hi] at h1;rw [uj,if_pos hj] at h2;rw [h,h2] at h1;exact (Ca h1).symm
def B8P(ts:List Tm)(w:LN):Prop:=∃i,i<ts.length∧w=bts ((i:Nat):Int)
theorem B8P.ext(h:B8P ts w):B8P (ts++l) w:=by obtain ⟨i,hi,e⟩:=h;exact ⟨i,by rw [An];omega,e⟩
theorem A4C(hi:i<ts.length)(hl:ts.length<=1048576):rdT ts (bts ((i:Nat):Int))=ts∧rdI ts (bts ((i:Nat):Int))=i:=by refine A0g ?_;rw [A2o,show u64 ((i:Nat):Int)=i by unfold u64;omega,if_pos hi]
theorem A7M(ts:List Tm)(ofs:List Int)(lb:LN)(n:Nat):∃l,(N7 ts ofs lb (n+1)).1=(N7 ts ofs lb n).1++l:=by
  have e:N7 ts ofs lb (n+1)=B1q ofs lb (N7 ts ofs lb n) n:=Q4 n;rw [e];show ∃l,add _ _=_++l;unfold add;split
  . exact ⟨[],by simp⟩
  . exact ⟨_,E⟩
theorem A4D(h:Tok ts)(hd:∀i,i<100->Tmo (drv ofs lb i))(hn:n<=100):Tok (N7 ts ofs lb n).1:=by
  induction n with
  | zero=>exact h
  | succ n ih =>
    have e:N7 ts ofs lb (n+1)=B1q ofs lb (N7 ts ofs lb n) n:=Q4 n;rw [e];obtain ⟨_,_,_,_,h2⟩:=A4A (hd n qO) (ih qO);exact h2
theorem A8K(h:Tok ts)(hd:∀i,i<100->Tmo (drv ofs lb i))(hn:n<=100){ts':List Tm}(e:ts'=(N7 ts ofs lb n).1++l)(h':Tok ts'):N7 ts' ofs lb n=(ts',(N7 ts ofs lb n).2):=by
  induction n generalizing l with
  | zero=>rfl
  | succ n ih =>
    obtain ⟨l2,e2⟩:=A7M ts ofs lb n;have ih:=ih qO (l:=l2++l) (by rw [e,e2,Ap]);have e3:N7 ts ofs lb (n+1)=B1q ofs lb (N7 ts ofs lb n) n:=Q4 n;have e4:N7 ts' ofs lb (n+1)=B1q ofs lb (N7 ts' ofs lb n) n:=Q4 n;obtain ⟨l3,g1,g2,g3,g4⟩:=A4A (hd n qO) (A4D h hd (show n<=100 by omega))
    have g5:ts'[at_ (N7 ts ofs lb n).1 (drv ofs lb n)]? = some (drv ofs lb n):=by rw [e,e3];exact A4B g3
    obtain ⟨a1,a2⟩:=B2J h' g5;rw [e4,ih,e3];show (add ts' (drv ofs lb n),_++[bts ((at_ ts' (drv ofs lb n):Nat):Int)])=_;rw [a1,a2];rfl
theorem B2K(h:Tok ts)(hd:∀i,i<100->Tmo (drv ofs lb i))(hn:n<=100)(hi:i<n):∃j,(N7 ts ofs lb n).1[j]? = some (drv ofs lb i)∧(N7 ts ofs lb n).2[i]? = some (bts ((j:Nat):Int)):=by
  induction n with
  | zero=>omega
  | succ n ih =>
    have e3:N7 ts ofs lb (n+1)=B1q ofs lb (N7 ts ofs lb n) n:=Q4 n;obtain ⟨l3,g1,g2,g3,g4⟩:=A4A (hd n qO) (A4D h hd (show n<=100 by omega));obtain ⟨p1,p2⟩:=A1A ts ofs lb n;rw [e3];show ∃j,(add _ _)[j]? = _∧(_++[_])[i]? = _;by_cases hin:i<n
    . obtain ⟨j,h1,h2⟩:=ih qO hin;exact ⟨j,by rw [g1];exact A4B h1,by rw [Ak qO];exact h2⟩
    . obtain rfl:i=n:=by omega
      exact ⟨_,g3,by rw [Aq qO,p1,Nat.sub_self];rfl⟩
def Kok(s:Ps)(w:LN):Prop:=s.real=false->B8P s.ts w
structure Pext(s s':Ps):Prop where
  real:s'.real=s.real
  ts:∃l,s'.ts=s.ts++l
theorem Pext.refl(s:Ps):Pext s s:=⟨E,[],by simp⟩
theorem Pext.trans{a b c:Ps}(h1:Pext a b)(h2:Pext b c):Pext a c:=by obtain ⟨l1,e1⟩:=h1.ts;obtain ⟨l2,e2⟩:=h2.ts;exact ⟨h2.real.trans h1.real,l1++l2,by rw [e2,e1,Ap]⟩
theorem Kok.ext{s s':Ps}{w:LN}(h:Kok s w)(he:Pext s s'):Kok s' w:=λhr=>by obtain ⟨l,e⟩:=he.ts;rw [e];exact (h (by rw [<- he.real];exact hr)).ext
theorem A7N(s:Ps):Pext s (E7 s):=by
  unfold E7;split
  . exact ⟨E,[],by simp⟩
  . refine ⟨E,?_⟩;show ∃l,add _ _=_++l;unfold add;split
    . exact ⟨[],by simp⟩
    . exact ⟨_,E⟩
theorem B2L(h:Tok s.ts)(hn:s.n<1099511627776):Kok (E7 s) (F3 s)∧(s.real=false->Tok (E7 s).ts):=by
  cases hr:s.real with
  | true=>exact ⟨(λh1=>by rw [(A7N s).real,hr] at h1;cases h1),(λh=>by cases h)⟩
  | false =>
    obtain ⟨l,g1,g2,g3,g4⟩:=A4A (A6t (n:=s.n+1) qO) h;refine ⟨λ_=>?_,λ_=>by rw [A2V hr];exact g4⟩;rw [A2V hr,A33 hr];exact ⟨_,(Ac.1 g3).1,E⟩
theorem B0U(ws:List (LN))(st:List Tm×List Int):(ws.foldl A0B st).1.length<=st.1.length+ws.length:=by
  induction ws generalizing st with
  | nil=>exact Av _
  | cons w ws ih =>
    have h1:=ih (A0B st w);have h2:=R9 (ts:=st.1) (ws:=w);have h3:(A0B st w).1.length=(rdT st.1 w).length:=rfl;rw [List.foldl_cons,List.length_cons];omega
theorem A2X(s:Ps)(key:LN)(ws:List (LN))(lb:LN)(n:Nat):(A34 s key ws lb n).ts.length<=s.ts.length+1+ws.length+n:=by
  unfold A34;split
  . omega
  . have h1:=(A1A (W9 s.ts key ws).1 (W9 s.ts key ws).2 lb n).2;have h2:=B0U ws (A0B (s.ts,[]) key);have h3:=R9 (ts:=s.ts) (ws:=key);have h4:(A0B (s.ts,[]) key).1.length=(rdT s.ts key).length:=rfl;show (B0T s.ts key ws lb n).1.length<=_
    have h5:(W9 s.ts key ws).1.length<=s.ts.length+1+ws.length:=by show (ws.foldl A0B (A0B (s.ts,[]) key)).1.length<=_;omega
    unfold B0T;omega
theorem A1B(s:Ps)(key:LN)(ws:List (LN))(lb:LN)(n:Nat):(A34 s key ws lb n).real=s.real∧(A34 s key ws lb n).n=s.n∧(A34 s key ws lb n).seed=s.seed:=by unfold A34;split<;>exact ⟨E,E,E⟩

structure PrmT(pb bt bm:Nat)(s:Ps)(M:Mem):Prop where
  ex:∃(sv:Value) (B MT:Mem),M=(pb,blk [.int .u8 (md s.real),sv,(vI s.n),(vP bt)] 74)::(B++MT)∧By B sv s.seed∧Tab bt bm s.ts MT
variable{pb:Nat}
theorem PrmT.p(h:PrmT pb bt bm s M):Prm pb s M:=by obtain ⟨sv,B,MT,h1,h2,h3⟩:=h.ex;exact ⟨sv,bt,bm,B,MT,h1,h2,h3⟩
theorem Prm.t(h:Prm pb s M):∃bt bm,PrmT pb bt bm s M:=by obtain ⟨sv,bt,bm,B,MT,h1,h2,h3⟩:=h.ex;exact ⟨bt,bm,sv,B,MT,h1,h2,h3⟩
def B0V(x:Int):Tm:=⟨3,[x],[],0⟩
def B2M(s:Ps)(w:LN):Ps:={ s with ts:=add (rdT s.ts w) (B0V ((rdI s.ts w:Nat):Int)) }
def B6J(s:Ps)(w:LN):LN:=bts ((at_ (rdT s.ts w) (B0V ((rdI s.ts w:Nat):Int)):Nat):Int)
def C0i(s:Ps)(w u:LN):Ps:={ s with ts:=add (rdT (rdT s.ts w) u) (agT (rdT (rdT s.ts w) u) ((rdI s.ts w:Nat):Int) ((rdI (rdT s.ts w) u:Nat):Int)) }
def C2j(s:Ps)(w u:LN):LN:=bts ((at_ (rdT (rdT s.ts w) u) (agT (rdT (rdT s.ts w) u) ((rdI s.ts w:Nat):Int) ((rdI (rdT s.ts w) u:Nat):Int)):Nat):Int)
variable{x:Int}
theorem B8Q(h:i64 x):Tmo (B0V x):=⟨show 3<256 by decide,show i64 (0:Int) by unfold i64;omega,λi hi=>by rw [List.mem_singleton.1 hi];exact h,show 1<=1048576 by decide,⟨λx hx=>(List.not_mem_nil hx).elim⟩,show 0<=1099511627776 by decide⟩
theorem A4E(hw:∀x∈w,x<256)(hl:w.length<=1099511627776)(hts:∀t∈ts,Tmo t)(hn:ts.length<=1048576):i64 ((rdI ts w:Nat):Int):=by have h1:=B8N hw hl hts;have h2:(rdT ts w).length<=ts.length+1:=R9;unfold i64;omega
theorem A0w(pb bt bm:Nat)(m k:Int)(sv:Value)[hsv:Cel sv [sv]](ts:List Tm)(v:Value)(w:LN)(MT A:Mem)(hT:Tab bt bm ts MT)(hpb:(pb,blk [.int .u8 m,sv,.int .i64 k,(vP bt)] 74)∈A)(hn:ts.length<=1048576)(hv:By A v w){e4:TypeId}{f4:Nat×Nat}(h4:(4,Obj.cells (nums .u64 A0G).toArray e4 f4)∈A):FnX prog 46 [(vP pb),v] MT A λq M J=>q=(vI (rdI ts w))∧Tab bt bm (rdT ts w) M:=by haveI:=hv.cel;have hvl:=hv.len;refine FnX.enterZ (N:=11) func46 E E E λw_=>?_;refine A8 (D0 0 1) (A1 (aS_ E (A0 (D0 0 1) (A1 (mV_ E (lQ_ (E1 E) (lQ_ (qf_ 3 3) ?_)))))));refine lQ_ ql_ ?_;refine mv_ ?_;refine A2 E (C9 (Mc:=MT) (R:=_) (aS E (aS E a0)) kR qP (A7K bt bm ts v w MT _ hT hn (hv.rd.mono qS) hv.lt (by have:=hv.len;omega) (qS _ h4)) E ?_);rintro v10 M10 J10 ⟨rfl,rfl,hT10⟩;refine as_ (A0 (D4 4) (A9 ?_));exact ⟨_,M10,[],H8 E E,Fit.none (Cf qP),E,hT10⟩
theorem A8L(pb bt bm:Nat)(s:Ps)(hr:s.real=false)(v:Value)(w:LN)(MP A:Mem)(hP:PrmT pb bt bm s MP)(hn:s.ts.length<1048576)(hv:By A v w)(hG:Glb A):FnX prog 20 [(vP pb),v] MP A λq M J=>PrmT pb bt bm (B2M s w) M∧By J q (B6J s w):=by
 obtain ⟨sv,B,MT,rfl,hby,hT⟩:=hP.ex;have hmd:md s.real=1:=by rw [hr];rfl
 rw [hmd] at *;obtain ⟨⟨ge0,gf0,h0⟩,⟨ge1,gf1,h1⟩,⟨ge4,gf4,h4⟩⟩:=hG;haveI:=hv.cel;haveI:=hby.cel;have hvl:=hv.len;refine FnX.enterZ (N:=26) func20 E E E λw_=>?_;refine A8 (D0 0 1) (A1 (aS_ E (A0 (D0 0 1) (A3 (A1 (mV_ E (lQ_ (F6 (e:=74) E E kR) (A0 (D6 0 1 6) ?_))))))));refine C7 E ?_;refine A6 (nx (D0 0 1) (A3 (A1 (mV_ E (lQ_ (E1 E) (lQ_ (qf_ 0 0) ?_))))));refine lQ_ ql_ ?_;refine lQ_ (F5 false E E (eqF qD)) ?_;refine A0 (D6 0 1 11) ?_;refine C7 E ?_;refine A6 (nx (D0 0 1) ?_);refine F8 (MT) (_) true [0,1,2,3,4,5,6,7,8,11] (zp 0 [0,0,0,1,0,0,2,2,0,2,2,0]) kR kR qP λhs K n0 hKm hKs hKn=>?_;refine kM_ E E (kQ_ E (E1 E) (kQ_ E (qf_ 3 3) ?_));refine I8 hs E hKs ql_ ?_;refine kM_ E E (km_ ?_)
 refine H0 _ _ E E (Ah _) hKm λw0=>(C9 (Mc:=MT) (R:=_) (aS E (aS E a0)) kR qP (A0w pb bt bm 1 _ sv s.ts v w MT _ hT Cc qO (hv.mono qS) (qS _ h4)) E ?_)
 rintro v21 M21 J21 ⟨rfl,hT21⟩ hKx
 refine H0 [] _ rfl rfl (Ah _) (λ_ h=>by cases h) λw0=>(C4 (e:=3) (sz:=1) (z:=[P0]) kR (eS rfl e0) (bdS 0 1 rfl qR bd0) rfl λb22=>λ_=>?_)
 refine A2j (M':=(b22,blk [(vI (rdI s.ts w))] 3)::(M21++((pb,blk [.int .u8 1,sv,.int .i64 (((s.n:Nat):Int)),(vP bt)] 74)::(B++[])))) qM ?_;refine kQ_ E (F0 (place:=λx=>#[(0,1),(1,1),(2,1),(3,1)][x]?) (z:=[zu8,vS,.string ByteArray.empty,P0]) (λ_=>by kernel_rfl) (eS E (eS E e0)) (bdS 0 1 E qR (bdS 1 1 E qR bd0))) ?_;refine K1 E E E (C9 (Mc:=M21) (R:=_) (aS E (aS E a0)) kR qP (R8 bt bm (rdT s.ts w) _ (B0V ((rdI s.ts w:Nat):Int)) M21 _ hT21 (by have:=R9 (ts:=s.ts) (ws:=w);omega) (Co (n:=1) Cc qR) (B8Q (A4E hv.lt qO hT.tok.tmo qO)) (qS _ h4)) E ?_);rintro v24 M24 J24 ⟨rfl,rfl,hT24⟩;refine K1 E E E (E2 (aS E a0) kR (V2 _ _) E ?_);rintro v25 M25 J25 ⟨rfl,h25⟩;refine kQ_ E (G3 E) (I1 (D4 4) (A9 ?_));exact ⟨_,(pb,blk [.int .u8 1,sv,.int .i64 (((s.n:Nat):Int)),(vP bt)] 74)::(B++M24),[],H8 E E,(Fit.none (Ch (B:=[_]) qP (Ch qP (Cf qP)))),⟨sv,B,M24,by rw [show md (B2M s w).real=1 by show md s.real=1;rw [hr];rfl];rfl,hby,hT24⟩,h25.mono qS⟩
theorem A8M(pb bt bm:Nat)(s:Ps)(hr:s.real=false)(v v2:Value)(w u:LN)(MP A:Mem)(hP:PrmT pb bt bm s MP)(hn:s.ts.length+1<1048576)(hv:By A v w)(hu:By A v2 u)(hG:Glb A):FnX prog 48 [(vP pb),v,v2] MP A λq M J=>PrmT pb bt bm (C0i s w u) M∧By J q (C2j s w u):=by
 obtain ⟨sv,B,MT,rfl,hby,hT⟩:=hP.ex;have hmd:md s.real=1:=by rw [hr];rfl
 rw [hmd] at *;obtain ⟨⟨ge0,gf0,h0⟩,⟨ge1,gf1,h1⟩,⟨ge4,gf4,h4⟩⟩:=hG;haveI:=hv.cel;haveI:=hu.cel;haveI:=hby.cel;have hvl:=hv.len;have hul:=hu.len;refine FnX.enterZ (N:=31) func48 E E E λw_=>?_;refine A8 (D6 0 1 2) (A1 (aS_ E (A0 (D6 0 1 2) (A3 (A1 (mV_ E (lQ_ (F6 (e:=74) E E kR) (A0 (D7 0 1 2 8) ?_))))))));refine C7 E ?_;refine A6 (nx (D6 0 1 2) (A3 (A1 (mV_ E (lQ_ (E1 E) (lQ_ (qf_ 0 0) ?_))))));refine lQ_ ql_ ?_;refine lQ_ (F5 false E E (eqF qD)) ?_;refine A0 (D7 0 1 2 13) ?_;refine C7 E ?_;refine A6 (nx (D6 0 1 2) ?_);refine F8 (MT) (_) true [0,1,2,3,4,5,6,7,8,9,12] [(0,0),(1,0),(2,0),(3,1),(4,0),(5,0),(7,0),(8,0),(6,2),(9,2),(10,2),(11,2),(12,0)] kR kR qP λhs K n0 hKm hKs hKn=>?_;refine kM_ E E (kQ_ E (E1 E) (kQ_ E (qf_ 3 3) ?_));refine I8 hs E hKs ql_ ?_;refine kM_ E E (kM_ E E (kM_ E E (km_ ?_)))
 refine H0 _ _ E E (Ah _) hKm λw0=>(C9 (Mc:=MT) (R:=_) (aS E (aS E a0)) kR qP (A0w pb bt bm 1 _ sv s.ts v w MT _ hT Cc qO (hv.mono qS) (qS _ h4)) E ?_)
 rintro v25 M25 J25 ⟨rfl,hT25⟩ hKx
 refine H0 (M25++[]) _ E E qP (hKx (hKn E)) λw0=>(C9 (Mc:=M25) (R:=_) (aS E (aS E a0)) kR qP (A0w pb bt bm 1 _ sv (rdT s.ts w) v2 u M25 _ hT25 Cc (by have:=R9 (ts:=s.ts) (ws:=w);omega) (hu.mono qS) (qS _ h4)) E ?_)
 rintro v28 M28 J28 ⟨rfl,hT28⟩ hKy;refine K1 E E E (C9 (Mc:=M28) (R:=_) (aS E (aS E (aS E a0))) kR qP (B0R bt bm (rdT (rdT s.ts w) u) _ _ M28 _ hT28 (by have:=R9 (ts:=s.ts) (ws:=w);have:=R9 (ts:=rdT s.ts w) (ws:=u);omega) (A4E hv.lt qO hT.tok.tmo qO) (A4E hu.lt qO hT25.tok.tmo (by have:=R9 (ts:=s.ts) (ws:=w);omega)) (qS _ h4)) E ?_);rintro v29 M29 J29 ⟨rfl,rfl,hT29⟩;refine K1 E E E (E2 (aS E a0) kR (V2 _ _) E ?_);rintro v30 M30 J30 ⟨rfl,h30⟩;refine kQ_ E (G3 E) (I1 (D4 6) (A9 ?_));exact ⟨_,(pb,blk [.int .u8 1,sv,.int .i64 (((s.n:Nat):Int)),(vP bt)] 74)::(B++M29),[],H8 E E,(Fit.none (Ch (B:=[_]) qP (Ch qP (Cf qP)))),⟨sv,B,M29,by rw [show md (C0i s w u).real=1 by show md s.real=1;rw [hr];rfl];rfl,hby,hT29⟩,h30.mono qS⟩
theorem A9K(pb:Nat)(s:Ps)(hr:s.real=false)(v:Value)(w:LN)(MP A:Mem)(hP:Prm pb s MP)(hn:s.ts.length<1048576)(hv:By A v w)(hG:Glb A):FnX prog 20 [(vP pb),v] MP A λq M J=>Prm pb (B2M s w) M∧By J q (B6J s w):=by
  obtain ⟨bt,bm,h⟩:=hP.t
  exact (A8L pb bt bm s hr v w MP A h hn hv hG).mono λq M J ⟨h1,h2⟩=>⟨h1.p,h2⟩
theorem B6K(pb:Nat)(s:Ps)(hr:s.real=false)(v v2:Value)(w u:LN)(MP A:Mem)(hP:Prm pb s MP)(hn:s.ts.length+1<1048576)(hv:By A v w)(hu:By A v2 u)(hG:Glb A):FnX prog 48 [(vP pb),v,v2] MP A λq M J=>Prm pb (C0i s w u) M∧By J q (C2j s w u):=by
  obtain ⟨bt,bm,h⟩:=hP.t
  exact (A8M pb bt bm s hr v v2 w u MP A h hn hv hu hG).mono λq M J ⟨h1,h2⟩=>⟨h1.p,h2⟩

def A3C(x:Int)(a b:LN):Tm:=⟨6,[x],mark a++mark b,0⟩
def B6L(x:Int)(m:LN):Tm:=⟨7,[x],m,0⟩
def B5P(s:Ps)(w:LN)(f:Int->Tm):Ps:={ s with ts:=add (rdT s.ts w) (f ((rdI s.ts w:Nat):Int)) }
def B6M(s:Ps)(w:LN)(f:Int->Tm):LN:=bts ((at_ (rdT s.ts w) (f ((rdI s.ts w:Nat):Int)):Nat):Int)
theorem B2N(h:i64 x){a b:LN}(ha:∀y∈a,y<256)(hb:∀y∈b,y<256)(la:a.length<=16777216)(lb:b.length<=16777216):Tmo (A3C x a b):=by
  haveI:B256 a:=⟨ha⟩
  haveI:B256 b:=⟨hb⟩
  have h1:=A1P a qO;have h2:=A1P b qO;exact ⟨show 6<256 by decide,show i64 (0:Int) by unfold i64;omega,λi hi=>by rw [List.mem_singleton.1 hi];exact h,show 1<=1048576 by decide,inferInstanceAs (B256 (mark a++mark b)),by show (mark a++mark b).length<=_;rw [An];omega⟩
theorem C2W(h:i64 x){m:LN}(hm:∀y∈m,y<256)(lm:m.length<=16777216):Tmo (B6L x m) :=
  ⟨show 7<256 by decide,show i64 (0:Int) by unfold i64;omega,λi hi=>by rw [List.mem_singleton.1 hi];exact h,show 1<=1048576 by decide,⟨hm⟩,show m.length<=1099511627776 by omega⟩
theorem B2O(pb bt bm:Nat)(s:Ps)(hr:s.real=false)(v v2 v3:Value)(w wa wb:LN)(MP A:Mem)(hP:PrmT pb bt bm s MP)(hn:s.ts.length<1048576)(hv:By A v w)(hya:By A v2 wa)(hyb:By A v3 wb)(hG:Glb A):FnX prog 59 [(vP pb),v,v2,v3] MP A λq M J=>PrmT pb bt bm (B5P s w λx=>A3C x wa wb) M∧By J q (B6M s w λx=>A3C x wa wb):=by
 obtain ⟨sv,B,MT,rfl,hby,hT⟩:=hP.ex;have hmd:md s.real=1:=by rw [hr];rfl
 rw [hmd] at *;obtain ⟨⟨ge0,gf0,h0⟩,⟨ge1,gf1,h1⟩,⟨ge4,gf4,h4⟩⟩:=hG;haveI:=hv.cel;haveI:=hya.cel;haveI:=hyb.cel;haveI:=hby.cel;have hvl:=hv.len;have hal:=hya.len;have hbl:=hyb.len;refine FnX.enterZ (N:=38) func59 E E E λw_=>?_;refine A8 (D7 0 1 2 3) (A1 (aS_ E (A0 (D7 0 1 2 3) (A3 (A1 (mV_ E (lQ_ (F6 (e:=74) E E kR) (A0 (F2 0 1 2 3 10) ?_))))))));refine C7 E ?_;refine A6 (nx (D7 0 1 2 3) (A3 (A1 (mV_ E (lQ_ (E1 E) (lQ_ (qf_ 0 0) ?_))))));refine lQ_ ql_ ?_;refine lQ_ (F5 false E E (eqF qD)) ?_;refine A0 (F2 0 1 2 3 15) ?_;refine C7 E ?_;refine A6 (nx (D7 0 1 2 3) ?_);refine F8 (MT) (_) true [0,1,2,3,4,5,6,7,8,9,10,11,12,13,16] [(0,0),(1,0),(2,0),(3,1),(4,0),(5,0),(8,0),(10,0),(6,2),(7,3),(9,3),(11,3),(12,4),(13,0),(14,2),(15,2),(16,0)] kR kR qP λhs K n0 hKm hKs hKn=>?_;refine kM_ E E (kQ_ E (E1 E) (kQ_ E (qf_ 3 3) ?_));refine I8 hs E hKs ql_ ?_;refine kM_ E E (kM_ E E (kM_ E E (km_ ?_)))
 refine H0 _ _ E E (Ah _) hKm λw0=>(C9 (Mc:=MT) (R:=_) (aS E (aS E a0)) kR qP (A0w pb bt bm 1 _ sv s.ts v w MT _ hT Cc qO (hv.mono qS) (qS _ h4)) E ?_)
 rintro v28 M28 J28 ⟨rfl,hT28⟩ hKx
 refine A7z [⟨7,29,λv B _=>∃b,v=.slice (some ⟨b,0,none⟩) 1 1∧B=[(b,blk [(vI (rdI s.ts w))] 3)]⟩,⟨9,31,λv B _=>B=[]∧v=.string (txt (mark wa))⟩,⟨11,33,λv B _=>B=[]∧v=.string (txt (mark wb))⟩,⟨12,34,λv B _=>B=[]∧v=.string (txt (mark wa++mark wb))⟩]
  gA nd_ nd_ dl_
  (gO ?_ (gO ?_ (gO ?_ (gO ?_ (I5))))) ?_
 .
  intros
  exact C4 (e:=3) (sz:=1) (z:=[P0]) kR (eS E e0) (bdS 0 1 E qR bd0) E λb=>⟨_,E,b,E,E⟩
 . intro _ _ _ _ hb _;exact R6 (aS E a0) kR (A2Q v2 wa _ (hya.rd.mono λx hx=>hb _ (qS x hx)) (hb:=hya.b256) (by have:=hya.len;omega) (hb _ (qS _ h4))) E ⟨_,E,E,E⟩
 . intro _ _ _ _ hb _;exact R6 (aS E a0) kR (A2Q v3 wb _ (hyb.rd.mono λx hx=>hb _ (qS x hx)) (hb:=hyb.b256) (by have:=hyb.len;omega) (hb _ (qS _ h4))) E ⟨_,E,E,E⟩
 . intro _ _ _ _ _ ha;have g9:=gx 1 ha;dsimp only at g9;have g11:=gx 2 ha;dsimp only at g11;obtain ⟨-,h9⟩:=g9;obtain ⟨-,h11⟩:=g11;exact Cn (A17 (ws:=mark wa) (ws':=mark wb) (by rw [<- h9];rfl) (by rw [<- h11];rfl) E E (by have h1:=A1P wa qO;have h2:=A1P wb qO;omega)) E ⟨_,E,E,E⟩
 intro vs bs Jn0 hφ;have g7:=gy 0 hφ;have g9:=gy 1 hφ;have g11:=gy 2 hφ;have g12:=gy 3 hφ;dsimp only at g7 g9 g11 g12;clear hφ;dsimp only [V0,Q6,List.map,List.flatten,Cu,Ct];generalize bs 7=B29,bs 9=B31,bs 11=B33,bs 12=B34,vs 7=u29,vs 9=u31,vs 11=u33,vs 12=u34 at *;obtain ⟨b29,rfl,rfl⟩:=g7;obtain ⟨rfl,rfl⟩:=g9;obtain ⟨rfl,rfl⟩:=g11;obtain ⟨rfl,rfl⟩:=g12;dsimp only [List.append_eq,Ct,Cu];refine kQ_ E (F0 (place:=λx=>#[(0,1),(1,1),(2,1),(3,1)][x]?) (z:=[zu8,vS,.string ByteArray.empty,P0]) (λ_=>by kernel_rfl) (eS E (eS E (eS E e0))) (bdS 0 1 E qR (bdS 1 1 E qR (bdS 2 1 E qR bd0)))) ?_;refine K1 E E E (C9 (Mc:=M28) (R:=_) (aS E (aS E a0)) kR qP (R8 bt bm (rdT s.ts w) _ (A3C ((rdI s.ts w:Nat):Int) wa wb) M28 _ hT28 (by have:=R9 (ts:=s.ts) (ws:=w);omega) (Co (n:=1) Cc qR) (B2N (A4E hv.lt qO hT.tok.tmo qO) hya.lt hyb.lt hya.len hyb.len) (qS _ h4)) E ?_);rintro v36 M36 J36 ⟨rfl,rfl,hT36⟩;refine K1 E E E (E2 (aS E a0) kR (V2 _ _) E ?_);rintro v37 M37 J37 ⟨rfl,h37⟩;refine kQ_ E (G3 E) (I1 (D4 8) (A9 ?_));exact ⟨_,(pb,blk [.int .u8 1,sv,.int .i64 (((s.n:Nat):Int)),(vP bt)] 74)::(B++M36),[],H8 E E,(Fit.none (Ch (B:=[_]) qP (Ch qP (Cf qP)))),⟨sv,B,M36,by rw [show md (B5P s w (λx=>A3C x wa wb)).real=1 by show md s.real=1;rw [hr];rfl];rfl,hby,hT36⟩,h37.mono qS⟩
theorem B2P(pb bt bm:Nat)(s:Ps)(hr:s.real=false)(v v2:Value)(w wm:LN)(MP A:Mem)(hP:PrmT pb bt bm s MP)(hn:s.ts.length<1048576)(hv:By A v w)(hm:By A v2 wm)(hG:Glb A):FnX prog 37 [(vP pb),v,v2] MP A λq M J=>PrmT pb bt bm (B5P s w λx=>B6L x wm) M∧By J q (H5 (B6M s w λx=>B6L x wm) 64):=by
 obtain ⟨sv,B,MT,rfl,hby,hT⟩:=hP.ex;have hmd:md s.real=1:=by rw [hr];rfl
 rw [hmd] at *;obtain ⟨⟨ge0,gf0,h0⟩,⟨ge1,gf1,h1⟩,⟨ge4,gf4,h4⟩⟩:=hG;haveI:=hv.cel;haveI:=hm.cel;haveI:=hby.cel;have hvl:=hv.len;have hml:=hm.len;refine FnX.enterZ (N:=32) func37 E E E λw_=>?_;refine A8 (D6 0 1 2) (A1 (aS_ E (A0 (D6 0 1 2) (A3 (A1 (mV_ E (lQ_ (F6 (e:=74) E E kR) (A0 (D7 0 1 2 8) ?_))))))));refine C7 E ?_;refine A6 (nx (D6 0 1 2) (A3 (A1 (mV_ E (lQ_ (E1 E) (lQ_ (qf_ 0 0) ?_))))));refine lQ_ ql_ ?_;refine lQ_ (F5 false E E (eqF qD)) ?_;refine A0 (D7 0 1 2 13) ?_;refine C7 E ?_;refine A6 (nx (D6 0 1 2) ?_);refine F8 (MT) (_) true [0,1,2,3,4,5,6,7,8,9,10,14] [(0,0),(1,0),(2,0),(3,1),(4,0),(5,0),(8,0),(9,1),(6,2),(7,2),(10,0),(11,2),(12,2),(13,2),(14,0)] kR kR qP λhs K n0 hKm hKs hKn=>?_;refine kM_ E E (kQ_ E (E1 E) (kQ_ E (qf_ 3 3) ?_));refine I8 hs E hKs ql_ ?_;refine kM_ E E (kM_ E E (km_ ?_));refine I8 hs E hKs (L3 E kR (hm.rd.mono qS)) ?_
 refine H0 _ _ E E (Ah _) hKm λw0=>(C9 (Mc:=MT) (R:=_) (aS E (aS E a0)) kR qP (A0w pb bt bm 1 _ sv s.ts v w MT _ hT Cc qO (hv.mono qS) (qS _ h4)) E ?_)
 rintro v24 M24 J24 ⟨rfl,hT24⟩ hKx
 refine H0 [] _ rfl rfl (Ah _) (λ_ h=>by cases h) λw0=>(C4 (e:=3) (sz:=1) (z:=[P0]) kR (eS rfl e0) (bdS 0 1 rfl qR bd0) rfl λb25=>λ_=>?_)
 refine A2j (M':=(b25,blk [(vI (rdI s.ts w))] 3)::(M24++((pb,blk [.int .u8 1,sv,.int .i64 (((s.n:Nat):Int)),(vP bt)] 74)::(B++[])))) qM ?_;refine kQ_ E (F0 (place:=λx=>#[(0,1),(1,1),(2,1),(3,1)][x]?) (z:=[zu8,vS,.string ByteArray.empty,P0]) (λ_=>by kernel_rfl) (eS E (eS E (eS E e0))) (bdS 0 1 E qR (bdS 1 1 E qR (bdS 2 1 E qR bd0)))) ?_;refine K1 E E E (C9 (Mc:=M24) (R:=_) (aS E (aS E a0)) kR qP (R8 bt bm (rdT s.ts w) _ (B6L ((rdI s.ts w:Nat):Int) wm) M24 _ hT24 (by have:=R9 (ts:=s.ts) (ws:=w);omega) (Co (n:=1) Cc qR) (C2W (A4E hv.lt qO hT.tok.tmo qO) hm.lt hm.len) (qS _ h4)) E ?_);rintro v29 M29 J29 ⟨rfl,rfl,hT29⟩;refine K1 E E E (E2 (aS E a0) kR (V2 _ _) E ?_);rintro v30 M30 J30 ⟨rfl,h30⟩;haveI:=h30.cel;refine K1 E E E (E2 (aS E (aS E a0)) kR (Y0 v30 _ 64 _ (h30.mono qS) qD) E ?_);rintro v31 M31 J31 ⟨rfl,h31⟩;refine kQ_ E (G3 E) (I1 (D4 6) (A9 ?_));exact ⟨_,(pb,blk [.int .u8 1,sv,.int .i64 (((s.n:Nat):Int)),(vP bt)] 74)::(B++M29),[],H8 E E,(Fit.none (Ch (B:=[_]) qP (Ch qP (Cf qP)))),⟨sv,B,M29,by rw [show md (B5P s w (λx=>B6L x wm)).real=1 by show md s.real=1;rw [hr];rfl];rfl,hby,hT29⟩,h31.mono qS⟩

end Go.Proofs.YtglbhoeolghndaaGreatDoor
namespace Go.Px
abbrev p25:Nat:=57896044618658097711785492504343953926634992332820282019728792003956564819949
def fv(a b c d e:Nat):Nat:=a+2251799813685248*b+5070602400912917605986812821504*c+11417981541647679048466287755595961091061972992*d+25711008708143844408671393477458601640355247900524685364822016*e
variable{a b c d e a1 b1 c1 d1 e1:Nat}
theorem B0W(ha:a<9223372036854775808)(hb:b<9223372036854775808)(hc:c<9223372036854775808)(hd:d<9223372036854775808)(he:e<9223372036854775808)
    (h1:a1=(a+19*(e/2251799813685248)%18446744073709551616)%18446744073709551616) (h2:b1=(b+a1/2251799813685248)%18446744073709551616) (h3:c1=(c+b1/2251799813685248)%18446744073709551616)
    (h4:d1=(d+c1/2251799813685248)%18446744073709551616) (h5:e1=(e%2251799813685248+d1/2251799813685248)%18446744073709551616) :
    fv (a1%2251799813685248) (b1%2251799813685248) (c1%2251799813685248) (d1%2251799813685248) e1+p25*(e/2251799813685248)=fv a b c d e∧e1<2251799813685248+8192:=by
  unfold fv p25;omega
variable{q V:Nat}
theorem N8{v:Nat}(h:v+p25*q=V):v%p25=V%p25:=by rw [<- h,Nat.add_mul_mod_self_left]
variable{a2 b2 c2 d2 e2:Nat}
theorem C2X(ha:a<4503599627370496)(hb:b<4503599627370496)(hc:c<4503599627370496)(hd:d<4503599627370496)(he:e<4503599627370496)(ha2:a2<4503599627370496)(hb2:b2<4503599627370496)(hc2:c2<4503599627370496)(hd2:d2<4503599627370496)(he2:e2<4503599627370496) :
    fv ((a+a2)%18446744073709551616) ((b+b2)%18446744073709551616) ((c+c2)%18446744073709551616) ((d+d2)%18446744073709551616) ((e+e2)%18446744073709551616)=fv a b c d e+fv a2 b2 c2 d2 e2:=by
  rw [Af (a:=a+a2) (by omega),Af (a:=b+b2) (by omega),Af (a:=c+c2) (by omega),Af (a:=d+d2) (by omega),Af (a:=e+e2) (by omega)];unfold fv;omega
theorem A4F{t:Nat}(ha:a<4503599627370496)(ht:t<9007199254740992)(hb:b<=t):(a+(t+(18446744073709551616-b))%18446744073709551616)%18446744073709551616=a+t-b:=by omega
theorem A2Y{t:Nat}(ha:a<4503599627370496)(ht:t<9007199254740992)(hb:b<=t):a+t-b<9223372036854775808:=by omega
theorem C2Y(ha:a2<=9007199254740916)(hb:b2<=9007199254740988)(hc:c2<=9007199254740988)(hd:d2<=9007199254740988)(he:e2<=9007199254740988) :
    fv (a+9007199254740916-a2) (b+9007199254740988-b2) (c+9007199254740988-c2) (d+9007199254740988-d2) (e+9007199254740988-e2)+fv a2 b2 c2 d2 e2=fv a b c d e+4*p25:=by
  unfold fv p25;omega
theorem C0j{A B:Nat}(h:V+B=A+4*p25):V%p25=(A%p25+p25-B%p25)%p25:=by unfold p25 at *;omega
variable{x1:Nat}
theorem B2Q{x y x0 y0 y1 w0 t w1:Nat}(hx:x<18446744073709551616)(hy:y<18446744073709551616)(h1:x0=x%4294967296)(h2:x1=x/4294967296)(h3:y0=y%4294967296)(h4:y1=y/4294967296)
    (h5:w0=x0*y0%18446744073709551616) (h6:t=(x1*y0%18446744073709551616+w0/4294967296)%18446744073709551616) (h7:w1=(t%4294967296+x0*y1%18446744073709551616)%18446744073709551616) :
    ((x1*y1%18446744073709551616+t/4294967296)%18446744073709551616+w1/4294967296)%18446744073709551616=x*y/18446744073709551616:=by
  have b0:x0<=4294967295:=by omega
  have b1:x1<=4294967295:=by omega
  have b2:y0<=4294967295:=by omega
  have b3:y1<=4294967295:=by omega
  have q0:=Nat.mul_le_mul b0 b2;have q1:=Nat.mul_le_mul b1 b2;have q2:=Nat.mul_le_mul b0 b3;have q3:=Nat.mul_le_mul b1 b3;have ex:x=x0+4294967296*x1:=by omega
  have ey:y=y0+4294967296*y1:=by omega
  have e:x*y=x0*y0+4294967296*(x1*y0)+4294967296*(x0*y1)+18446744073709551616*(x1*y1):=by rw [ex,ey];grind
  rw [e];clear e ex ey h1 h2 h3 h4 b0 b1 b2 b3 hx hy;generalize x0*y0=A at *;generalize x1*y0=B at *;generalize x0*y1=C at *;generalize x1*y1=E0_ at *;omega
theorem or13{hi lo:Nat}(hh:hi<18446744073709551616)(hl:lo<18446744073709551616):(hi*8192%18446744073709551616 ||| lo/2251799813685248)=(hi*18446744073709551616+lo)/2251799813685248%18446744073709551616:=by
  have e:hi*8192%18446744073709551616=(hi%2251799813685248) <<< 13:=by rw [Nat.shiftLeft_eq];omega
  rw [e,<- Nat.shiftLeft_add_eq_or_of_lt (by show _<8192;omega),Nat.shiftLeft_eq];omega
theorem A1Q{R S T:Nat}(h0:R<2596148429267413814265248164610048)(h1:S<5192296858534827628530496329220096)(e:T=(R+S/2251799813685248%18446744073709551616)%340282366920938463463374607431768211456):T=R+S/2251799813685248∧T<5192296858534827628530496329220096:=by
  have a:S/2251799813685248<18446744073709551616:=by omega
  rw [Af a,Af (by omega)] at e;omega
theorem B6N{R0 R1 R2 R3 R4 S1 S2 S3 S4 l0 l1 l2 l3 l4 o0 o1:Nat}(h0:R0<2596148429267413814265248164610048)(h1:R1<2596148429267413814265248164610048)(h2:R2<2596148429267413814265248164610048)(h3:R3<2596148429267413814265248164610048)(h4:R4<162259276829213363391578010288128)
    (e1:S1=(R1+R0/2251799813685248%18446744073709551616)%340282366920938463463374607431768211456) (e2:S2=(R2+S1/2251799813685248%18446744073709551616)%340282366920938463463374607431768211456) (e3:S3=(R3+S2/2251799813685248%18446744073709551616)%340282366920938463463374607431768211456) (e4:S4=(R4+S3/2251799813685248%18446744073709551616)%340282366920938463463374607431768211456)
    (f0:l0%2251799813685248=R0%2251799813685248) (f1:l1%2251799813685248=S1%2251799813685248) (f2:l2%2251799813685248=S2%2251799813685248) (f3:l3%2251799813685248=S3%2251799813685248) (f4:l4%2251799813685248=S4%2251799813685248)
    (g0:o0=(l0%2251799813685248+19*(S4/2251799813685248%18446744073709551616)%18446744073709551616)%18446744073709551616) (g1:o1=(l1%2251799813685248+o0/2251799813685248)%18446744073709551616) :
    o1<4503599627370496∧fv (o0%2251799813685248) o1 (l2%2251799813685248) (l3%2251799813685248) (l4%2251799813685248)+p25*(S4/2251799813685248)=R0+2251799813685248*R1+5070602400912917605986812821504*R2+11417981541647679048466287755595961091061972992*R3+25711008708143844408671393477458601640355247900524685364822016*R4:=by
  rw [f2,f3,f4];rw [f0] at g0;rw [f1] at g1;clear f0 f1 f2 f3 f4;obtain ⟨k1,j1⟩:=A1Q h1 (by omega) e1;obtain ⟨k2,j2⟩:=A1Q h2 j1 e2;obtain ⟨k3,j3⟩:=A1Q h3 j2 e3;obtain ⟨k4,j4⟩:=A1Q (by omega) j3 e4;have j5:S3/2251799813685248<2305843009213693952:=by clear e1 e2 e3 e4 k1 k2 k3 k4 g0 g1;omega
  clear e1 e2 e3 e4 j1 j2 j3;have k5:S4<324518553658426726783156020576256:=by clear g0 g1 k1 k2 k3;omega
  have j6:S4/2251799813685248<288230376151711744:=by clear g0 g1 k1 k2 k3 k4;omega
  have k6:o0=R0%2251799813685248+19*(S4/2251799813685248):=by clear g1 k1 k2 k3 k4 h0 h1 h2 h3 h4 k5 j5;omega
  have k7:o1=S1%2251799813685248+o0/2251799813685248:=by clear g0 k1 k2 k3 k4 h0 h1 h2 h3 h4 k5 j5;omega
  clear g0 g1;refine ⟨by clear k1 k2 k3 k4 h0 h1 h2 h3 h4 k5 j5;omega,?_⟩;clear h0 h1 h2 h3 h4 k5 j5 j6 j4;unfold fv p25;omega
theorem A7O{x2 x3 x4 x5 z1 z2 z3 z4 z5:Nat}(h1:z1<=385365782469381738054997774434304)(h2:z2<=385365782469381738054997774434304)(h3:z3<=385365782469381738054997774434304)(h4:z4<=385365782469381738054997774434304)(h5:z5<=385365782469381738054997774434304)(e1:x1=(0*18446744073709551616+0+z1)%340282366920938463463374607431768211456)(e2:x2=(x1+z2)%340282366920938463463374607431768211456)(e3:x3=(x2+z3)%340282366920938463463374607431768211456)(e4:x4=(x3+z4)%340282366920938463463374607431768211456)(e5:x5=(x4+z5)%340282366920938463463374607431768211456) :
    x5=z1+z2+z3+z4+z5:=by omega
theorem B6O(h:a<4503599627370496):19*a%18446744073709551616=19*a:=by omega
theorem zb(ha:a<4503599627370496)(hb:b<4503599627370496):a*b<=20282409603651670423947251286016:=Az (Nat.mul_le_mul (Nat.le_of_lt ha) (Nat.le_of_lt hb)) (by decide)
theorem A5H(ha:a<4503599627370496)(hb:b<4503599627370496):19*a*b<=385365782469381738054997774434304:=Az (Nat.mul_le_mul (Nat.mul_le_mul_left 19 (Nat.le_of_lt ha)) (Nat.le_of_lt hb)) (by decide)
theorem B6P(a b c d e a2 b2 c2 d2 e2:Nat):fv a b c d e*fv a2 b2 c2 d2 e2 =
    (a*a2+19*b*e2+19*c*d2+19*d*c2+19*e*b2)+2251799813685248*(a*b2+b*a2+19*c*e2+19*d*d2+19*e*c2)+5070602400912917605986812821504*(a*c2+b*b2+c*a2+19*d*e2+19*e*d2)+11417981541647679048466287755595961091061972992*(a*d2+b*c2+c*b2+d*a2+19*e*e2)+25711008708143844408671393477458601640355247900524685364822016*(a*e2+b*d2+c*c2+d*b2+e*a2)
    + p25*((b*e2+c*d2+d*c2+e*b2)+2251799813685248*(c*e2+d*d2+e*c2)+5070602400912917605986812821504*(d*e2+e*d2)+11417981541647679048466287755595961091061972992*(e*e2)):=by
  unfold fv p25;grind
def C2k(as_:List Nat)(i k:Nat):Nat:=if i+k<5 then as_.getD i 0 else 19*as_.getD i 0%18446744073709551616
def C0k(i k:Nat):Nat:=if i+k<5 then i+k else i+k-5
def B2R(as_ bs:List Nat)(i k:Nat)(Xs:List Nat):List Nat:=Xs.set (C0k i k) ((Xs.getD (C0k i k) 0+C2k as_ i k*bs.getD k 0)%340282366920938463463374607431768211456)
def A6v(as_ bs:List Nat)(i:Nat):Nat->List Nat->List Nat
  | 0,Xs=>Xs
  | k+1,Xs=>B2R as_ bs i k (A6v as_ bs i k Xs)
def A6w(as_ bs:List Nat):Nat->List Nat
  | 0=>[0,0,0,0,0]
  | i+1=>A6v as_ bs i 5 (A6w as_ bs i)
theorem A9L(as_ bs:List Nat)(i k:Nat)(Xs:List Nat):(A6v as_ bs i k Xs).length=Xs.length:=by
  induction k with
  | zero=>rfl
  | succ k ih=>simp [A6v,B2R,ih]
theorem B6Q(as_ bs:List Nat)(i:Nat):(A6w as_ bs i).length=5:=by
  induction i with
  | zero=>rfl
  | succ i ih=>rw [A6w,A9L,ih]
def C0l(Xs:List Nat):Prop:=∀x∈Xs,x<340282366920938463463374607431768211456
theorem B2S(as_ bs:List Nat)(i k:Nat){Xs:List Nat}(h:C0l Xs):C0l (A6v as_ bs i k Xs):=by
  induction k with
  | zero=>exact h
  | succ k ih =>
    intro x hx;rcases Bf hx with h1|rfl
    . exact ih x h1
    . exact Ad _ (by decide)
theorem C0m(as_ bs:List Nat)(i:Nat):C0l (A6w as_ bs i):=by
  induction i with
  | zero=>intro x hx;simp [A6w] at hx;subst hx;decide
  | succ i ih=>exact B2S _ _ _ _ ih
theorem B6R(a b c d e a2 b2 c2 d2 e2:Nat)(ha:a<4503599627370496)(hb:b<4503599627370496)(hc:c<4503599627370496)(hd:d<4503599627370496)(he:e<4503599627370496)(ha2:a2<4503599627370496)(hb2:b2<4503599627370496)(hc2:c2<4503599627370496)(hd2:d2<4503599627370496)(he2:e2<4503599627370496) :
    A6w [a,b,c,d,e] [a2,b2,c2,d2,e2] 5=[a*a2+19*b*e2+19*c*d2+19*d*c2+19*e*b2,a*b2+b*a2+19*c*e2+19*d*d2+19*e*c2,a*c2+b*b2+c*a2+19*d*e2+19*e*d2,a*d2+b*c2+c*b2+d*a2+19*e*e2,a*e2+b*d2+c*c2+d*b2+e*a2]:=by
  have z {x y:Nat} (hx:x<4503599627370496) (hy:y<4503599627370496):x*y<=385365782469381738054997774434304:=Az (zb hx hy) (by decide);simp only [A6w,A6v,B2R,C2k,C0k,List.set,List.getD_cons_zero,List.getD_cons_succ,Nat.reduceAdd,Nat.reduceLT,Nat.reduceSub,if_true,if_false,Nat.zero_add,Nat.add_zero,B6O hb,B6O hc,B6O hd,B6O he,reduceIte];rw [A7O (z ha ha2) (A5H hb he2) (A5H hc hd2) (A5H hd hc2) (A5H he hb2) (by simp) E E E E,A7O (z ha hb2) (z hb ha2) (A5H hc he2) (A5H hd hd2) (A5H he hc2) (by simp) E E E E,A7O (z ha hc2) (z hb hb2) (z hc ha2) (A5H hd he2) (A5H he hd2) (by simp) E E E E,A7O (z ha hd2) (z hb hc2) (z hc hb2) (z hd ha2) (A5H he he2) (by simp) E E E E,A7O (z ha he2) (z hb hd2) (z hc hc2) (z hd hb2) (z he ha2) (by simp) E E E rfl]
theorem A4G(ha:a<2251799813685248)(hb:b<2251799813685248)(hc:c<2251799813685248)(hd:d<2251799813685248)(he:e<2251799813685248+8192)(ha1:a1<2251799813685248)(hb1:b1<2251799813685248)(hc1:c1<2251799813685248)(hd1:d1<2251799813685248)(h:fv a1 b1 c1 d1 e1+p25*(e/2251799813685248)=fv a b c d e):e1<2251799813685248:=by
  have hq:e/2251799813685248=0∨e/2251799813685248=1:=by omega
  unfold fv p25 at h;rcases hq with hq|hq
  . rw [hq] at h;omega
  . rw [hq] at h;omega
theorem B6S{c0 c3 c4:Nat}(ha:a<2251799813685248)(hb:b<2251799813685248)(hc:c<2251799813685248)(hd:d<2251799813685248)(he:e<2251799813685248)(h0:c0=(a+19)%18446744073709551616/2251799813685248)(h1:c1=(b+c0)%18446744073709551616/2251799813685248)(h2:c2=(c+c1)%18446744073709551616/2251799813685248)(h3:c3=(d+c2)%18446744073709551616/2251799813685248)(h4:c4=(e+c3)%18446744073709551616/2251799813685248) :
    (c4=0∧fv a b c d e<p25)∨(c4=1∧p25<=fv a b c d e):=by
  have k0:c0<=1:=by omega
  have k1:c1<=1:=by omega
  have k2:c2<=1:=by omega
  have k3:c3<=1:=by omega
  have k4:c4<=1:=by omega
  unfold fv p25;omega
theorem B2T(ha:a<2251799813685248)(hb:b<2251799813685248)(hc:c<2251799813685248)(hd:d<2251799813685248)(he:e<2251799813685248)(hq:q<=1)(h1:a1=(a+19*q%18446744073709551616)%18446744073709551616)(h2:b1=(b+a1/2251799813685248)%18446744073709551616)(h3:c1=(c+b1/2251799813685248)%18446744073709551616)(h4:d1=(d+c1/2251799813685248)%18446744073709551616)(h5:e1=(e+d1/2251799813685248)%18446744073709551616) :
    fv (a1%2251799813685248) (b1%2251799813685248) (c1%2251799813685248) (d1%2251799813685248) (e1%2251799813685248)+57896044618658097711785492504343953926634992332820282019728792003956564819968*(e1/2251799813685248)=fv a b c d e+19*q∧fv (a1%2251799813685248) (b1%2251799813685248) (c1%2251799813685248) (d1%2251799813685248) (e1%2251799813685248)<57896044618658097711785492504343953926634992332820282019728792003956564819968:=by
  have k1:a1=a+19*q:=by omega
  have k2:b1=b+a1/2251799813685248:=by omega
  have k3:c1=c+b1/2251799813685248:=by omega
  have k4:d1=d+c1/2251799813685248:=by omega
  have k5:e1=e+d1/2251799813685248:=by omega
  clear h1 h2 h3 h4 h5;unfold fv;omega
theorem B2U{F k:Nat}(h:(q=0∧V<p25)∨(q=1∧p25<=V))(hV:V<57896044618658097711785492504343953926634992332820282019728792003956564819968)(h2:F+57896044618658097711785492504343953926634992332820282019728792003956564819968*k=V+19*q∧F<57896044618658097711785492504343953926634992332820282019728792003956564819968):F=V%p25:=by
  unfold p25 at *;rcases h with ⟨rfl,h⟩|⟨rfl,h⟩
  . rw [Af h];omega
  . omega
theorem C2Z(ha:a<2251799813685248)(hb:b<2251799813685248)(hc:c<2251799813685248)(hd:d<2251799813685248)(he:e<2251799813685248):fv a b c d e<57896044618658097711785492504343953926634992332820282019728792003956564819968:=by unfold fv;omega
theorem B6T(ha:a<2251799813685248)(hb:b<2251799813685248)(hc:c<2251799813685248)(hd:d<2251799813685248)(he:e<2251799813685248)(j:Nat)(hj:j<5):fv a b c d e/2^(51*j)%2^51=[a,b,c,d,e].getD j 0:=by
  have:j=0∨j=1∨j=2∨j=3∨j=4:=by omega
  unfold fv;rcases this with rfl|rfl|rfl|rfl|rfl<;>simp only [Nat.reducePow,Nat.reduceMul,List.getD_cons_zero,List.getD_cons_succ]<;>omega
theorem C20(ha:a<2251799813685248)(hb:b<2251799813685248)(hc:c<2251799813685248)(hd:d<2251799813685248)(he:e<2251799813685248)(i:Nat)(hi:i<255):[a,b,c,d,e].getD (i/51) 0/2^(i%51)%2=fv a b c d e/2^i%2:=by
  rw [<- B6T ha hb hc hd he (i/51) (by omega)];have h1:i%51<51:=Ad _ (by decide);have e:2^51=2^(i%51)*(2*2^(50-i%51)):=by rw [<- Nat.pow_succ',<- Nat.pow_add];congr 1;omega
  rw [e,Nat.mod_mul_right_div_self,Nat.mod_mul_right_mod,Bu,<- Nat.pow_add];congr 3;omega
theorem C0n(ha:a<2251799813685248)(hb:b<2251799813685248)(hc:c<2251799813685248)(hd:d<2251799813685248)(he:e<2251799813685248):∃q,q=(e+(d+(c+(b+(a+19)%18446744073709551616/2251799813685248)%18446744073709551616/2251799813685248)%18446744073709551616/2251799813685248)%18446744073709551616/2251799813685248)%18446744073709551616/2251799813685248∧((q=0∧fv a b c d e<p25)∨(q=1∧p25<=fv a b c d e)) :=
  ⟨_,E,B6S ha hb hc hd he E E E E E⟩
theorem B2V(ha:a<2251799813685248)(hb:b<2251799813685248)(hc:c<2251799813685248)(hd:d<2251799813685248)(he:e<2251799813685248)(hq:(q=0∧fv a b c d e<p25)∨(q=1∧p25<=fv a b c d e)):∃f0 f1 f2 f3 f4,f0=(a+19*q%18446744073709551616)%18446744073709551616%2251799813685248∧f1=(b+(a+19*q%18446744073709551616)%18446744073709551616/2251799813685248)%18446744073709551616%2251799813685248∧f2=(c+(b+(a+19*q%18446744073709551616)%18446744073709551616/2251799813685248)%18446744073709551616/2251799813685248)%18446744073709551616%2251799813685248∧f3=(d+(c+(b+(a+19*q%18446744073709551616)%18446744073709551616/2251799813685248)%18446744073709551616/2251799813685248)%18446744073709551616/2251799813685248)%18446744073709551616%2251799813685248∧f4=(e+(d+(c+(b+(a+19*q%18446744073709551616)%18446744073709551616/2251799813685248)%18446744073709551616/2251799813685248)%18446744073709551616/2251799813685248)%18446744073709551616/2251799813685248)%18446744073709551616%2251799813685248∧f0<2251799813685248∧f1<2251799813685248∧f2<2251799813685248∧f3<2251799813685248∧f4<2251799813685248∧fv f0 f1 f2 f3 f4=fv a b c d e%p25:=by have hco:=B2T ha hb hc hd he (q:=q) (by rcases hq with h|h<;>omega) E E E E rfl;exact ⟨_,_,_,_,_,E,E,E,E,E,Ad _ (by decide),Ad _ (by decide),Ad _ (by decide),Ad _ (by decide),Ad _ (by decide),B2U hq (C2Z ha hb hc hd he) hco⟩
end Go.Px

