/- Part 7 of the texts of this claim, one behind the other. -/
import Derived.Test.YtgpjndfgjjlhaaaGreatDoorB6
import Derived.Laws.StructEq
import Derived.Laws.Cover3
import Derived.SizedLaws
import Derived.Test.YtgpjndfgjjlhaaaGreatDoorRows
set_option linter.unusedVariables false
set_option linter.unusedSimpArgs false
set_option maxRecDepth 100000
open Go.Proofs.Tryz
noncomputable section
namespace Go.Px
open Go
theorem A24:∀(xs ys:List Nat),xs.length=ys.length->((List.range xs.length).all λi=>xs.getD i 0==ys.getD i 0)=decide (xs=ys)
  | [],[],_=>rfl
  | x::xs,y::ys,h=>by have ih:=A24 xs ys (by simpa using h);rw [List.length_cons,List.range_succ_eq_map,List.all_cons,List.all_map];simp only [List.getD_cons_zero,Function.comp_def,List.getD_cons_succ,ih];by_cases hxy:x=y<;>simp [hxy]
  | [],_::_,h=>by simp at h
  | _::_,[],h=>by simp at h
def C4K(P:Program)(t:TypeId):Option (Nat×IntKind):=match P.underlying t with
  | some (.array n e)=>match P.underlying e with
    | some (.int k)=>if N2 P e=some 1 then some (n,k) else none
    | _=>none
  | _=>none
variable{e:TypeId}{n:Nat}
theorem B3Y{P:Program}(h:N2 P e=some n)(w:World):(sizeOf e).run P w=.ok n w:=by
  unfold N2 at h
  cases hi:P.info? e with
  | none=>rw [hi] at h;cases h
  | some i=>rw [hi] at h;simp at h;simp [sizeOf,typeInfo,hi,h]
section
variable{P:Program}{R:Mem}{l:Env}{d:Option Nat}{ty t:TypeId}{pos:String}{af:Array Edge}{g:Option (Nat×Bool)}{x y:Operand}{k:IntKind}
theorem A75(h:C4K P t=some (n,k)):∃e,P.underlying t=some (.array n e)∧P.underlying e=some (.int k)∧N2 P e=some 1:=by
  unfold C4K at h;split at h
  . rename_i m e h1;split at h
    . rename_i k' h2;split at h
      . rename_i h3;cases h;exact ⟨e,h1,h2,h3⟩
      . cases h
    . cases h
  . cases h
theorem A76(dp:Nat)(w:World)(ht:P.underlying t=some (.array n e))(he:P.underlying e=some (.int k))(hsz:∀w,(sizeOf e).run P w=.ok 1 w)
    (xs ys:List Nat) (hx:xs.length=n) (hy:ys.length=n):(Op.equalIn (dp+2) t (.agg (nums k xs).toArray) (.agg (nums k ys).toArray)).run P w=.ok (decide (xs=ys)) w:=by
  rw [<- A24 xs ys (hx.trans hy.symm),hx,List.range_eq_range',Op.equalIn];simp only [Sem.run_bind,run_underlying ht,Result.andThen_ok,hsz,Std.Legacy.Range.forIn_eq_forIn_range',Std.Legacy.Range.size,Nat.sub_zero,Nat.add_sub_cancel,Nat.div_one];have hl:∀i∈List.range' 0 n 1,i<n:=λi hi=>by simpa using (List.mem_range'_1.1 hi).2
  generalize List.range' 0 n 1=r at hl ⊢
  induction r with
  | nil=>simp
  | cons i r ih =>
    have hi:i<n:=hl i (by simp);have gx:xs.getD i 0=xs[i]'(by omega):=by simp [List.getD,List.getElem?_eq_getElem (show i<xs.length by omega)]
    have gy:ys.getD i 0=ys[i]'(by omega):=by simp [List.getD,List.getElem?_eq_getElem (show i<ys.length by omega)]
    have px:(part e (nums k xs).toArray (i*1)).run P w=.ok (.int k ((xs.getD i 0:Nat):Int)) w:=by rw [gx];simp [nums,part,isAgg,run_underlying he,List.getElem?_eq_getElem (show i<xs.length by omega)]
    have py:(part e (nums k ys).toArray (i*1)).run P w=.ok (.int k ((ys.getD i 0:Nat):Int)) w:=by rw [gy];simp [nums,part,isAgg,run_underlying he,List.getElem?_eq_getElem (show i<ys.length by omega)]
    have pe:(Op.equalIn (dp+1) e (.int k ((xs.getD i 0:Nat):Int)) (.int k ((ys.getD i 0:Nat):Int))).run P w=.ok (xs.getD i 0==ys.getD i 0) w:=by rw [run_equalIn_int w dp e k k _ _ he];congr 1;rw [Bool.eq_iff_iff];simp only [beq_iff_eq];omega
    simp only [List.forIn_cons,Sem.run_bind,px,py,pe,Result.andThen_ok,List.all_cons];cases hb:(xs.getD i 0==ys.getD i 0)
    . simp
    . simp only [Bool.not_true,Bool.false_eq_true,if_false,Sem.run_pure,Result.andThen_ok,Bool.true_and];exact ih λj hj=>hl j (by simp [hj])
theorem C0F{t':TypeId}{xs ys:List Nat}(hx:ev l x=some (.agg (nums k xs).toArray))(hy:ev l y=some (.agg (nums k ys).toArray))(ht:C4K P t=some (n,k))(hg:P.eqGuardType P.depth t=false)(hxl:xs.length=n)(hyl:ys.length=n) :
    OpQ P R ⟨d,.binOp .neq t x y t',ty,pos,af,g⟩ l (.bool !(decide (xs=ys))):=λN A w ha hw=>by
  obtain ⟨e,h1,h2,h3⟩:=A75 ht;simp only [execOp,ha.ev hx,ha.ev hy,Sem.run_bind,run_eqGuard_agg w _ _ _ _ _ _ hg,Result.andThen_ok,run_neq_struct];have hq:(Op.equalIn 10000 t (.agg (nums k xs).toArray) (.agg (nums k ys).toArray)).run P w=_:=A76 9998 w h1 h2 (λw=>B3Y h3 w) xs ys hxl hyl;simp only [hq,Result.andThen_ok,Sem.run_pure]
theorem B7t{m c:Nat}{p:Option Addr}(hx:ev l x=some (.slice p m c))(ht:C4K P t=some (n,k))(hn:n<=m):OpQ P R ⟨d,.sliceToArrayPointer t x,ty,pos,af,g⟩ l (.pointer p):=λN A w ha hw=>by obtain ⟨e,h1,-,-⟩:=A75 ht;simp [execOp,ha.ev hx,run_arrayAt w t e n p m c h1 hn]
end
end Go.Px

namespace Go.Proofs.YtgpjndfgjjlhaaaGreatDoor
open Go.Px
structure GlS(A:Mem):Prop where
  first:∃e f,(0,Obj.cells (nums .u32 A3C.list).toArray e f)∈A
  round:∃e f,(1,Obj.cells (nums .u32 A2x).toArray e f)∈A
theorem GlS.sub{A A':Mem}(h:GlS A)(hs:∀x,x∈A->x∈A'):GlS A':=by obtain ⟨⟨a,b,c⟩,⟨d,e,f⟩⟩:=h;exact ⟨⟨a,b,hs _ c⟩,⟨d,e,hs _ f⟩⟩
theorem GlS.up{M J A:Mem}(h:GlS A):GlS (M++(J++A)):=h.sub λ_ h=>mA h
theorem A1V(p:LN):(B0H p).length=64:=by simp [B0H,A0m]
theorem A8X(p:LN):∀x∈B0H p,x<256:=by intro x hx;rcases List.mem_append.1 hx with h|h<;>exact A7v _ x h
variable{w:LN}{n:Nat}
theorem B7u{R B:Mem}{v:Value}(h:Sl 1 v n (nums .u8 w) B)(hn:n=w.length)(hlt:∀x∈w,x<256)(hl:w.length<=16777216)(hR:∀x,x∈B->x∈R):By R v w:=⟨hn▸h.rd hR,hlt,hl⟩
theorem C0G{k:IntKind}(x y:Nat):H8 .geq k (x:Int) (y:Int)=some (.bool (decide (y<=x))):=by
  by_cases h:y<=x
  . rw [decide_eq_true h];exact geT qO
  . rw [decide_eq_false h];exact geF qO
theorem C0H(h:n<lN):bv (P7 n 32)=n:=by rw [C0u,Af (Nat.lt_trans h qD)]
def RdR(r:Value)(w:LN):Prop:=∃V b,r=.tuple #[V,.bool b]∧((∃P,U4 w=some P∧b=true∧FeP V P)∨(U4 w=none∧b=false∧FeP V pZ))
theorem B3Z(h:¬w.length=32):U4 w=none:=if_neg h
theorem B1a(h:atN (rdN w) (decide (128<=w.getD 31 0))=none):U4 w=none:=by
  unfold U4;split
  . rw [h]
  . rfl
variable{x:Nat}
theorem B7v(hl:w.length=32)(h:atN (rdN w) (decide (128<=w.getD 31 0))=some x)(hb:¬pB (pAt x (rdN w))=w):U4 w=none:=by unfold U4;rw [if_pos hl,h];exact if_neg hb
theorem B7w(hl:w.length=32)(h:atN (rdN w) (decide (128<=w.getD 31 0))=some x)(hb:pB (pAt x (rdN w))=w):U4 w=some (pAt x (rdN w)):=by unfold U4;rw [if_pos hl,h];exact if_pos hb
theorem C0I(V W:Value)(P Q:Pt)(hV:FeP V P)(hW:FeP W Q)(A:Mem):FnX prog 161 [V,W] [] A λr M J=>M=[]∧J=[]∧FeP r (A8q d2N P Q):=by have hP0:=hV;have hQ0:=hW;obtain ⟨xsp,rfl,p0,p1,p2,p3,p4,p5,p6,p7,p8,p9,p10,p11,p12,p13,p14,p15,p16,p17,p18,p19,rfl,hPX,hPY,hPZ,hPT⟩:=hV;dsimp only [nums,List.map];obtain ⟨xsq,rfl,q0,q1,q2,q3,q4,q5,q6,q7,q8,q9,q10,q11,q12,q13,q14,q15,q16,q17,q18,q19,rfl,hQX,hQY,hQZ,hQT⟩:=hW;dsimp only [nums,List.map];refine Cn (N:=11) func161 E E E λw=>?_;refine A8 (D0 0 1) (A1 ?_);refine A2 E (bx_ λb2=>?_);refine A2 E (bx_ λb3=>?_);refine A2 E (C3 (cs:=[C0,C0,C0,C0,C0,C0,C0,C0,C0,C0,C0,C0,C0,C0,C0,C0,C0,C0,C0,C0]) kR E λb4=>?_);refine A0 (D5 2 3 4) ?_;refine C9 [0,1,2,3,4,5] (zp 0 [1,1,2,2,2,2,2]) kR kR λhs=>?_;refine fR_ E (qw_ 20) ?_;refine fR_ E (qw_ 20) ?_;refine G5 E (aS E a0) kR (A1q 2 qD _) E ?_;rintro rn2 Mn2 Jn2 ⟨rfl,rfl,kn2⟩;have hn2:=kn2;obtain ⟨an2,bn2,cn2,dn2,en2,rfl,-⟩:=kn2;refine G5 E a0 kR (A8P _) E ?_;rintro rn3 Mn3 Jn3 ⟨rfl,rfl,kn3⟩;have hn3:=kn3;obtain ⟨an3,bn3,cn3,dn3,en3,rfl,-⟩:=kn3;refine G5 E (aS E (aS E a0)) kR (U3 hn2 hn3 _) E ?_;rintro rn4 Mn4 Jn4 ⟨rfl,rfl,kn4⟩;rw [C3a] at kn4;have hn4:=kn4;obtain ⟨an4,bn4,cn4,dn4,en4,rfl,-⟩:=kn4;refine G5 E (aS E (aS E (aS E a0))) kR (B3z _ _ _ P Q d2N hP0 hQ0 hn4 _) E ?_;rintro r5 M5 J5 ⟨rfl,rfl,h5⟩;have h50:=h5;obtain ⟨xsz,rfl,z0,z1,z2,z3,z4,z5,z6,z7,z8,z9,z10,z11,z12,z13,z14,z15,z16,z17,z18,z19,rfl,h5X,h5Y,h5Z,h5T⟩:=h5;dsimp only [nums,List.map];refine G3 E E E (A5 E E Cf kR A33 A34 Cv ?_);refine E4 (D1 4) (A9 ?_);exact ⟨_,[],[],A1l E E kR Ce qR,Aa _,by simp,E,E,h50⟩
theorem C0J(V W:Value)(P Q:Pt)(hV:FeP V P)(hW:FeP W Q)(A:Mem):FnV prog 162 [V,W] A (.bool (B08 P Q)):=by
 obtain ⟨xsp,rfl,p0,p1,p2,p3,p4,p5,p6,p7,p8,p9,p10,p11,p12,p13,p14,p15,p16,p17,p18,p19,rfl,hPX,hPY,hPZ,hPT⟩:=hV;dsimp only [nums,List.map];obtain ⟨xsq,rfl,q0,q1,q2,q3,q4,q5,q6,q7,q8,q9,q10,q11,q12,q13,q14,q15,q16,q17,q18,q19,rfl,hQX,hQY,hQZ,hQT⟩:=hW;dsimp only [nums,List.map];refine Cn (N:=29) func162 E E E λw=>?_;refine A8 (D0 0 1) (A1 ?_);refine A2 E (bx_ λb2=>?_);refine A2 E (bx_ λb3=>?_);refine as_ (A0 (D0 2 3) ?_);refine C9 (.range 25) [(0,0),(1,1),(2,0),(3,1),(5,0),(6,1),(7,0),(8,1),(4,2),(9,2),(10,2),(11,0),(12,0),(13,1),(14,0),(15,1),(17,0),(18,1),(19,0),(20,1),(16,2),(21,2),(22,2),(23,0),(24,0)] kR kR λhs=>?_;refine fQ_ E (qf_ 0 0) ?_;refine fR_ E (H7 (n:=5) E kR (by first|exact Ce|exact mA (by assumption)) Cu) ?_;refine fQ_ E (qf_ 10 10) ?_;refine fR_ E (H7 (n:=5) E kR (by first|exact Ce|exact mA (by assumption)) Cu) ?_;refine fQ_ E (qf_ 0 0) ?_;refine fR_ E (H7 (n:=5) E kR (by first|exact Ce|exact mA (by assumption)) Cu) ?_;refine fQ_ E (qf_ 10 10) ?_;refine fR_ E (H7 (n:=5) E kR (by first|exact Ce|exact mA (by assumption)) Cu) ?_;refine G5 E (aS E (aS E a0)) kR (U3 hPX hQZ _) E ?_;rintro rn4 Mn4 Jn4 ⟨rfl,rfl,kn4⟩;have hn4:=kn4;obtain ⟨an4,bn4,cn4,dn4,en4,rfl,-⟩:=kn4;refine G5 E (aS E (aS E a0)) kR (U3 hQX hPZ _) E ?_;rintro rn9 Mn9 Jn9 ⟨rfl,rfl,kn9⟩;have hn9:=kn9;obtain ⟨an9,bn9,cn9,dn9,en9,rfl,-⟩:=kn9;refine N3 E (aS E (aS E a0)) kR (A02 _ _ _ _ hn4 hn9 _) E ?_;refine fm_ ?_;refine A0h (t:=16) E (λhb=>?_) (λhb=>?_)
 . have hx:fM P.X Q.Z=fM Q.X P.Z:=of_decide_eq_true hb;refine fG_ E (qf_ 5 5) ?_;refine fH_ E (H7 (n:=5) E kR (by first|exact Ce|exact mA (by assumption)) Cu) ?_;refine fG_ E (qf_ 10 10) ?_;refine fH_ E (H7 (n:=5) E kR (by first|exact Ce|exact mA (by assumption)) Cu) ?_;refine fG_ E (qf_ 5 5) ?_;refine fH_ E (H7 (n:=5) E kR (by first|exact Ce|exact mA (by assumption)) Cu) ?_;refine fG_ E (qf_ 10 10) ?_;refine fH_ E (H7 (n:=5) E kR (by first|exact Ce|exact mA (by assumption)) Cu) ?_;refine A2J E E E E (aS E (aS E a0)) kR (U3 hPY hQZ _) E ?_;rintro rn16 Mn16 Jn16 ⟨rfl,rfl,kn16⟩;have hn16:=kn16;obtain ⟨an16,bn16,cn16,dn16,en16,rfl,-⟩:=kn16;refine A2J E E E E (aS E (aS E a0)) kR (U3 hQY hPZ _) E ?_;rintro rn21 Mn21 Jn21 ⟨rfl,rfl,kn21⟩;have hn21:=kn21;obtain ⟨an21,bn21,cn21,dn21,en21,rfl,-⟩:=kn21;refine A2K E E E E (aS E (aS E a0)) kR (A02 _ _ _ _ hn16 hn21 _) E ?_;refine fQ_ E (H6 E E) (fA_ E E (E4 (D1 4) (A9 ?_)));exact ⟨_,[],[],H2 E E,Aa _,by simp,by unfold B08;rw [decide_eq_true hx];rfl,E,E⟩
 . have hx:¬fM P.X Q.Z=fM Q.X P.Z:=of_decide_eq_false hb;refine L0 hs ?_;refine W3 hs ?_;refine L0 hs ?_;refine W3 hs ?_;refine L0 hs ?_;refine W3 hs ?_;refine L0 hs ?_;refine W3 hs ?_;refine A7x hs E E E E E E ?_;refine A7x hs E E E E E E ?_;refine A7x hs E E E E E E ?_;refine fQ_ E (E8 E E) (fA_ E E (E4 (D1 4) (A9 ?_)));exact ⟨_,[],[],H2 E E,Aa _,by simp,by unfold B08;rw [decide_eq_false hx];rfl,E,E⟩
theorem B4a(v:Value)(ws:LN)(A:Mem)(hv:By A v ws):FnX prog 160 [v] [] A λr M J=>M=[]∧J=[]∧RdR r ws:=by
 haveI:=hv.cel;have hvl:=hv.len;refine Cn (N:=32) func160 E E E λw=>?_;refine A8 (D1 0) (A1 ?_);refine A2 E (C3 (cs:=[C0,C0,C0,C0,C0,C0,C0,C0,C0,C0,C0,C0,C0,C0,C0,C0,C0,C0,C0,C0]) kR E λb2=>?_);refine as_ (A0 (D0 0 2) (A3 (A1 (mv_ ?_))));refine lQ_ (F8 (sz:=1) E kR hv.rd) ?_;refine lQ_ (E3 E E E) (A0 (D5 0 2 8) ?_);refine C2 E ?_ ?_<;>intro hc
 .
  have h32:¬ws.length=32:=by simp at hc;omega
  refine A1 ?_;refine lQ_ (E6 (place:=λx=>#[(0,5),(5,5),(10,5),(15,5)][x]?) (z:=[C0,C0,C0,C0,C0,C0,C0,C0,C0,C0,C0,C0,C0,C0,C0,C0,C0,C0,C0,C0]) (λ_=>by kernel_rfl) e0 bd0) ?_;refine A2 E (A5 E E Cf kR A33 A34 Cv ?_);refine as_ (A0 (D0 2 3) (A9 (tr ?_)));exact ⟨_,[],[],A0e E E E kR Ce qR,Aa _,by simp,E,E,⟨_,_,E,.inr ⟨B3Z h32,E,⟨_,E,_,_,_,_,_,_,_,_,_,_,_,_,_,_,_,_,_,_,_,_,E,L2,L2,L2,L2⟩⟩⟩⟩
 .
  have h32:ws.length=32:=by simp at hc;omega
  refine A4 (nx (D0 0 2) ?_);refine F9 ([]) (_) true [0,1,2,3,4,5,6,7,8,9,10,12] [(0,0),(2,0),(3,0),(4,1),(5,0),(1,8),(6,8),(7,8),(8,8),(10,8),(9,10),(11,2),(12,0)] kR kR qP λhs K n0 hKm hKs hKn=>?_;refine kM_ E E (km_ ?_);refine kQ_ E (G4 (sz:=1) (a:=31) E E kR E hv.rd qO) ?_;refine I8 hs E hKs (Z8 (j:=31) (u:=.int .u8 ((ws.getD 31 0:Nat):Int)) (hv.rd.mono qS) E kR (W2 qO)) ?_;refine kQ_ E (F6 (decide (128<=ws.getD 31 0)) E E (C0G _ 128)) ?_
  refine A04 [⟨1,12,none,[],λv B _=>B=[]∧Fe v (rdN ws)⟩,⟨6,17,none,[],λv B _=>B=[]∧AtR v (rdN ws) (decide (128<=ws.getD 31 0))⟩,⟨7,10,none,[],λv B _=>B=[]∧AtR v (rdN ws) (decide (128<=ws.getD 31 0))⟩,⟨8,18,none,[],λv B _=>B=[]∧∃P,FeP v P∧∀x,atN (rdN ws) (decide (128<=ws.getD 31 0))=some x->P=pAt x (rdN ws)⟩,⟨10,4,none,[],λv B _=>∃b,v=(vP b)∧B=[(b,blk [C0,C0,C0,C0,C0,C0,C0,C0,C0,C0,C0,C0,C0,C0,C0,C0,C0,C0,C0,C0] 195)]⟩] [⟨9,19,none,[],λv B _=>B=[]∧v=.bool (atN (rdN ws) (decide (128<=ws.getD 31 0))).isSome⟩] (_) (λbs=>[bs 1,bs 6,bs 7,bs 8,bs 10,bs 9]) (hKn E) (Ah _) gk0 kR (λ_=>by first|rfl|kernel_rfl)
   gA nd_ nd_ dl_
   hs (List.cons_ne_nil _ _) (gC ?_ (gC ?_ (gC ?_ (gC ?_ (gC ?_ (K5)))))) (A7 ⟨E,E,_,_,_,_,E,λvs bs Rj hj ha=>?_⟩ (K5)) ?_
  . intro _ _ _ _ _ hb _ _ _;dsimp only [Gc.inp];refine D9 (aS E a0) kR (A5Q v ws _ (hv.rd.mono (λx hx=>by have:=hb x (by simp [hx]);simp [this])) hv.lt qO) E ?_;rintro r M1 J1 ⟨rfl,rfl,hh⟩;exact ⟨_,E,E,hh⟩
  . intro _ _ _ _ _ _ _ _ ha;dsimp only [Gc.inp];have g1:=gx 0 ha;dsimp only at g1;obtain ⟨-,k1⟩:=g1;refine D9 (aS E (aS E a0)) kR (at_f _ _ _ k1 _) E ?_;rintro r M1 J1 ⟨rfl,rfl,hh⟩;exact ⟨_,E,E,hh⟩
  . intro _ _ _ _ _ _ _ _ ha;dsimp only [Gc.inp];have g6:=gx 1 ha;dsimp only at g6;obtain ⟨-,k6⟩:=g6;exact Cp qm_ E ⟨_,E,E,k6⟩
  .
   intro vs bs _ _ _ _ _ _ ha;dsimp only [Gc.inp];have g7:=gx 2 ha;dsimp only at g7;obtain ⟨-,k7⟩:=g7;obtain ⟨V,b,hw,hr⟩:=k7;refine Cp (I3 (vs:=#[V,.bool b]) (by rw [<- hw];rfl) E) E ⟨_,E,E,?_⟩;rcases hr with ⟨x,h1,-,h2⟩|⟨h1,-,h2⟩
   . exact ⟨_,h2,λy hy=>by rw [h1] at hy;cases hy;rfl⟩
   . exact ⟨_,h2,λy hy=>by rw [h1] at hy;cases hy⟩
  .
   intros
   dsimp only [Gc.inp]
   exact C3 (cs:=[C0,C0,C0,C0,C0,C0,C0,C0,C0,C0,C0,C0,C0,C0,C0,C0,C0,C0,C0,C0]) kR E λb=>⟨_,E,b,E,E⟩
  . have g7:=gx 2 ha;dsimp only at g7;obtain ⟨-,k7⟩:=g7;obtain ⟨V,b,hw,hr⟩:=k7;refine ⟨.bool b,I3 (vs:=#[V,.bool b]) (by rw [<- hw];rfl) E,E,?_⟩;rcases hr with ⟨x,h1,rfl,-⟩|⟨h1,rfl,-⟩<;>rw [h1]<;>rfl
  intro vs bs Jn0 hφ hKK;clear hKK;have g1:=gy 0 hφ;have g6:=gy 1 hφ;have g7:=gy 2 hφ;have g8:=gy 3 hφ;have g10:=gy 4 hφ;have g9:=gy 5 hφ;dsimp only at g1 g6 g7 g8 g10 g9;clear hφ;dsimp only [Q9,X6,List.foldr,List.map,Cy,Cw];generalize bs 1=B12,bs 6=B17,bs 7=B10,bs 8=B18,bs 10=B4,bs 9=B19,vs 1=u12,vs 6=u17,vs 7=u10,vs 8=u18,vs 10=u4,vs 9=u19 at *;obtain ⟨rfl,-⟩:=g1;obtain ⟨rfl,-⟩:=g6;obtain ⟨rfl,-⟩:=g7;obtain ⟨rfl,P,hP,hPx⟩:=g8;obtain ⟨rfl,h9⟩:=g9;obtain ⟨b10,rfl,rfl⟩:=g10
  obtain ⟨o,ho⟩:∃o,atN (rdN ws) (decide (128<=ws.getD 31 0))=o:=⟨_,E⟩
  rw [ho] at hPx h9;subst h9;have hP0:=hP;obtain ⟨xsp,rfl,p0,p1,p2,p3,p4,p5,p6,p7,p8,p9,p10,p11,p12,p13,p14,p15,p16,p17,p18,p19,rfl,hpX,hpY,hpZ,hpT⟩:=hP;dsimp only [nums,List.map];dsimp only [List.append_eq,Cw,Cy];refine K6 E E E (A5 E E Cf kR A33 A34 Cv ?_);refine kQ_ E (G2 E) (I0 (D7 0 2 4 5) (A3 ?_));rcases o with _|xo
  . refine C9 (.range 10) [(0,0),(1,0),(2,0),(3,1),(6,0),(7,1),(4,2),(5,1),(8,0),(9,0)] kR kR λhs=>?_;refine fM_ E E (fQ_ E (V7 E) (fm_ ?_));refine W3 hs ?_;refine L0 hs ?_;refine W3 hs ?_;refine A7x hs E E E E E E ?_;refine W3 hs ?_;refine L0 hs ?_;refine fQ_ E (H6 E E) (E4 (D5 2 4 29) ?_);refine E2 E ?_;refine A1 ?_;refine lQ_ (E6 (place:=λx=>#[(0,5),(5,5),(10,5),(15,5)][x]?) (z:=[C0,C0,C0,C0,C0,C0,C0,C0,C0,C0,C0,C0,C0,C0,C0,C0,C0,C0,C0,C0]) (λ_=>by kernel_rfl) e0 bd0) ?_;refine A2 E (A5 E E Cf kR A33 A34 Cv ?_);refine as_ (A0 (D0 2 3) (A9 (tr ?_)));exact ⟨_,[],[],A0e E E E kR Ce qR,Aa _,by simp,E,E,⟨_,_,E,.inr ⟨B1a ho,E,⟨_,E,_,_,_,_,_,_,_,_,_,_,_,_,_,_,_,_,_,_,_,_,E,L2,L2,L2,L2⟩⟩⟩⟩
  .
   refine C9 (.range 10) [(0,0),(1,0),(2,0),(3,1),(6,0),(4,3),(5,3),(7,4),(8,0),(9,0)] kR kR λhs=>?_;refine fM_ E E (fQ_ E (V7 E) (fm_ ?_));refine fH_ E (qw_ 20) ?_;refine fG_ E qm_ ?_
   refine N5 [⟨4,24,λv B R=>Sl 1 v 32 (nums .u8 (pB P)) B∧∀x∈B,x∈R⟩,⟨5,25,λv B _=>B=[]∧v=.string (txt (pB P))⟩,⟨7,27,λv B _=>B=[]∧v=.string (txt ws)⟩]
    (A7 (λ_ _ _ _ hR h=>⟨h.1,λx hx=>hR x (h.2 x hx)⟩) (A7 gM (A7 gM (K5)))) nd_ nd_ dl_
    (A7 ⟨_,E,λvs bs R w hb ha=>⟨.inr ⟨_,_,_,_,E,E,E,E⟩,?_⟩⟩ (A7 ⟨_,E,λvs bs R w hb ha=>⟨.inr ⟨_,_,_,_,E,E,E,E⟩,?_⟩⟩ (A7 ⟨_,E,λvs bs R w hb ha=>⟨.inr ⟨_,_,_,_,E,E,E,E⟩,?_⟩⟩ (K5)))) ?_
   . refine D9 (aS E a0) kR (A6I _ P hP0 _) E ?_;rintro r M1 J1 ⟨rfl,hh⟩;exact ⟨_,E,by simpa using hh,λx hx=>Ae _ hx⟩
   . have g4:=gx 0 ha;dsimp only at g4;obtain ⟨k4,k4s⟩:=g4;exact Cp (P2 E kR (k4.rd λx hx=>k4s x hx)) E ⟨_,E,E,E⟩
   . exact Cp (P2 E kR (hv.rd.mono λx hx=>hb _ (qS x hx))) E ⟨_,E,E,E⟩
   intro vs bs Jn0 hφ;have g4:=gy 0 hφ;have g5:=gy 1 hφ;have g7:=gy 2 hφ;dsimp only at g4 g5 g7;clear hφ;dsimp only [V0,Q6,List.map,List.flatten,Cy,Cw];generalize bs 4=B24,bs 5=B25,bs 7=B27,vs 4=u24,vs 5=u25,vs 7=u27 at *;obtain ⟨k4,-⟩:=g4;obtain ⟨rfl,rfl⟩:=g5;obtain ⟨rfl,rfl⟩:=g7;obtain rfl:=hPx _ rfl;dsimp only [List.append_eq,Cw,Cy];refine fG_ E (A8H E E E E (B7j _) hv.lt) (fQ_ E (E8 E E) (E4 (D5 2 4 29) ?_));refine C2 E ?_ ?_<;>intro hc
   .
    have hne:¬pB (pAt xo (rdN ws))=ws:=by simpa using hc
    refine A1 ?_;refine lQ_ (E6 (place:=λx=>#[(0,5),(5,5),(10,5),(15,5)][x]?) (z:=[C0,C0,C0,C0,C0,C0,C0,C0,C0,C0,C0,C0,C0,C0,C0,C0,C0,C0,C0,C0]) (λ_=>by kernel_rfl) e0 bd0) ?_;refine A2 E (A5 E E Cf kR A33 A34 Cv ?_);refine as_ (A0 (D0 2 3) (A9 (tr ?_)));exact ⟨_,[],[],A0e E E E kR Ce qR,Aa _,by simp,E,E,⟨_,_,E,.inr ⟨B7v h32 ho hne,E,⟨_,E,_,_,_,_,_,_,_,_,_,_,_,_,_,_,_,_,_,_,_,_,E,L2,L2,L2,L2⟩⟩⟩⟩
   .
    have hne:pB (pAt xo (rdN ws))=ws:=by simpa using hc
    refine A4 (nx (D0 2 4) (A1 ?_));refine lQ_ (qw_ 20) ?_;refine A2 E (A5 E E Cf kR A33 A34 Cv ?_);refine as_ (A0 (D0 2 3) (A9 ?_));exact ⟨_,[],[],A0e E E E kR Ce qR,Aa _,by simp,E,E,⟨_,_,E,.inl ⟨_,B7w h32 ho hne,E,hP0⟩⟩⟩

def N9(w:LN):LN:=(λe:LN=>(e.set 0 (e.getD 0 0 &&& 248)).set 31 ((e.set 0 (e.getD 0 0 &&& 248)).getD 31 0%128 ||| 64)) (H5 w 32)
theorem B4b(w:LN):H5 w 32=w.take 32++(List.replicate 32 0).drop w.length:=by unfold H5;rw [List.drop_replicate]
theorem A5S(w:LN):(N9 w).length=32:=by simp [N9,L4]
structure Lad where
  a:Nat
  b:Nat
  c:Nat
  d:Nat
def A77(u:Nat)(s:Lad):Lad :=
  let p:=fA s.a s.b
  let q:=fS s.a s.b
  let ss:=fM p p
  let tt:=fM q q
  let e:=fS ss tt
  let da:=fM (fS s.c s.d) p
  let cb:=fM (fA s.c s.d) q
  ⟨fM ss tt,fM e (fA ss (fM 121665 e)),fM (fA da cb) (fA da cb),fM u (fM (fS da cb) (fS da cb))⟩
def swL(b:Bool)(s:Lad):Lad:=if b then ⟨s.c,s.d,s.a,s.b⟩ else s
def A6Q(u n:Nat):Nat->Lad
  | 0=>⟨1,0,u,1⟩
  | k+1=>(λbt=>swL bt (A77 u (swL bt (A6Q u n k)))) (decide (n/2^(254-k)%2=1))
theorem A78{u i:Nat}(h:i<255):A6Q u n (255-i)=swL (decide (n/2^i%2=1)) (A77 u (swL (decide (n/2^i%2=1)) (A6Q u n (255-(i+1))))):=by
  obtain ⟨k,hk⟩:∃k,255-i=k+1:=⟨254-i,by omega⟩
  have e1:255-(i+1)=k:=by omega
  have e2:i=254-k:=by omega
  rw [hk,e1,e2];rfl
def x25(s p:LN):LN:=A07 8 32 (fM (A6Q (rdN p) (bv (N9 s)) 255).a (fI (A6Q (rdN p) (bv (N9 s)) 255).b)) 255
def C0K:LN:=9::List.replicate 31 0
def A1L(s:LN):LN:=x25 s C0K
theorem A1M(s p:LN):(x25 s p).length=32:=by simp [x25,P6]
theorem B4c(s p:LN):∀x∈x25 s p,x<256:=A1d _ _
theorem B8X(h:x<256):(x &&& 248)<256:=Be Nat.and_le_left h
theorem or64(h:x<128):(x ||| 64)<256:=Bp (Nat.or_lt_two_pow (n:=7) h qD) qD
theorem B4d(h:∀x∈w,x<256):∀x∈N9 w,x<256:=by
  intro x hx;have hf:=A3h h 32;unfold N9 at hx;rcases Bf hx with h1|rfl
  . rcases Bf h1 with h1|rfl
    . exact hf x h1
    . exact B8X (Go.Px.getD_lt hf qD)
  . exact or64 (Ad _ qD)
theorem C0L(v:Value)(wc:LN)(A:Mem)(hv:By A v wc):FnV prog 120 [v] A (.agg (nums .u8 (N9 wc)).toArray):=by haveI:=hv.cel;have hvl:=hv.len;refine Cn (N:=17) func120 E E E λw=>?_;refine A8 (D1 0) (A1 ?_);refine A2 E (C3 (cs:=[zu8,zu8,zu8,zu8,zu8,zu8,zu8,zu8,zu8,zu8,zu8,zu8,zu8,zu8,zu8,zu8,zu8,zu8,zu8,zu8,zu8,zu8,zu8,zu8,zu8,zu8,zu8,zu8,zu8,zu8,zu8,zu8]) kR E λb2=>?_);refine A0 (D0 0 2) (A1 ?_);refine A2 E (C3 (cs:=[zu8,zu8,zu8,zu8,zu8,zu8,zu8,zu8,zu8,zu8,zu8,zu8,zu8,zu8,zu8,zu8,zu8,zu8,zu8,zu8,zu8,zu8,zu8,zu8,zu8,zu8,zu8,zu8,zu8,zu8,zu8,zu8]) kR E λb3=>?_);refine A0 (D5 0 2 3) ?_;refine A0X (M':=[(b3,blk (nums .u8 (List.replicate 32 0)) 198),(b2,blk [zu8,zu8,zu8,zu8,zu8,zu8,zu8,zu8,zu8,zu8,zu8,zu8,zu8,zu8,zu8,zu8,zu8,zu8,zu8,zu8,zu8,zu8,zu8,zu8,zu8,zu8,zu8,zu8,zu8,zu8,zu8,zu8] 198)]) (Cg E) qI ?_;refine A1 ?_;refine lQ_ (B2j (sz:=1) (e:=5) (n:=32) E kR kR) ?_;refine mv_ ?_;refine A2 E (A4A (e:=5) (us:=wc) (ws:=List.replicate 32 0) (ws':=H5 wc 32) (by_:=1) E E kR (hv.rd.mono qS) qM (B4b wc) Cv E ?_);have hfl:=L4 wc 32;have hflt:=A3h hv.lt 32;have hcl:N9 wc=((H5 wc 32).set 0 ((H5 wc 32).getD 0 0 &&& 248)).set 31 (((H5 wc 32).set 0 ((H5 wc 32).getD 0 0 &&& 248)).getD 31 0%128 ||| 64):=rfl;generalize H5 wc 32=e at *;have he0:e.getD 0 0<256:=Go.Px.getD_lt hflt qD;have he1:(e.set 0 (e.getD 0 0 &&& 248)).getD 31 0<256:=Go.Px.getD_lt (λx hx=>by rcases Bf hx with h|rfl;exact hflt x h;exact B8X he0) qD;refine A0 (D0 2 3) (A1 ?_);refine lQ_ (F7 (e:=5) (n:=32) (sz:=1) (i:=0) E E kR kR E qO) ?_;refine lQ_ (H9 0 E kR Ce E qO) ?_;refine lQ_ (A5l (b:=248) E E E (by show _<256;exact he0) qD) ?_;refine lQ_ (F7 (e:=5) (n:=32) (sz:=1) (i:=0) E E kR kR E qO) ?_;refine A2 E (K4 0 E E kR E qO Cv ?_);refine A0 (D0 2 3) (A1 ?_);refine lQ_ (F7 (e:=5) (n:=32) (sz:=1) (i:=31) E E kR kR E qO) ?_;refine lQ_ (H9 31 E kR Ce E (by rw [Bk];omega)) ?_;refine lQ_ (N4 7 128 E E E E E (by show _<256;exact he1) qD) ?_;refine lQ_ (B6k (b:=64) E E E (by show _<256;exact Nat.lt_trans (Ad _ qD) qD) qD) ?_;refine lQ_ (F7 (e:=5) (n:=32) (sz:=1) (i:=31) E E kR kR E qO) ?_;refine A2 E (K4 31 E E kR E (by rw [Bk];omega) Cv ?_);rw [<- hcl];have hcn:=A5S wc;refine A0 (D0 2 3) (A1 ?_);refine lQ_ (H0 (n:=32) (cs:=nums .u8 (N9 wc)) E kR Ce (by rw [nums_len];omega)) ?_;refine A2 E (A5 (vs:=nums .u8 (N9 wc)) E E E (by rw [nums_len,hcn];kernel_rfl) (by rw [nums_len,hcn];rfl) E7 Cv ?_);refine A0 (D1 2) (A9 ?_);exact ⟨_,[],[],A1l (n:=32) E E kR Ce (by rw [nums_len,hcn]),Aa _,by simp,E,E,E⟩
def LadR(r:Value)(s:Lad):Prop:=∃v0 v1 v2 v3,r=.tuple #[v0,v1,v2,v3]∧Fe v0 s.a∧Fe v1 s.b∧Fe v2 s.c∧Fe v3 s.d
theorem A6R{xs:LN}(h:Fe (.agg (nums .u64 xs).toArray) n):∃a b c d e,xs=[a,b,c,d,e]:=by obtain ⟨a,b,c,d,e,h1,-⟩:=h;refine ⟨a,b,c,d,e,?_⟩;have h2:=congrArg Array.toList (Value.agg.inj h1);exact A70 (k:=.u64) (b:=[a,b,c,d,e]) h2
theorem B8Y(vu va vb vc vd:Value)(xu xa xb xc xd:Nat)(A:Mem)(hU:Fe vu xu)(hA:Fe va xa)(hB:Fe vb xb)(hC:Fe vc xc)(hD:Fe vd xd):FnX prog 123 [vu,va,vb,vc,vd] [] A λr M J=>M=[]∧J=[]∧LadR r (A77 xu ⟨xa,xb,xc,xd⟩):=by
 have hU0:=hU;obtain ⟨pu0,pu1,pu2,pu3,pu4,rfl,-⟩:=hU;have hA0:=hA;obtain ⟨pa0,pa1,pa2,pa3,pa4,rfl,-⟩:=hA;have hB0:=hB;obtain ⟨pb0,pb1,pb2,pb3,pb4,rfl,-⟩:=hB;have hC0:=hC;obtain ⟨pc0,pc1,pc2,pc3,pc4,rfl,-⟩:=hC;have hD0:=hD;obtain ⟨pd0,pd1,pd2,pd3,pd4,rfl,-⟩:=hD;refine Cn (N:=68) func123 E E E λw=>?_;refine A8 (E9 0 1 2 3 4) (A1 ?_);refine A2 E (bx_ λb5=>?_);refine A2 E (bx_ λb6=>?_);refine A2 E (bx_ λb7=>?_);refine A2 E (bx_ λb8=>?_);refine A2 E (bx_ λb9=>?_);refine A2 E (C3 (cs:=[C0,C0,C0,C0,C0]) kR E λb10=>?_);refine A2 E (C3 (cs:=[C0,C0,C0,C0,C0]) kR E λb11=>?_);refine A2 E (C3 (cs:=[C0,C0,C0,C0,C0]) kR E λb12=>?_);refine A2 E (C3 (cs:=[C0,C0,C0,C0,C0]) kR E λb13=>?_);refine A0 (Q4 5 6 7 8 9 10 11 12 13) ?_;refine C9 (.range 8) [(0,1),(1,1),(3,1),(4,1),(2,3),(5,3),(6,3),(7,4),(8,2),(9,2)] kR kR λhs=>?_;refine fR_ E (qw_ 5) ?_;refine fR_ E (qw_ 5) ?_;refine fR_ E (qw_ 5) ?_;refine fR_ E (qw_ 5) ?_
 refine N5 [⟨2,25,λv B _=>B=[]∧Fe v (fA xa xb)⟩,⟨5,28,λv B _=>B=[]∧Fe v (fS xa xb)⟩,⟨6,14,λv B _=>∃b,v=(vP b)∧B=[(b,blk [C0,C0,C0,C0,C0] 193)]⟩,⟨7,15,λv B _=>∃b,v=(vP b)∧B=[(b,blk [C0,C0,C0,C0,C0] 193)]⟩]
  gA nd_ nd_ dl_
  (gO ?_ (gO ?_ (gO ?_ (gO ?_ (K5))))) ?_
 .
  intros
  refine D9 (aS E (aS E (a0))) kR (A5q hA0 hB0 _) E ?_;rintro r M1 J1 ⟨rfl,rfl,hh⟩;exact ⟨_,E,E,hh⟩
 .
  intros
  refine D9 (aS E (aS E (a0))) kR (A6F hA0 hB0 _) E ?_;rintro r M1 J1 ⟨rfl,rfl,hh⟩;exact ⟨_,E,E,hh⟩
 .
  intros
  exact C3 (cs:=[C0,C0,C0,C0,C0]) kR E λb=>⟨_,E,b,E,E⟩
 .
  intros
  exact C3 (cs:=[C0,C0,C0,C0,C0]) kR E λb=>⟨_,E,b,E,E⟩
 intro vs bs Jn0 hφ;have g2:=gy 0 hφ;have g5:=gy 1 hφ;have g6:=gy 2 hφ;have g7:=gy 3 hφ;dsimp only at g2 g5 g6 g7;clear hφ;dsimp only [V0,Q6,List.map,List.flatten,Cy,Cw];generalize bs 2=B25,bs 5=B28,bs 6=B14,bs 7=B15,vs 2=u25,vs 5=u28,vs 6=u14,vs 7=u15 at *;obtain ⟨rfl,k2⟩:=g2;have h2:=k2;obtain ⟨a2,b2,c2,d2,e2,rfl,-⟩:=k2;obtain ⟨rfl,k5⟩:=g5;have h5:=k5;obtain ⟨a5,b5,c5,d5,e5,rfl,-⟩:=k5;obtain ⟨b6,rfl,rfl⟩:=g6;obtain ⟨b7,rfl,rfl⟩:=g7;dsimp only [List.append_eq,Cw,Cy];have hp:=h2;have hq:=h5;clear h2 h5;refine G3 E E E (A5 E E Cf kR ln5 al5 Cv ?_);refine G3 E E E (A5 E E Cf kR ln5 al5 Cv ?_);refine E4 (Q4 5 8 9 10 11 12 13 14 15) ?_;refine C9 [0,1,2,3,4,5] [(0,1),(2,1),(1,3),(3,3),(4,3),(5,4),(6,2),(7,2)] kR kR λhs=>?_;refine fR_ E (qw_ 5) ?_;refine fR_ E (qw_ 5) ?_
 refine N5 [⟨1,30,λv B _=>B=[]∧Fe v (fM (fA xa xb) (fA xa xb))⟩,⟨3,32,λv B _=>B=[]∧Fe v (fM (fS xa xb) (fS xa xb))⟩,⟨4,16,λv B _=>∃b,v=(vP b)∧B=[(b,blk [C0,C0,C0,C0,C0] 193)]⟩,⟨5,17,λv B _=>∃b,v=(vP b)∧B=[(b,blk [C0,C0,C0,C0,C0] 193)]⟩]
  gA nd_ nd_ dl_
  (gO ?_ (gO ?_ (gO ?_ (gO ?_ (K5))))) ?_
 .
  intros
  refine D9 (aS E (a0)) kR (C29 hp _) E ?_;rintro r M1 J1 ⟨rfl,rfl,hh⟩;exact ⟨_,E,E,hh⟩
 .
  intros
  refine D9 (aS E (a0)) kR (C29 hq _) E ?_;rintro r M1 J1 ⟨rfl,rfl,hh⟩;exact ⟨_,E,E,hh⟩
 .
  intros
  exact C3 (cs:=[C0,C0,C0,C0,C0]) kR E λb=>⟨_,E,b,E,E⟩
 .
  intros
  exact C3 (cs:=[C0,C0,C0,C0,C0]) kR E λb=>⟨_,E,b,E,E⟩
 intro vs bs Jn0 hφ;have g1:=gy 0 hφ;have g3:=gy 1 hφ;have g4:=gy 2 hφ;have g5:=gy 3 hφ;dsimp only at g1 g3 g4 g5;clear hφ;dsimp only [V0,Q6,List.map,List.flatten,Cy,Cw];generalize bs 1=B30,bs 3=B32,bs 4=B16,bs 5=B17,vs 1=u30,vs 3=u32,vs 4=u16,vs 5=u17 at *;obtain ⟨rfl,k1⟩:=g1;have h1:=k1;obtain ⟨a1,b1,c1,d1,e1,rfl,-⟩:=k1;obtain ⟨rfl,k3⟩:=g3;have h3:=k3;obtain ⟨a3,b3,c3,d3,e3,rfl,-⟩:=k3;obtain ⟨b4,rfl,rfl⟩:=g4;obtain ⟨b5,rfl,rfl⟩:=g5;dsimp only [List.append_eq,Cw,Cy];have hss:=h1;have htt:=h3;clear h1 h3;refine G3 E E E (A5 E E Cf kR ln5 al5 Cv ?_);refine G3 E E E (A5 E E Cf kR ln5 al5 Cv ?_);refine E4 (kq 5 (kq 8 (Q4 9 10 11 12 13 14 15 16 17))) (A1 ?_);refine lQ_ (qw_ 5) ?_;refine lQ_ (qw_ 5) ?_;refine C6 (aS E (aS E a0)) kR (A6F hss htt _) E ?_;rintro r35 M35 J35 ⟨rfl,rfl,k35⟩;have h35:=k35;obtain ⟨a35,b35,c35,d35,e35,rfl,-⟩:=k35;refine A2 E (C3 (cs:=[C0,C0,C0,C0,C0]) kR E λb18=>?_);refine A2 E (A5 E E Cf kR ln5 al5 Cv ?_);refine A0 (kq 5 (kq 8 (kq 9 (Q4 10 11 12 13 14 15 16 17 18)))) ?_;refine C9 [0,1,2,3,4,5] [(0,1),(1,1),(3,1),(2,3),(4,3),(5,4),(6,2)] kR kR λhs=>?_;refine fR_ E (qw_ 5) ?_;refine fR_ E (qw_ 5) ?_;refine fR_ E (qw_ 5) ?_
 refine N5 [⟨2,38,λv B _=>B=[]∧Fe v (fS xc xd)⟩,⟨4,40,λv B _=>B=[]∧Fe v (fM (fS xc xd) (fA xa xb))⟩,⟨5,19,λv B _=>∃b,v=(vP b)∧B=[(b,blk [C0,C0,C0,C0,C0] 193)]⟩]
  gA nd_ nd_ dl_
  (gO ?_ (gO ?_ (gO ?_ (K5)))) ?_
 .
  intros
  refine D9 (aS E (aS E (a0))) kR (A6F hC0 hD0 _) E ?_;rintro r M1 J1 ⟨rfl,rfl,hh⟩;exact ⟨_,E,E,hh⟩
 . intro _ _ _ _ _ ha;have g2:=gx 0 ha;dsimp only at g2;obtain ⟨-,k2⟩:=g2;refine D9 (aS E (aS E (a0))) kR (U3 k2 hp _) E ?_;rintro r M1 J1 ⟨rfl,rfl,hh⟩;exact ⟨_,E,E,hh⟩
 .
  intros
  exact C3 (cs:=[C0,C0,C0,C0,C0]) kR E λb=>⟨_,E,b,E,E⟩
 intro vs bs Jn0 hφ;have g2:=gy 0 hφ;have g4:=gy 1 hφ;have g5:=gy 2 hφ;dsimp only at g2 g4 g5;clear hφ;dsimp only [V0,Q6,List.map,List.flatten,Cy,Cw];generalize bs 2=B38,bs 4=B40,bs 5=B19,vs 2=u38,vs 4=u40,vs 5=u19 at *;obtain ⟨rfl,k2⟩:=g2;have h2:=k2;obtain ⟨a2,b2,c2,d2,e2,rfl,-⟩:=k2;obtain ⟨rfl,k4⟩:=g4;have h4:=k4;obtain ⟨a4,b4,c4,d4,e4,rfl,-⟩:=k4;obtain ⟨b5,rfl,rfl⟩:=g5;dsimp only [List.append_eq,Cw,Cy];have hda:=h4;clear h2 h4;refine G3 E E E (A5 E E Cf kR ln5 al5 Cv ?_);refine E4 (kq 5 (kq 8 (kq 9 (Q4 10 11 12 13 15 16 17 18 19)))) ?_;refine C9 [0,1,2,3,4,5] [(0,1),(1,1),(3,1),(2,3),(4,3),(5,4),(6,2)] kR kR λhs=>?_;refine fR_ E (qw_ 5) ?_;refine fR_ E (qw_ 5) ?_;refine fR_ E (qw_ 5) ?_
 refine N5 [⟨2,43,λv B _=>B=[]∧Fe v (fA xc xd)⟩,⟨4,45,λv B _=>B=[]∧Fe v (fM (fA xc xd) (fS xa xb))⟩,⟨5,20,λv B _=>∃b,v=(vP b)∧B=[(b,blk [C0,C0,C0,C0,C0] 193)]⟩]
  gA nd_ nd_ dl_
  (gO ?_ (gO ?_ (gO ?_ (K5)))) ?_
 .
  intros
  refine D9 (aS E (aS E (a0))) kR (A5q hC0 hD0 _) E ?_;rintro r M1 J1 ⟨rfl,rfl,hh⟩;exact ⟨_,E,E,hh⟩
 . intro _ _ _ _ _ ha;have g2:=gx 0 ha;dsimp only at g2;obtain ⟨-,k2⟩:=g2;refine D9 (aS E (aS E (a0))) kR (U3 k2 hq _) E ?_;rintro r M1 J1 ⟨rfl,rfl,hh⟩;exact ⟨_,E,E,hh⟩
 .
  intros
  exact C3 (cs:=[C0,C0,C0,C0,C0]) kR E λb=>⟨_,E,b,E,E⟩
 intro vs bs Jn0 hφ;have g2:=gy 0 hφ;have g4:=gy 1 hφ;have g5:=gy 2 hφ;dsimp only at g2 g4 g5;clear hφ;dsimp only [V0,Q6,List.map,List.flatten,Cy,Cw];generalize bs 2=B43,bs 4=B45,bs 5=B20,vs 2=u43,vs 4=u45,vs 5=u20 at *;obtain ⟨rfl,k2⟩:=g2;have h2:=k2;obtain ⟨a2,b2,c2,d2,e2,rfl,-⟩:=k2;obtain ⟨rfl,k4⟩:=g4;have h4:=k4;obtain ⟨a4,b4,c4,d4,e4,rfl,-⟩:=k4;obtain ⟨b5,rfl,rfl⟩:=g5;dsimp only [List.append_eq,Cw,Cy];have hcb:=h4;clear h2 h4;refine G3 E E E (A5 E E Cf kR ln5 al5 Cv ?_);refine E4 (kq 5 (Q4 10 11 12 13 16 17 18 19 20)) (A1 ?_);refine lQ_ (qw_ 5) ?_;refine lQ_ (qw_ 5) ?_;refine C6 (aS E (aS E a0)) kR (A5q hda hcb _) E ?_;rintro r48 M48 J48 ⟨rfl,rfl,k48⟩;have h48:=k48;obtain ⟨a48,b48,c48,d48,e48,rfl,-⟩:=k48;refine C6 (aS E a0) kR (C29 h48 _) E ?_;rintro r49 M49 J49 ⟨rfl,rfl,k49⟩;have h49:=k49;obtain ⟨a49,b49,c49,d49,e49,rfl,-⟩:=k49;refine A2 E (C3 (cs:=[C0,C0,C0,C0,C0]) kR E λb21=>?_);refine A2 E (A5 E E Cf kR ln5 al5 Cv ?_);refine A0 (kq 5 (kq 10 (Q4 11 12 13 16 17 18 19 20 21))) ?_;refine C9 (.range 7) (zp 0 [1,1,1,3,3,3,4,2]) kR kR λhs=>?_;refine fR_ E (qw_ 5) ?_;refine fR_ E (qw_ 5) ?_;refine fR_ E (qw_ 5) ?_
 refine N5 [⟨3,53,λv B _=>B=[]∧Fe v (fS (fM (fS xc xd) (fA xa xb)) (fM (fA xc xd) (fS xa xb)))⟩,⟨4,54,λv B _=>B=[]∧Fe v (fM (fS (fM (fS xc xd) (fA xa xb)) (fM (fA xc xd) (fS xa xb))) (fS (fM (fS xc xd) (fA xa xb)) (fM (fA xc xd) (fS xa xb))))⟩,⟨5,55,λv B _=>B=[]∧Fe v (fM xu (fM (fS (fM (fS xc xd) (fA xa xb)) (fM (fA xc xd) (fS xa xb))) (fS (fM (fS xc xd) (fA xa xb)) (fM (fA xc xd) (fS xa xb)))))⟩,⟨6,22,λv B _=>∃b,v=(vP b)∧B=[(b,blk [C0,C0,C0,C0,C0] 193)]⟩]
  gA nd_ nd_ dl_
  (gO ?_ (gO ?_ (gO ?_ (gO ?_ (K5))))) ?_
 .
  intros
  refine D9 (aS E (aS E (a0))) kR (A6F hda hcb _) E ?_;rintro r M1 J1 ⟨rfl,rfl,hh⟩;exact ⟨_,E,E,hh⟩
 . intro _ _ _ _ _ ha;have g3:=gx 0 ha;dsimp only at g3;obtain ⟨-,k3⟩:=g3;refine D9 (aS E (a0)) kR (C29 k3 _) E ?_;rintro r M1 J1 ⟨rfl,rfl,hh⟩;exact ⟨_,E,E,hh⟩
 . intro _ _ _ _ _ ha;have g4:=gx 1 ha;dsimp only at g4;obtain ⟨-,k4⟩:=g4;refine D9 (aS E (aS E (a0))) kR (U3 hU0 k4 _) E ?_;rintro r M1 J1 ⟨rfl,rfl,hh⟩;exact ⟨_,E,E,hh⟩
 .
  intros
  exact C3 (cs:=[C0,C0,C0,C0,C0]) kR E λb=>⟨_,E,b,E,E⟩
 intro vs bs Jn0 hφ;have g3:=gy 0 hφ;have g4:=gy 1 hφ;have g5:=gy 2 hφ;have g6:=gy 3 hφ;dsimp only at g3 g4 g5 g6;clear hφ;dsimp only [V0,Q6,List.map,List.flatten,Cy,Cw];generalize bs 3=B53,bs 4=B54,bs 5=B55,bs 6=B22,vs 3=u53,vs 4=u54,vs 5=u55,vs 6=u22 at *;obtain ⟨rfl,k3⟩:=g3;have h3:=k3;obtain ⟨a3,b3,c3,d3,e3,rfl,-⟩:=k3;obtain ⟨rfl,k4⟩:=g4;have h4:=k4;obtain ⟨a4,b4,c4,d4,e4,rfl,-⟩:=k4;obtain ⟨rfl,k5⟩:=g5;have h5:=k5;obtain ⟨a5,b5,c5,d5,e5,rfl,-⟩:=k5;obtain ⟨b6,rfl,rfl⟩:=g6;dsimp only [List.append_eq,Cw,Cy];have hzz:=h5;clear h3 h4 h5;refine G3 E E E (A5 E E Cf kR ln5 al5 Cv ?_);refine E4 (Q4 10 11 12 13 16 17 18 21 22) ?_;refine F9 ([(b10,blk [C0,C0,C0,C0,C0] 193),(b11,blk [C0,C0,C0,C0,C0] 193),(b12,blk [C0,C0,C0,C0,C0] 193),(b13,blk [C0,C0,C0,C0,C0] 193)]) (_) true (.range 15) [(0,1),(1,1),(3,1),(4,1),(6,1),(10,1),(11,1),(2,2),(5,2),(7,2),(8,2),(9,2),(12,2),(13,2),(14,2),(15,2)] kR kR qP λhs K n0 hKm hKs hKn=>?_;refine I8 hs E hKs (qw_ 5) ?_;refine I8 hs E hKs (qw_ 5) ?_;refine I8 hs E hKs (qw_ 5) ?_;refine I8 hs E hKs (qw_ 5) ?_;refine I8 hs E hKs (qw_ 5) ?_;refine I8 hs E hKs (qw_ 5) ?_;refine I8 hs E hKs (qw_ 5) ?_
 refine G8 [] _ rfl rfl (Ah _) (λ_ h=>by cases h) λw0=>(D9 (aS rfl (aS rfl a0)) kR (U3 hss htt _) rfl ?_)
 rintro r58 M58 J58 ⟨rfl,rfl,k58⟩ _;have h58:=k58;obtain ⟨a58,b58,c58,d58,e58,rfl,-⟩:=k58;dsimp only [Cw,List.append_eq]
 refine G8 [] _ rfl rfl (Ah _) (λ_ h=>by cases h) λw0=>(D9 (aS rfl a0) kR (A1q 121665 qD _) rfl ?_)
 rintro r61 M61 J61 ⟨rfl,rfl,k61⟩ _;have h61:=k61;obtain ⟨a61,b61,c61,d61,e61,rfl,-⟩:=k61;dsimp only [Cw,List.append_eq]
 refine G8 [] _ rfl rfl (Ah _) (λ_ h=>by cases h) λw0=>(D9 (aS rfl (aS rfl a0)) kR (U3 h61 h35 _) rfl ?_)
 rintro r63 M63 J63 ⟨rfl,rfl,k63⟩ _;have h63:=k63;obtain ⟨a63,b63,c63,d63,e63,rfl,-⟩:=k63;dsimp only [Cw,List.append_eq]
 refine G8 [] _ rfl rfl (Ah _) (λ_ h=>by cases h) λw0=>(D9 (aS rfl (aS rfl a0)) kR (A5q hss h63 _) rfl ?_)
 rintro r64 M64 J64 ⟨rfl,rfl,k64⟩ _;have h64:=k64;obtain ⟨a64,b64,c64,d64,e64,rfl,-⟩:=k64;dsimp only [Cw,List.append_eq]
 refine G8 [] _ rfl rfl (Ah _) (λ_ h=>by cases h) λw0=>(D9 (aS rfl (aS rfl a0)) kR (U3 h35 h64 _) rfl ?_)
 rintro r65 M65 J65 ⟨rfl,rfl,k65⟩ _;have h65:=k65;obtain ⟨a65,b65,c65,d65,e65,rfl,-⟩:=k65;dsimp only [Cw,List.append_eq]
 refine G8 _ _ E E (Ah _) hKm λw0=>(A5 (vs:=[.int .u64 (a58:Int),.int .u64 (b58:Int),.int .u64 (c58:Int),.int .u64 (d58:Int),.int .u64 (e58:Int)]) E E E kR qR al5 Cv ?_)
 intro hK12
 refine G8 _ _ E E (Ah _) (hK12 (hKn E)) λw0=>(A5 (vs:=[.int .u64 (a65:Int),.int .u64 (b65:Int),.int .u64 (c65:Int),.int .u64 (d65:Int),.int .u64 (e65:Int)]) E E E kR qR al5 Cv ?_)
 intro hK13
 refine G8 _ _ E E (Ah _) (hK13 (hKn E)) λw0=>(A5 (vs:=[.int .u64 (a49:Int),.int .u64 (b49:Int),.int .u64 (c49:Int),.int .u64 (d49:Int),.int .u64 (e49:Int)]) E E E kR qR al5 Cv ?_)
 intro hK14;refine K6 E E E (A5 E E Cf kR ln5 al5 Cv ?_);refine I0 (D7 10 11 12 13) (A9 ?_);exact ⟨_,[],[],C5k (n:=5) E E E E E kR Ce Ce Ce Ce E E E E,Aa _,by simp,E,E,_,_,_,_,E,h58,h65,h49,hzz⟩
theorem B8Z(v vp:Value)(wu wp:LN)(A:Mem)(hv:By A v wu)(hp:By A vp wp):FnX prog 82 [v,vp] [] A λr M J=>M=[]∧By J r (x25 wu wp):=by
 haveI:=hv.cel;haveI:=hp.cel;have hvl:=hv.len;have hpl:=hp.len;refine Cn (N:=60) func82 E E E λw=>?_;refine A8 (D0 0 1) (A1 (as_ (A0 (D0 0 1) (A1 (mv_ ?_)))));refine D8 (aS E a0) kR (C0L _ wu _ (hv.mono qS)) E ?_;have hcn:=A5S wu;have hc256:=B4d hv.lt;refine A2 E (C3 (cs:=[zu8,zu8,zu8,zu8,zu8,zu8,zu8,zu8,zu8,zu8,zu8,zu8,zu8,zu8,zu8,zu8,zu8,zu8,zu8,zu8,zu8,zu8,zu8,zu8,zu8,zu8,zu8,zu8,zu8,zu8,zu8,zu8]) kR E λb5=>?_);refine A2 E (A5 (vs:=nums .u8 (N9 wu)) E E E (by rw [nums_len,hcn];kernel_rfl) (by rw [nums_len,hcn];rfl) E7 Cv ?_);refine A0 (D0 1 5) (A1 (mv_ ?_));refine C6 (aS E a0) kR (A5Q vp wp _ (hp.rd.mono qS) hp.lt qO) E ?_;rintro r16 M16 J16 ⟨rfl,rfl,hU⟩;have hUz:=hU;obtain ⟨ux0,ux1,ux2,ux3,ux4,rfl,-⟩:=hU;refine A2 E (C3 (cs:=[C0,C0,C0,C0,C0]) kR E λb6=>?_);refine A2 E (A5 (vs:=[.int .u64 (ux0:Int),.int .u64 (ux1:Int),.int .u64 (ux2:Int),.int .u64 (ux3:Int),.int .u64 (ux4:Int)]) E E E kR qR al5 Cv ?_);refine A0 (D0 5 6) ?_;refine F9 ([]) (_) true (.range 10) [(2,1),(0,3),(1,3),(3,3),(4,3),(5,3),(6,3),(7,4),(8,2),(9,2),(10,2),(11,2)] kR kR qP λhs K n0 hKm hKs hKn=>?_;refine I8 hs E hKs (qw_ 5) ?_
 refine A7D [⟨0,17,λv B _=>B=[]∧Fe v (1)⟩,⟨1,18,λv B _=>B=[]∧Fe v (0)⟩,⟨3,20,λv B _=>B=[]∧Fe v (1)⟩,⟨4,7,λv B _=>∃b,v=(vP b)∧B=[(b,blk [C0,C0,C0,C0,C0] 193)]⟩,⟨5,8,λv B _=>∃b,v=(vP b)∧B=[(b,blk [C0,C0,C0,C0,C0] 193)]⟩,⟨6,9,λv B _=>∃b,v=(vP b)∧B=[(b,blk [C0,C0,C0,C0,C0] 193)]⟩,⟨7,10,λv B _=>∃b,v=(vP b)∧B=[(b,blk [C0,C0,C0,C0,C0] 193)]⟩]
  gA nd_ nd_ dl_
  (gO ?_ (gO ?_ (gO ?_ (gO ?_ (gO ?_ (gO ?_ (gO ?_ (K5)))))))) ?_
 .
  intros
  refine D9 (aS E a0) kR (A1q 1 qD _) E ?_;rintro r M1 J1 ⟨rfl,rfl,hh⟩;exact ⟨_,E,E,hh⟩
 .
  intros
  refine D9 (aS E a0) kR (A1q 0 qD _) E ?_;rintro r M1 J1 ⟨rfl,rfl,hh⟩;exact ⟨_,E,E,hh⟩
 .
  intros
  refine D9 (aS E a0) kR (A1q 1 qD _) E ?_;rintro r M1 J1 ⟨rfl,rfl,hh⟩;exact ⟨_,E,E,hh⟩
 .
  intros
  exact C3 (cs:=[C0,C0,C0,C0,C0]) kR E λb=>⟨_,E,b,E,E⟩
 .
  intros
  exact C3 (cs:=[C0,C0,C0,C0,C0]) kR E λb=>⟨_,E,b,E,E⟩
 .
  intros
  exact C3 (cs:=[C0,C0,C0,C0,C0]) kR E λb=>⟨_,E,b,E,E⟩
 .
  intros
  exact C3 (cs:=[C0,C0,C0,C0,C0]) kR E λb=>⟨_,E,b,E,E⟩
 intro vs bs Jn0 hφ hNN;have n4:=hNN _ (As (i:=3) E);dsimp only at n4;have n5:=hNN _ (As (i:=4) E);dsimp only at n5;clear hNN;have g0:=gy 0 hφ;have g1:=gy 1 hφ;have g3:=gy 2 hφ;have g4:=gy 3 hφ;have g5:=gy 4 hφ;have g6:=gy 5 hφ;have g7:=gy 6 hφ;dsimp only at g0 g1 g3 g4 g5 g6 g7;clear hφ;dsimp only [V0,Q6,List.map,List.flatten,Cy,Cw];generalize bs 0=B17,bs 1=B18,bs 3=B20,bs 4=B7,bs 5=B8,bs 6=B9,bs 7=B10,vs 0=u17,vs 1=u18,vs 3=u20,vs 4=u7,vs 5=u8,vs 6=u9,vs 7=u10 at *;obtain ⟨rfl,k0⟩:=g0;obtain ⟨rfl,k1⟩:=g1;obtain ⟨rfl,k3⟩:=g3;have k0z:=k0;obtain ⟨pw0,pw1,pw2,pw3,pw4,rfl,-⟩:=k0;have k1z:=k1;obtain ⟨px0,px1,px2,px3,px4,rfl,-⟩:=k1;have k3z:=k3;obtain ⟨pq0,pq1,pq2,pq3,pq4,rfl,-⟩:=k3;obtain ⟨b7,rfl,rfl⟩:=g4;obtain ⟨b8,rfl,rfl⟩:=g5;obtain ⟨b9,rfl,rfl⟩:=g6;obtain ⟨b10,rfl,rfl⟩:=g7;dsimp only [List.append_eq,Cw,Cy]
 refine G8 [(b7,blk [C0,C0,C0,C0,C0] 193)] _ E E qP (λx hx=>by rw [List.mem_singleton.1 hx];exact hKn E _ (n4 _ qK)) λw0=>(A5 (vs:=[.int .u64 (pw0:Int),.int .u64 (pw1:Int),.int .u64 (pw2:Int),.int .u64 (pw3:Int),.int .u64 (pw4:Int)]) E E E kR qR al5 Cv ?_)
 intro hK8
 refine G8 [(b8,blk [C0,C0,C0,C0,C0] 193)] _ E E qP (λx hx=>by rw [List.mem_singleton.1 hx];exact hKn E _ (n5 _ qK)) λw0=>(A5 (vs:=[.int .u64 (px0:Int),.int .u64 (px1:Int),.int .u64 (px2:Int),.int .u64 (px3:Int),.int .u64 (px4:Int)]) E E E kR qR al5 Cv ?_)
 intro hK9;refine K6 E E E (A5 (vs:=[.int .u64 (ux0:Int),.int .u64 (ux1:Int),.int .u64 (ux2:Int),.int .u64 (ux3:Int),.int .u64 (ux4:Int)]) E E E kR qR al5 Cv ?_);refine K6 E E E (A5 (vs:=[.int .u64 (pq0:Int),.int .u64 (pq1:Int),.int .u64 (pq2:Int),.int .u64 (pq3:Int),.int .u64 (pq4:Int)]) E E E kR qR al5 Cv ?_);refine I0 (G9 5 6 7 8 9 10) (A3 (A1 (as_ (A0 (N1 5 6 7 8 9 10 11) (A6 ?_)))));refine A0X (M':=[(b10,blk [.int .u64 (pq0:Int),.int .u64 (pq1:Int),.int .u64 (pq2:Int),.int .u64 (pq3:Int),.int .u64 (pq4:Int)] 193),(b9,blk [.int .u64 (ux0:Int),.int .u64 (ux1:Int),.int .u64 (ux2:Int),.int .u64 (ux3:Int),.int .u64 (ux4:Int)] 193),(b8,blk [.int .u64 (px0:Int),.int .u64 (px1:Int),.int .u64 (px2:Int),.int .u64 (px3:Int),.int .u64 (px4:Int)] 193),(b7,blk [.int .u64 (pw0:Int),.int .u64 (pw1:Int),.int .u64 (pw2:Int),.int .u64 (pw3:Int),.int .u64 (pw4:Int)] 193),(b6,blk [.int .u64 (ux0:Int),.int .u64 (ux1:Int),.int .u64 (ux2:Int),.int .u64 (ux3:Int),.int .u64 (ux4:Int)] 193),(b5,blk (nums .u8 (N9 wu)) 198)]) (Cj (B:=[_]) qP (Cj (B:=[_]) qP (Cj (B:=[_]) qP (Cj (B:=[_]) qP (Cj (B:=[_]) qP (Cg E)))))) qI ?_;refine E0 (α:=Nat×LN×LN×LN×LN) (λy=>[(5,(vP b5)),(6,(vP b6)),(7,(vP b7)),(8,(vP b8)),(9,(vP b9)),(10,(vP b10)),(11,.int .i64 ((y.1:Int)-1))]) (λy=>[(b10,blk (nums .u64 y.2.2.2.2) 193),(b9,blk (nums .u64 y.2.2.2.1) 193),(b8,blk (nums .u64 y.2.2.1) 193),(b7,blk (nums .u64 y.2.1) 193),(b6,blk (nums .u64 [ux0,ux1,ux2,ux3,ux4]) 193),(b5,blk (nums .u8 (N9 wu)) 198)]) (λ_=>[]) (λy=>y.1<=255∧Fe (.agg (nums .u64 y.2.1).toArray) (A6Q (rdN wp) (bv (N9 wu)) (255-y.1)).a∧Fe (.agg (nums .u64 y.2.2.1).toArray) (A6Q (rdN wp) (bv (N9 wu)) (255-y.1)).b∧Fe (.agg (nums .u64 y.2.2.2.1).toArray) (A6Q (rdN wp) (bv (N9 wu)) (255-y.1)).c∧Fe (.agg (nums .u64 y.2.2.2.2).toArray) (A6Q (rdN wp) (bv (N9 wu)) (255-y.1)).d) (λy=>y.1) (255,[pw0,pw1,pw2,pw3,pw4],[px0,px1,px2,px3,px4],[ux0,ux1,ux2,ux3,ux4],[pq0,pq1,pq2,pq3,pq4]) ⟨Av _,by dsimp only;rw [Nat.sub_self];exact k0z,by dsimp only;rw [Nat.sub_self];exact k1z,by dsimp only;rw [Nat.sub_self];exact hUz,by dsimp only;rw [Nat.sub_self];exact k3z⟩ (N1 5 6 7 8 9 10 11) (Cg rfl) (λ_ h=>by cases h) ?_;clear k0z k1z k3z;rintro ⟨j,la,lb,lc,ld⟩ ⟨hj,haz,hbz,hcz,hdz⟩;dsimp only at hj haz hbz hcz hdz ⊢;obtain ⟨za0,za1,za2,za3,za4,rfl⟩:=A6R haz;obtain ⟨zb0,zb1,zb2,zb3,zb4,rfl⟩:=A6R hbz;obtain ⟨zc0,zc1,zc2,zc3,zc4,rfl⟩:=A6R hcz;obtain ⟨zd0,zd1,zd2,zd3,zd4,rfl⟩:=A6R hdz;dsimp only [nums,List.map];refine A3 (A1 (mV_ E (lQ_ (E3 E E E) (A0 (V4 5 6 7 8 9 10 11 22) ?_))));refine C2 E ?_ ?_<;>intro hc
 .
  have hj0:0<j:=by simp at hc;omega
  obtain ⟨i,rfl⟩:∃i,j=i+1:=⟨j-1,by omega⟩
  rw [show (((i+1:Nat):Int)-1)=(i:Int) by omega];have hts:=A78 (u:=rdN wp) (n:=bv (N9 wu)) (show i<255 by omega);have hbit:=A7X hc256 i;have hpb:(N9 wu).getD (i/8) 0<256:=Go.Px.getD_lt hc256 qD;have hz2:bv (N9 wu)/2^i%2<2:=Ad _ qD;generalize A6Q (rdN wp) (bv (N9 wu)) (255-(i+1))=S at *;generalize bv (N9 wu)/2^i%2=zb at *
  obtain ⟨bt,hbt⟩:∃bt,decide (zb=1)=bt:=⟨_,E⟩
  rw [hbt] at hts;refine A4 (nx (N1 5 6 7 8 9 10 11) (A3 (A6 (A1 (mv_ ?_)))));refine lQ_ (A1A 8 E E E qD (A2E qO)) ?_;refine lQ_ (F7 (e:=5) (n:=32) (sz:=1) (i:=i/8) E E kR kR E qO) ?_;refine lQ_ (H9 (i/8) E kR Ce qO qO) ?_;refine mv_ ?_;refine lQ_ (A1B 8 E E E qD) ?_;refine lQ_ (A3H (a:=(N9 wu).getD (i/8) 0) (b:=i%8) E E E E (by show _<=8;omega)) ?_;refine lQ_ (hbit▸N4 1 2 E E E E E (by show _<256;exact Be (Nat.div_le_self _ _) hpb) qD) ?_;refine lQ_ (hbt▸F6 (decide (zb=1)) rfl rfl (by rcases (show zb=0∨zb=1 by omega) with h|h<;>subst h<;>rfl)) ?_;refine as_ (A0 (V4 5 6 7 8 9 10 11 12) (A3 ?_));cases bt
  . refine A1 (mv_ (A0 (Q4 5 6 7 8 9 10 11 12 34) ?_));refine C7 E ?_;refine A4 (nx (V4 5 6 7 8 9 10 11 12) (A1 ?_));refine lQ_ (qw_ 5) ?_;refine lQ_ (qw_ 5) ?_;refine lQ_ (qw_ 5) ?_;refine lQ_ (qw_ 5) ?_;refine lQ_ (qw_ 5) ?_;refine C6 (aS E (aS E (aS E (aS E (aS E a0))))) kR (B8Y _ _ _ _ _ (rdN wp) _ _ _ _ _ hUz haz hbz hcz hdz) E ?_;rintro r45 M45 J45 ⟨rfl,rfl,v0,v1,v2,v3,rfl,k0,k1,k2,k3⟩;have k0z:=k0;obtain ⟨pw0,pw1,pw2,pw3,pw4,rfl,-⟩:=k0;have k1z:=k1;obtain ⟨px0,px1,px2,px3,px4,rfl,-⟩:=k1;have k2z:=k2;obtain ⟨py0,py1,py2,py3,py4,rfl,-⟩:=k2;have k3z:=k3;obtain ⟨pq0,pq1,pq2,pq3,pq4,rfl,-⟩:=k3;refine mV_ E (lQ_ (A0x E) (lQ_ (A0n E) (lQ_ (B9U E) (lQ_ (q_x3 E) ?_))));refine A2 E (A5 (vs:=[.int .u64 (pw0:Int),.int .u64 (pw1:Int),.int .u64 (pw2:Int),.int .u64 (pw3:Int),.int .u64 (pw4:Int)]) E E E kR qR al5 Cv ?_);refine A2 E (A5 (vs:=[.int .u64 (px0:Int),.int .u64 (px1:Int),.int .u64 (px2:Int),.int .u64 (px3:Int),.int .u64 (px4:Int)]) E E E kR qR al5 Cv ?_);refine A2 E (A5 (vs:=[.int .u64 (py0:Int),.int .u64 (py1:Int),.int .u64 (py2:Int),.int .u64 (py3:Int),.int .u64 (py4:Int)]) E E E kR qR al5 Cv ?_);refine A2 E (A5 (vs:=[.int .u64 (pq0:Int),.int .u64 (pq1:Int),.int .u64 (pq2:Int),.int .u64 (pq3:Int),.int .u64 (pq4:Int)]) E E E kR qR al5 Cv ?_);refine A0 (V4 5 6 7 8 9 10 11 12) (A1 (mv_ (A0 (V4 5 6 7 8 9 10 11 50) ?_)));refine C7 E ?_;refine A4 (nb (nx (N1 5 6 7 8 9 10 11) (C1 (mv_ ?_))));refine lQ_ (D2 ((i:Int)-1) E E (V6 E qO qO)) ?_;refine as_ (C5 ?_);exact rn (i,[pw0,pw1,pw2,pw3,pw4],[px0,px1,px2,px3,px4],[py0,py1,py2,py3,py4],[pq0,pq1,pq2,pq3,pq4]) ⟨by dsimp only;omega,by dsimp only;rw [hts];exact k0z,by dsimp only;rw [hts];exact k1z,by dsimp only;rw [hts];exact k2z,by dsimp only;rw [hts];exact k3z⟩ (by dsimp only;omega) (N1 5 6 7 8 9 10 11) (show Fit _ ([(b10,blk [.int .u64 (pq0:Int),.int .u64 (pq1:Int),.int .u64 (pq2:Int),.int .u64 (pq3:Int),.int .u64 (pq4:Int)] 193),(b9,blk [.int .u64 (py0:Int),.int .u64 (py1:Int),.int .u64 (py2:Int),.int .u64 (py3:Int),.int .u64 (py4:Int)] 193),(b8,blk [.int .u64 (px0:Int),.int .u64 (px1:Int),.int .u64 (px2:Int),.int .u64 (px3:Int),.int .u64 (px4:Int)] 193),(b7,blk [.int .u64 (pw0:Int),.int .u64 (pw1:Int),.int .u64 (pw2:Int),.int .u64 (pw3:Int),.int .u64 (pw4:Int)] 193),(b6,blk [.int .u64 (ux0:Int),.int .u64 (ux1:Int),.int .u64 (ux2:Int),.int .u64 (ux3:Int),.int .u64 (ux4:Int)] 193),(b5,blk (nums .u8 (N9 wu)) 198)]) from (Cj (B:=[_]) qP (Cj (B:=[_]) qP (Cj (B:=[_]) qP (Cj (B:=[_]) qP (Cj (B:=[_]) qP (Cg rfl))))))) (λ_ h=>by cases h)
  .
   refine A1 (mv_ (A0 (Q4 5 6 7 8 9 10 11 12 34) ?_));refine E2 E ?_;refine Y8 ([(b7,blk [.int .u64 (za0:Int),.int .u64 (za1:Int),.int .u64 (za2:Int),.int .u64 (za3:Int),.int .u64 (za4:Int)] 193)]) (_) true [0,1,2,3,4] [(0,1),(1,1),(3,1),(2,2),(4,2),(5,2),(6,2),(7,2)] kR kR qP λhs K n0 hKm hKs hKn=>?_;refine I8 hs E hKs (qw_ 5) ?_;refine I8 hs E hKs (qw_ 5) ?_;refine I8 hs E hKs (qw_ 5) ?_
   refine G8 _ _ E E (Ah _) hKm λw0=>(Cp (H0 (n:=5) E kR Ce qR) E ?_)
   intro hK2
   refine G8 _ _ E E (Ah _) (hK2 (hKn E)) λw0=>(A5 (vs:=[.int .u64 (zc0:Int),.int .u64 (zc1:Int),.int .u64 (zc2:Int),.int .u64 (zc3:Int),.int .u64 (zc4:Int)]) E E E kR qR al5 Cv ?_)
   intro hK4;refine K6 E E E (A5 (vs:=[.int .u64 (zd0:Int),.int .u64 (zd1:Int),.int .u64 (zd2:Int),.int .u64 (zd3:Int),.int .u64 (zd4:Int)]) E E E kR qR al5 Cv ?_);refine K6 E E E (A5 (vs:=[.int .u64 (za0:Int),.int .u64 (za1:Int),.int .u64 (za2:Int),.int .u64 (za3:Int),.int .u64 (za4:Int)]) E E E kR qR al5 Cv ?_);refine K6 E E E (A5 (vs:=[.int .u64 (zb0:Int),.int .u64 (zb1:Int),.int .u64 (zb2:Int),.int .u64 (zb3:Int),.int .u64 (zb4:Int)]) E E E kR qR al5 Cv ?_);refine I0 (V4 5 6 7 8 9 10 11 12) (A1 ?_);refine lQ_ (qw_ 5) ?_;refine lQ_ (qw_ 5) ?_;refine lQ_ (qw_ 5) ?_;refine lQ_ (qw_ 5) ?_;refine lQ_ (qw_ 5) ?_;refine C6 (aS E (aS E (aS E (aS E (aS E a0))))) kR (B8Y _ _ _ _ _ (rdN wp) _ _ _ _ _ hUz hcz hdz haz hbz) E ?_;rintro r45 M45 J45 ⟨rfl,rfl,v0,v1,v2,v3,rfl,k0,k1,k2,k3⟩;have k0z:=k0;obtain ⟨pw0,pw1,pw2,pw3,pw4,rfl,-⟩:=k0;have k1z:=k1;obtain ⟨px0,px1,px2,px3,px4,rfl,-⟩:=k1;have k2z:=k2;obtain ⟨py0,py1,py2,py3,py4,rfl,-⟩:=k2;have k3z:=k3;obtain ⟨pq0,pq1,pq2,pq3,pq4,rfl,-⟩:=k3;refine mV_ E (lQ_ (A0x E) (lQ_ (A0n E) (lQ_ (B9U E) (lQ_ (q_x3 E) ?_))));refine A2 E (A5 (vs:=[.int .u64 (pw0:Int),.int .u64 (pw1:Int),.int .u64 (pw2:Int),.int .u64 (pw3:Int),.int .u64 (pw4:Int)]) E E E kR qR al5 Cv ?_);refine A2 E (A5 (vs:=[.int .u64 (px0:Int),.int .u64 (px1:Int),.int .u64 (px2:Int),.int .u64 (px3:Int),.int .u64 (px4:Int)]) E E E kR qR al5 Cv ?_);refine A2 E (A5 (vs:=[.int .u64 (py0:Int),.int .u64 (py1:Int),.int .u64 (py2:Int),.int .u64 (py3:Int),.int .u64 (py4:Int)]) E E E kR qR al5 Cv ?_);refine A2 E (A5 (vs:=[.int .u64 (pq0:Int),.int .u64 (pq1:Int),.int .u64 (pq2:Int),.int .u64 (pq3:Int),.int .u64 (pq4:Int)]) E E E kR qR al5 Cv ?_);refine A0 (V4 5 6 7 8 9 10 11 12) (A1 (mv_ (A0 (V4 5 6 7 8 9 10 11 50) ?_)));refine E2 E ?_;refine Y8 ([(b7,blk [.int .u64 (pw0:Int),.int .u64 (pw1:Int),.int .u64 (pw2:Int),.int .u64 (pw3:Int),.int .u64 (pw4:Int)] 193)]) (_) true [0,1,2,3,4] [(0,1),(1,1),(3,1),(2,2),(4,2),(5,2),(6,2),(7,2)] kR kR qP λhs K n0 hKm hKs hKn=>?_;refine I8 hs E hKs (qw_ 5) ?_;refine I8 hs E hKs (qw_ 5) ?_;refine I8 hs E hKs (qw_ 5) ?_
   refine G8 _ _ E E (Ah _) hKm λw0=>(Cp (H0 (n:=5) E kR Ce qR) E ?_)
   intro hK2
   refine G8 _ _ E E (Ah _) (hK2 (hKn E)) λw0=>(A5 (vs:=[.int .u64 (py0:Int),.int .u64 (py1:Int),.int .u64 (py2:Int),.int .u64 (py3:Int),.int .u64 (py4:Int)]) E E E kR qR al5 Cv ?_)
   intro hK4;refine K6 E E E (A5 (vs:=[.int .u64 (pq0:Int),.int .u64 (pq1:Int),.int .u64 (pq2:Int),.int .u64 (pq3:Int),.int .u64 (pq4:Int)]) E E E kR qR al5 Cv ?_);refine K6 E E E (A5 (vs:=[.int .u64 (pw0:Int),.int .u64 (pw1:Int),.int .u64 (pw2:Int),.int .u64 (pw3:Int),.int .u64 (pw4:Int)]) E E E kR qR al5 Cv ?_);refine K6 E E E (A5 (vs:=[.int .u64 (px0:Int),.int .u64 (px1:Int),.int .u64 (px2:Int),.int .u64 (px3:Int),.int .u64 (px4:Int)]) E E E kR qR al5 Cv ?_);refine A3G (nb (nx (N1 5 6 7 8 9 10 11) (C1 (mv_ ?_))));refine lQ_ (D2 ((i:Int)-1) E E (V6 E qO qO)) ?_;refine as_ (C5 ?_);exact rn (i,[py0,py1,py2,py3,py4],[pq0,pq1,pq2,pq3,pq4],[pw0,pw1,pw2,pw3,pw4],[px0,px1,px2,px3,px4]) ⟨by dsimp only;omega,by dsimp only;rw [hts];exact k2z,by dsimp only;rw [hts];exact k3z,by dsimp only;rw [hts];exact k0z,by dsimp only;rw [hts];exact k1z⟩ (by dsimp only;omega) (N1 5 6 7 8 9 10 11) (show Fit _ ([(b10,blk [.int .u64 (px0:Int),.int .u64 (px1:Int),.int .u64 (px2:Int),.int .u64 (px3:Int),.int .u64 (px4:Int)] 193),(b9,blk [.int .u64 (pw0:Int),.int .u64 (pw1:Int),.int .u64 (pw2:Int),.int .u64 (pw3:Int),.int .u64 (pw4:Int)] 193),(b8,blk [.int .u64 (pq0:Int),.int .u64 (pq1:Int),.int .u64 (pq2:Int),.int .u64 (pq3:Int),.int .u64 (pq4:Int)] 193),(b7,blk [.int .u64 (py0:Int),.int .u64 (py1:Int),.int .u64 (py2:Int),.int .u64 (py3:Int),.int .u64 (py4:Int)] 193),(b6,blk [.int .u64 (ux0:Int),.int .u64 (ux1:Int),.int .u64 (ux2:Int),.int .u64 (ux3:Int),.int .u64 (ux4:Int)] 193),(b5,blk (nums .u8 (N9 wu)) 198)]) from (Cj (B:=[_]) qP (Cj (B:=[_]) qP (Cj (B:=[_]) qP (Cj (B:=[_]) qP (Cj (B:=[_]) qP (Cg rfl))))))) (λ_ h=>by cases h)
 .
  have hj0:j=0:=by simp at hc;omega
  subst hj0;refine D6 (te (re (be E (nx (D0 7 8) ?_))));refine C9 [0,1,2,3,4,5] (zp 0 [1,1,2,2,2,0]) kR kR λhs=>?_;refine fR_ E (qw_ 5) ?_;refine fR_ E (qw_ 5) ?_;refine G5 E (aS E a0) kR (B3y hbz _) E ?_;rintro r57 M57 J57 ⟨rfl,rfl,k57⟩;have h57:=k57;obtain ⟨a57,b57,c57,d57,e57,rfl,-⟩:=k57;refine G5 E (aS E (aS E a0)) kR (U3 haz h57 _) E ?_;rintro r58 M58 J58 ⟨rfl,rfl,k58⟩;have h58:=k58;obtain ⟨a58,b58,c58,d58,e58,rfl,-⟩:=k58;refine G5 E (aS E a0) kR ((A0C _ _ h58 _).frz0) E ?_;rintro r59 M59 J59 ⟨rfl,hs59⟩;haveI:=hs59.cel;refine fA_ E E (E4 (D1 4) (A9 ?_));exact ⟨_,[],J59,H2 E E,Aa _,λx hx=>by simp [hx],E,B7u hs59 (A1M _ _).symm (B4c _ _) (by rw [A1M];decide) λ_ h=>h⟩
theorem C3m(v:Value)(wu:LN)(A:Mem)(hv:By A v wu):FnX prog 47 [v] [] A λr M J=>M=[]∧By J r (A1L wu):=by haveI:=hv.cel;refine Co (N:=10) func47 E E E λw_=>?_;refine A8 (D1 0) (A1 (as_ (A0 (D1 0) (A1 ?_))));refine A2 E (A0S (by_:=1) (k:=.u8) (e:=5) 32 E E kR E E qO qO E λb4=>?_);refine as_ (A0 (D0 0 3) (A1 (mv_ ?_)));refine lQ_ (L6 (e:=5) (sz:=1) (i:=0) E E kR kR qO qO) ?_;refine A2 E (K4 0 (ws:=List.replicate 32 0) E E kR E qM Cv ?_);refine A0 (D0 0 3) (A1 (mv_ (mv_ ?_)));refine C6 (aS E (aS E a0)) kR (B8Z v _ wu C0K _ (hv.mono qS) ⟨Cr (n:=32) (cs:=nums .u8 C0K) Ce qR,by decide,by decide⟩) E ?_;rintro r9 M9 J9 ⟨rfl,h9⟩;haveI:=h9.cel;refine as_ (A0 (D1 2) (A9 ?_));exact ⟨_,[],[],H2 E E,qZ,E,h9.mono qS⟩

theorem A8Y{r:Value}{a b:LN}(h:Sc r (bv (B0H a)%lN))(e:a=b):Sc r (bv (B0H b)%lN):=e▸h
theorem A9Z(v:Value)(ws:LN)(A:Mem)(hv:By A v ws)(hl:ws.length<=100000000)(hG:GlS A):FnX prog 118 [v] [] A λr M J=>M=[]∧J=[]∧Sc r (B09 ws):=by haveI:=hv.cel;have hvl:=hv.len;obtain ⟨⟨ge0,gf0,h0⟩,⟨ge1,gf1,h1⟩⟩:=hG;refine Cn (N:=9) func118 E E E λw=>?_;refine A8 (D1 0) (A1 ?_);refine A2 E (C3 (cs:=[D3,D3,D3,D3,D3,D3,D3,D3]) kR E λb2=>?_);refine A0 (D0 0 2) (A1 ?_);refine A2 E (C4 (e:=5) (sz:=1) (z:=[zu8,zu8,zu8,zu8,zu8,zu8]) kR (eS E (eS E (eS E (eS E (eS E (eS E e0)))))) (bdS 0 1 E qR (bdS 1 1 E qR (bdS 2 1 E qR (bdS 3 1 E qR (bdS 4 1 E qR (bdS 5 1 E qR bd0)))))) E λb3=>?_);refine A2 E (A3E E kR Cv E ?_);refine mv_ ?_;refine A2 E (C4 (e:=22) (sz:=1) (z:=[vS,vS]) kR (eS E (eS E e0)) (bdS 0 1 E qR (bdS 1 1 E qR bd0)) E λb6=>?_);refine C6 (aS E a0) kR (A4q _ [[115,101,99,114,101,116],ws] _ (B1X.of (Cr (n:=2) m0 qR) E (.cons qD (Cr (n:=6) (cs:=nums .u8 [115,101,99,114,101,116]) Ce qR) (.cons hv.lt (hv.rd.mono qS) .nil))) (by simp;omega) qM (mA h0) (mA h1)) E ?_;rintro r7 M7 J7 ⟨rfl,h7⟩;refine C6 (aS E a0) kR (A22 _ _ _ (A0J (h7.rd qS) (A1V _).symm E) (A8X _) (by rw [A1V];decide)) E ?_;rintro r8 M8 J8 ⟨rfl,rfl,hq8⟩;have hs8:Sc r8 (B09 ws):=A8Y hq8 qM;have hz8:=hs8;obtain ⟨s,rfl,s8,s32,sv⟩:=hs8;refine A2 E (A5 (vs:=nums .u32 s) E E E (by rw [nums_len,s8];kernel_rfl) (by rw [nums_len,s8];rfl) E7 Cv ?_);refine A0 (D1 2) (A9 ?_);exact ⟨_,[],[],A1l (n:=8) E E kR Ce (by rw [nums_len];omega),Aa _,by simp,E,E,hz8⟩
theorem A4T(vr vp vm:Value)(wr wp wm:LN)(A:Mem)(hr:By A vr wr)(hp:By A vp wp)(hm:By A vm wm)(hG:GlS A):FnX prog 116 [vr,vp,vm] [] A λr M J=>M=[]∧J=[]∧Sc r (A7j wr wp wm):=by haveI:=hr.cel;haveI:=hp.cel;haveI:=hm.cel;have hrl:=hr.len;have hpl:=hp.len;have hml:=hm.len;obtain ⟨⟨ge0,gf0,h0⟩,⟨ge1,gf1,h1⟩⟩:=hG;refine Cn (N:=15) func116 E E E λw=>?_;refine A8 (D5 0 1 2) (A1 ?_);refine A2 E (C3 (cs:=[D3,D3,D3,D3,D3,D3,D3,D3]) kR E λb6=>?_);refine A0 (D7 0 1 2 6) (A1 ?_);refine A2 E (C4 (e:=5) (sz:=1) (z:=[zu8,zu8,zu8,zu8,zu8,zu8,zu8,zu8,zu8]) kR (eS E (eS E (eS E (eS E (eS E (eS E (eS E (eS E (eS E e0))))))))) (bdS 0 1 E qR (bdS 1 1 E qR (bdS 2 1 E qR (bdS 3 1 E qR (bdS 4 1 E qR (bdS 5 1 E qR (bdS 6 1 E qR (bdS 7 1 E qR (bdS 8 1 E qR bd0))))))))) E λb7=>?_);refine A2 E (A3E E kR Cv E ?_);refine mv_ (mv_ (mv_ ?_));refine A2 E (C4 (e:=22) (sz:=1) (z:=[vS,vS,vS,vS]) kR (eS E (eS E (eS E (eS E e0)))) (bdS 0 1 E qR (bdS 1 1 E qR (bdS 2 1 E qR (bdS 3 1 E qR bd0)))) E λb12=>?_);refine C6 (aS E a0) kR (A4q _ [[99,104,97,108,108,101,110,103,101],wr,wp,wm] _ (B1X.of (Cr (n:=4) m0 qR) E (.cons qD (Cr (n:=9) (cs:=nums .u8 [99,104,97,108,108,101,110,103,101]) Ce qR) (.cons hr.lt (hr.rd.mono qS) (.cons hp.lt (hp.rd.mono qS) (.cons hm.lt (hm.rd.mono qS) .nil))))) (by simp;omega) qM (mA h0) (mA h1)) E ?_;rintro r13 M13 J13 ⟨rfl,h13⟩;refine C6 (aS E a0) kR (A22 _ _ _ (A0J (h13.rd qS) (A1V _).symm E) (A8X _) (by rw [A1V];decide)) E ?_;rintro r14 M14 J14 ⟨rfl,rfl,hq14⟩;have hs14:Sc r14 (A7j wr wp wm):=A8Y hq14 qM;have hz14:=hs14;obtain ⟨s,rfl,s8,s32,sv⟩:=hs14;refine A2 E (A5 (vs:=nums .u32 s) E E E (by rw [nums_len,s8];kernel_rfl) (by rw [nums_len,s8];rfl) E7 Cv ?_);refine A0 (D1 6) (A9 ?_);exact ⟨_,[],[],A1l (n:=8) E E kR Ce (by rw [nums_len];omega),Aa _,by simp,E,E,hz14⟩
theorem A90(v:Value)(ws:LN)(A:Mem)(hv:By A v ws)(hG:GlS A):FnX prog 81 [v] [] A λr M J=>M=[]∧By J r (A8r ws):=by haveI:=hv.cel;have hvl:=hv.len;refine Co (N:=9) func81 E E E λw_=>?_;refine A8 (D1 0) (A1 (as_ (A0 (D1 0) (A1 ?_))));refine C6 a0 kR (A8V _) E ?_;rintro r3 M3 J3 ⟨rfl,rfl,h3⟩;refine mv_ ?_;refine C6 (aS E a0) kR (A9Z v ws _ (hv.mono qS) qO hG.up) E ?_;rintro r5 M5 J5 ⟨rfl,rfl,h5⟩;refine D8 (aS E a0) kR (A23 _ _ h5 _) E ?_;refine C6 (aS E (aS E a0)) kR (A6H _ pS (P7 (B09 ws) 32) h3 (L9 _ _) (A6J _ _) _) E ?_;rintro r7 M7 J7 ⟨rfl,rfl,h7⟩;rw [C0H (B3V _)] at h7;refine C6 (aS E a0) kR ((A6I _ _ h7 _).frz0) E ?_;rintro r8 M8 J8 ⟨rfl,h8⟩;haveI:=h8.cel;refine as_ (A0 (D1 2) (A9 ?_));exact ⟨_,[],[],H2 E E,Fit.nil,E,B7u h8 (A6P _).symm (B7j _) (by rw [A6P];decide) qS⟩
theorem C3n(v vm:Value)(ws wm:LN)(A:Mem)(hv:By A v ws)(hm:By A vm wm)(hG:GlS A):FnX prog 78 [v,vm] [] A λr M J=>J=[]∧Sl 1 r 64 (nums .u8 (B3U ws wm)) M:=by
 haveI:=hv.cel;haveI:=hm.cel;have hvl:=hv.len;have hml:=hm.len;have hG0:=hG;obtain ⟨⟨ge0,gf0,h0⟩,⟨ge1,gf1,h1⟩⟩:=hG;have hG:=hG0;refine Cn (N:=34) func78 E E E λw=>?_;refine A8 (D0 0 1) (A1 (as_ (A0 (D0 0 1) (A1 ?_))));refine A2 E (C4 (e:=5) (sz:=1) (z:=[zu8,zu8,zu8,zu8,zu8]) kR (eS E (eS E (eS E (eS E (eS E e0))))) (bdS 0 1 E qR (bdS 1 1 E qR (bdS 2 1 E qR (bdS 3 1 E qR (bdS 4 1 E qR bd0))))) E λb8=>?_);refine A2 E (A3E E kR Cv E ?_);refine mv_ (mv_ ?_);refine A2 E (C4 (e:=22) (sz:=1) (z:=[vS,vS,vS]) kR (eS E (eS E (eS E e0))) (bdS 0 1 E qR (bdS 1 1 E qR (bdS 2 1 E qR bd0))) E λb12=>?_);refine C6 (aS E a0) kR (A4q _ [[110,111,110,99,101],ws,wm] _ (B1X.of (Cr (n:=3) m0 qR) E (.cons qD (Cr (n:=5) (cs:=nums .u8 [110,111,110,99,101]) Ce qR) (.cons hv.lt (hv.rd.mono qS) (.cons hm.lt (hm.rd.mono qS) .nil)))) (by simp;omega) qM (mA h0) (mA h1)) E ?_;rintro r13 M13 J13 ⟨rfl,h13⟩;refine C6 (aS E a0) kR (A22 _ _ _ (A0J (h13.rd qS) (A1V _).symm E) (A8X _) (by rw [A1V];decide)) E ?_;rintro r14 M14 J14 ⟨rfl,rfl,hq14⟩;have hs14:Sc r14 (B8W ws wm):=A8Y hq14 qM;have hz14:=hs14;obtain ⟨s,rfl,s8,s32,sv⟩:=hs14;refine A2 E (C3 (cs:=[D3,D3,D3,D3,D3,D3,D3,D3]) kR E λb5=>?_);refine A2 E (A5 (vs:=nums .u32 s) E E E (by rw [nums_len,s8];kernel_rfl) (by rw [nums_len,s8];rfl) E7 Cv ?_);refine A0 (D5 0 1 5) ?_;refine C9 [0,1,2,3,4,5] [(1,1),(0,2),(2,2),(3,2),(4,2),(5,0)] kR kR λhs=>?_;refine fR_ E (H0 (n:=8) (cs:=nums .u32 s) E kR Ce (by rw [nums_len];omega)) ?_;refine G5 E a0 kR (A8V _) E ?_;rintro r15 M15 J15 ⟨rfl,rfl,h15⟩;refine N3 E (aS E a0) kR (A23 _ _ hz14 _) E ?_;refine G5 E (aS E (aS E a0)) kR (A6H _ pS (P7 (B8W ws wm) 32) h15 (L9 _ _) (A6J _ _) _) E ?_;rintro r18 M18 J18 ⟨rfl,rfl,h18⟩;rw [C0H (B3W _ _)] at h18;refine G5 E (aS E a0) kR (A6I _ _ h18 _) E ?_;rintro r19 M19 J19 ⟨rfl,h19⟩;haveI:=h19.cel;replace h19:Sl 1 r19 32 (nums .u8 (rB ws wm)) M19:=h19;refine fA_ E E (E4 (D7 0 1 5 6) ?_);refine C9 (.range 12) [(0,0),(1,0),(3,0),(5,0),(8,1),(2,3),(4,3),(6,3),(7,3),(9,3),(10,3),(11,4),(12,2)] kR kR λhs=>?_;refine fM_ E E (fM_ E E (fM_ E E (fm_ ?_)));refine fR_ E (H0 (n:=8) (cs:=nums .u32 s) E kR Ce (by rw [nums_len];omega)) ?_
 refine N5 [⟨2,22,λv B R=>B=[]∧By R v (A8r ws)⟩,⟨4,24,λv B _=>B=[]∧Sc v (A7j (rB ws wm) (A8r ws) wm)⟩,⟨6,26,λv B _=>B=[]∧Sc v (B09 ws)⟩,⟨7,27,λv B _=>B=[]∧Sc v (A7j (rB ws wm) (A8r ws) wm*B09 ws%lN)⟩,⟨9,29,λv B _=>B=[]∧Sc v (sN ws wm)⟩,⟨10,30,λv B _=>B=[]∧v=.agg (nums .u8 (P7 (sN ws wm) 32)).toArray⟩,⟨11,7,λv B _=>∃b,v=(vP b)∧B=[(b,blk [zu8,zu8,zu8,zu8,zu8,zu8,zu8,zu8,zu8,zu8,zu8,zu8,zu8,zu8,zu8,zu8,zu8,zu8,zu8,zu8,zu8,zu8,zu8,zu8,zu8,zu8,zu8,zu8,zu8,zu8,zu8,zu8] 198)]⟩]
  (A7 (λ_ _ _ _ hR h=>⟨h.1,h.2.mono hR⟩) (A7 gM (A7 gM (A7 gM (A7 gM (A7 gM (A7 gM (K5)))))))) nd_ nd_ dl_
  (gO ?_ (gO ?_ (gO ?_ (gO ?_ (gO ?_ (gO ?_ (gO ?_ (K5)))))))) ?_
 . intro _ _ _ _ hb _;refine D9 (aS E a0) kR (A90 v ws _ (hv.mono λx hx=>hb _ (qS x hx)) (hG.sub λx hx=>hb _ (mA hx))) E ?_;rintro r M1 J1 ⟨rfl,hh⟩;exact ⟨_,E,E,hh.mono λx hx=>by simp [hx]⟩
 . intro _ _ _ _ hb ha;have g2:=gx 0 ha;dsimp only at g2;obtain ⟨-,k2⟩:=g2;refine D9 (aS E (aS E (aS E (a0)))) kR (A4T _ _ _ (rB ws wm) (A8r ws) wm _ (B7u h19 (B3X _ _).symm (B7j _) (by rw [B3X];decide) (λx hx=>hb _ (qS x hx))) k2 (hm.mono λx hx=>hb _ (qS x hx)) (hG.sub λx hx=>hb _ (mA hx))) E ?_;rintro r M1 J1 ⟨rfl,rfl,hh⟩;exact ⟨_,E,E,hh⟩
 . intro _ _ _ _ hb _;refine D9 (aS E (a0)) kR (A9Z v ws _ (hv.mono λx hx=>hb _ (qS x hx)) qO (hG.sub λx hx=>hb _ (mA hx))) E ?_;rintro r M1 J1 ⟨rfl,rfl,hh⟩;exact ⟨_,E,E,hh⟩
 . intro _ _ _ _ _ ha;have g4:=gx 1 ha;dsimp only at g4;have g6:=gx 2 ha;dsimp only at g6;obtain ⟨-,k4⟩:=g4;obtain ⟨-,k6⟩:=g6;refine D9 (aS E (aS E (a0))) kR (B7m _ _ _ _ k4 k6 (B3V _) _) E ?_;rintro r M1 J1 ⟨rfl,rfl,hh⟩;exact ⟨_,E,E,hh⟩
 . intro _ _ _ _ _ ha;have g7:=gx 3 ha;dsimp only at g7;obtain ⟨-,k7⟩:=g7;refine D9 (aS E (aS E (a0))) kR (A71 _ _ _ _ k7 hz14 (Ad _ A74) (B3W _ _) _) E ?_;rintro r M1 J1 ⟨rfl,rfl,hh⟩;exact ⟨_,E,E,hh⟩
 . intro _ _ _ _ _ ha;have g9:=gx 4 ha;dsimp only at g9;obtain ⟨-,k9⟩:=g9;exact R8 (aS E a0) kR (A23 _ _ k9 _) E ⟨_,E,E,E⟩
 .
  intros
  exact C3 (cs:=[zu8,zu8,zu8,zu8,zu8,zu8,zu8,zu8,zu8,zu8,zu8,zu8,zu8,zu8,zu8,zu8,zu8,zu8,zu8,zu8,zu8,zu8,zu8,zu8,zu8,zu8,zu8,zu8,zu8,zu8,zu8,zu8]) kR E λb=>⟨_,E,b,E,E⟩
 intro vs bs Jn0 hφ;have g2:=gy 0 hφ;have g4:=gy 1 hφ;have g6:=gy 2 hφ;have g7:=gy 3 hφ;have g9:=gy 4 hφ;have g10:=gy 5 hφ;have g11:=gy 6 hφ;dsimp only at g2 g4 g6 g7 g9 g10 g11;clear hφ;dsimp only [V0,Q6,List.map,List.flatten,Cy,Cw];generalize bs 2=B22,bs 4=B24,bs 6=B26,bs 7=B27,bs 9=B29,bs 10=B30,bs 11=B7,vs 2=u22,vs 4=u24,vs 6=u26,vs 7=u27,vs 9=u29,vs 10=u30,vs 11=u7 at *;obtain ⟨rfl,-⟩:=g2;obtain ⟨rfl,-⟩:=g4;obtain ⟨rfl,-⟩:=g6;obtain ⟨rfl,-⟩:=g7;obtain ⟨rfl,-⟩:=g9;obtain ⟨rfl,rfl⟩:=g10;obtain ⟨b7,rfl,rfl⟩:=g11;dsimp only [List.append_eq,Cw,Cy];refine G3 E E E (A5 (vs:=nums .u8 (P7 (sN ws wm) 32)) E E E (by rw [nums_len,L9];kernel_rfl) (by rw [nums_len,L9];rfl) E7 Cv ?_);refine E4 (D0 6 7) (A1 (mv_ ?_));refine lQ_ (B2j (sz:=1) (e:=5) (n:=32) E kR kR) ?_;refine A2 E (G6 (e:=5) (sz:=1) (by_:=1) (n:=32) (m:=32) E E kR E h19 (Cr (n:=32) (cs:=nums .u8 (P7 (sN ws wm) 32)) Ce (by rw [nums_len,L9])) E7 qP (by unfold maxLen;omega) qO E λv33 B33 hs33=>?_);haveI:=hs33.cel;rw [<- H4] at hs33;refine as_ (A0 (D1 4) (A9 ?_));exact ⟨_,B33,[],H2 E E,Ay _ _,by simp,E,hs33⟩

end Go.Proofs.YtgpjndfgjjlhaaaGreatDoor
namespace Go.Px
open Go.ChangeShapes Go.WideShapes Go.ChangeAt Go.RowKit
structure Byi(R:Mem)(v:Value)(w:List Nat):Prop where
  rd:Rd R 1 v w.length (nums .u8 w)
  lt:∀x∈w,x<256
  len:w.length<=maxLen
theorem Byi.mono{R R':Mem}{v:Value}{w:List Nat}(h:Byi R v w)(hR:∀x,x∈R->x∈R'):Byi R' v w:=⟨h.rd.mono hR,h.lt,h.len⟩
variable{v:Value}{w:List Nat}
theorem By.i{R:Mem}(h:By R v w):Byi R v w:=⟨h.rd,h.lt,h.max⟩
theorem Byi.by{R:Mem}(h:Byi R v w)(hl:w.length<=16777216):By R v w:=⟨h.rd,h.lt,hl⟩
theorem Byi.cel{R:Mem}{v:Value}{w:List Nat}(h:Byi R v w):Cel v [v]:=h.rd.cel
theorem Byi.one{R:Mem}{v:Value}{w:List Nat}(h:Byi R v w):v.oneCell'=true:=h.rd.one
section
variable{H:Type}{enc:TypeId×Value->H}{P:Program}{w:World}{spare:Nat->Bool}{held:Bool}{fuel:Nat}{t e:TypeId}{cs:List Value}{x:DataW H×List MemPlace}
end
end Go.Px

namespace Go.Proofs.YtgpjndfgjjlhaaaGreatDoor
open Go.Px
variable{R:Mem}{v:Value}{w:LN}
theorem C5q(h:By R v w){k:Nat}(hk:k<=w.length):By R (vHi k v) (w.take k):=⟨by
  have h1:=h.rd.hiV k hk;rw [Nat.mul_one,<- A1v] at h1;rw [Bj,Nat.min_eq_left hk]
  exact h1,λx hx=>h.lt x (Bz hx),by rw [Bj];have:=h.len;omega⟩
theorem C5r(h:By R v w){k:Nat}(hk:k<=w.length):By R (vLo k 1 v) (w.drop k):=⟨by
  have h1:=h.rd.loV k hk;rw [Nat.mul_one,<- A0Z] at h1;rw [Bg]
  exact h1,λx hx=>h.lt x (List.mem_of_mem_drop hx),by rw [Bg];have:=h.len;omega⟩
variable{p m:LN}
theorem B4e{s:LN}(h:¬s.length=64):A73 p m s=false:=by unfold A73;rw [decide_eq_false h,Bool.false_and]
theorem C0M{s:LN}(h:U4 p=none):A73 p m s=false:=by unfold A73;rw [h,B7r,Bool.and_false]
theorem C0N{s:LN}(h:U4 (s.take 32)=none):A73 p m s=false:=by unfold A73;rw [h,B7s,Bool.and_false]
theorem C3o{s:LN}{a r:Pt}(h1:U4 p=some a)(h2:U4 (s.take 32)=some r)(h:¬P7 (bv (s.drop 32)%lN) 32=s.drop 32):A73 p m s=false:=by unfold A73;rw [h1,h2,A72,decide_eq_false h,Bool.false_and,Bool.and_false]
theorem B80{s:LN}{a r:Pt}(h0:s.length=64)(h1:U4 p=some a)(h2:U4 (s.take 32)=some r)(h:P7 (bv (s.drop 32)%lN) 32=s.drop 32):A73 p m s=B08 (A05 pS (bv (s.drop 32)%lN)) (A8q d2N r (A05 a (A7j (s.take 32) p m))):=by unfold A73;rw [decide_eq_true h0,h1,h2,A72,decide_eq_true h,Bool.true_and,Bool.true_and]
theorem A91{V:Value}{b:Bool}(h:(∃P,U4 w=some P∧b=true∧FeP V P)∨(U4 w=none∧b=false∧FeP V pZ)):∃P,FeP V P∧((U4 w=some P∧b=true)∨(U4 w=none∧b=false)):=by
  rcases h with ⟨P,h1,h2,h3⟩|⟨h1,h2,h3⟩
  . exact ⟨P,h3,.inl ⟨h1,h2⟩⟩
  . exact ⟨_,h3,.inr ⟨h1,h2⟩⟩
theorem A92(V:Value)(P:Pt)(n:Nat)(hP:FeP V P)(hn:n<lN)(A:Mem):FnX prog 113 [V,.agg (nums .u8 (P7 n 32)).toArray] [] A λr M J=>M=[]∧J=[]∧FeP r (A05 P n):=by have h:=A6H V P (P7 n 32) hP (L9 _ _) (A6J _ _) A;rwa [C0H hn] at h
theorem B4f(h:By R v w)(hp:0<w.length):∃(b o cap:Nat) (cs:List Value) (e:TypeId) (fr:Nat×Nat),v=.slice (some ⟨b,o,none⟩) w.length cap∧(b,Obj.cells cs.toArray e fr)∈R∧∀j u,(nums .u8 w)[j]? = some u->cs[o+j]? = some u:=by
  obtain ⟨p,cap,hv,h1,h2,h3|⟨b,o,cs,e,fr,hb,hm,hg⟩⟩:=h.rd
  . omega
  . subst hb;exact ⟨b,o,cap,cs,e,fr,hv,hm,hg⟩
theorem C0O(vp vm vs:Value)(wp wm ws:LN)(A:Mem)(hp:By A vp wp)(hm:By A vm wm)(hsg:By A vs ws)(hG:GlS A):FnV prog 127 [vp,vm,vs] A (.bool (A73 wp wm ws)):=by
  haveI:=hp.cel;haveI:=hm.cel;haveI:=hsg.cel;have hpl:=hp.len;have hml:=hm.len;have hsl:=hsg.len;refine Cn (N:=64) func127 E E E λw=>?_;refine A8 (D5 0 1 2) (A1 (as_ (A0 (D5 0 1 2) (A3 (A1 (mv_ ?_))))));refine lQ_ (F8 (sz:=1) E kR hsg.rd) ?_;refine lQ_ (E3 E E E) (A0 (D7 0 1 2 17) ?_);refine C2 E ?_ ?_<;>intro hc
  .
    have h64:¬ws.length=64:=by simp at hc;omega
    refine A1 (as_ (A0 (D1 6) (A9 (tr ?_))));exact ⟨_,[],[],H2 E E,Aa _,by simp,by rw [B4e h64],E,E⟩
  .
    have h64:ws.length=64:=by simp at hc;omega
    have hr:=C5q hsg (show 32<=ws.length by omega)
    obtain ⟨vr,hvr⟩:∃vr,vHi 32 vs=vr:=⟨_,E⟩
    rw [hvr] at hr;haveI:=hr.cel;have hl:=C5r hsg (show 32<=ws.length by omega)
    obtain ⟨vl,hvl⟩:∃vl,vLo 32 1 vs=vl:=⟨_,E⟩
    rw [hvl] at hl;have hll:(ws.drop 32).length=32:=by rw [Bg];omega
    obtain ⟨lb,lo,lcap,lcs,le_,lfr,rfl,hlm,hlg⟩:=B4f hl qO;haveI:=hl.cel;refine A4 (nx (D5 0 1 2) (A1 (mv_ ?_)));refine C6 (aS E a0) kR (B4a vp wp _ (hp.mono qS)) E ?_;rintro r20 M20 J20 ⟨rfl,rfl,VA,bA,rfl,hA⟩;obtain ⟨PA,hPA,hAb⟩:=A91 hA;have hPA0:=hPA;obtain ⟨xspa,rfl,pa0,pa1,pa2,pa3,pa4,pa5,pa6,pa7,pa8,pa9,pa10,pa11,pa12,pa13,pa14,pa15,pa16,pa17,pa18,pa19,rfl,hPAX,hPAY,hPAZ,hPAT⟩:=hPA;dsimp only [nums,List.map];refine mV_ E (lQ_ (A0x E) (lQ_ (A0n E) ?_));refine A2 E (C3 (cs:=[C0,C0,C0,C0,C0,C0,C0,C0,C0,C0,C0,C0,C0,C0,C0,C0,C0,C0,C0,C0]) kR E λb7=>?_);refine A2 E (A5 E E Cf kR A33 A34 Cv ?_);refine as_ (A0 (E9 0 1 2 7 8) (A1 (mv_ ?_)));refine lQ_ (hvr▸A3I (sz:=1) (a:=32) E E kR E hsg.rd qO) ?_;refine C6 (aS E a0) kR (B4a vr (ws.take 32) _ (hr.mono qS)) E ?_;rintro r26 M26 J26 ⟨rfl,rfl,VR,bR,rfl,hR⟩;obtain ⟨PR,hPR,hRb⟩:=A91 hR;have hPR0:=hPR;obtain ⟨xspr,rfl,pr0,pr1,pr2,pr3,pr4,pr5,pr6,pr7,pr8,pr9,pr10,pr11,pr12,pr13,pr14,pr15,pr16,pr17,pr18,pr19,rfl,hPRX,hPRY,hPRZ,hPRT⟩:=hPR;dsimp only [nums,List.map];refine mV_ E (lQ_ (A0x E) (lQ_ (A0n E) ?_));refine A2 E (C3 (cs:=[C0,C0,C0,C0,C0,C0,C0,C0,C0,C0,C0,C0,C0,C0,C0,C0,C0,C0,C0,C0]) kR E λb9=>?_);refine A2 E (A5 E E Cf kR A33 A34 Cv ?_);refine as_ (A0 (N1 0 1 2 7 8 9 10) (A1 (mv_ ?_)));refine lQ_ (hvl▸Z0 (sz:=1) (a:=32) E E kR E hsg.rd qO) ?_;refine C6 (aS E a0) kR (A22 _ (ws.drop 32) _ (hl.rd.mono qS) hl.lt qO) E ?_;rintro r31 M31 J31 ⟨rfl,rfl,hq⟩;have hz:=hq;obtain ⟨s,rfl,s8,s32,sv⟩:=hq;refine A2 E (C3 (cs:=[D3,D3,D3,D3,D3,D3,D3,D3]) kR E λb11=>?_);refine A2 E (A5 (vs:=nums .u32 s) E E E (by rw [nums_len,s8];kernel_rfl) (by rw [nums_len,s8];rfl) E7 Cv ?_);refine A0 (V4 0 1 2 7 8 9 10 11) (A1 ?_);refine lQ_ (H0 (n:=8) (cs:=nums .u32 s) E kR Ce (by rw [nums_len];omega)) ?_;refine D8 (aS E a0) kR (A23 _ _ hz _) E ?_;refine A2 E (C3 (cs:=[zu8,zu8,zu8,zu8,zu8,zu8,zu8,zu8,zu8,zu8,zu8,zu8,zu8,zu8,zu8,zu8,zu8,zu8,zu8,zu8,zu8,zu8,zu8,zu8,zu8,zu8,zu8,zu8,zu8,zu8,zu8,zu8]) kR E λb12=>?_);refine A2 E (A5 (vs:=nums .u8 (P7 (bv (ws.drop 32)%lN) 32)) E E E (by rw [nums_len,L9];kernel_rfl) (by rw [nums_len,L9];rfl) E7 Cv ?_);refine A0 (V4 0 1 2 7 8 9 10 12) (A3 ?_)
    have h3:(U4 wp=none∧bA=false)∨((U4 wp=some PA∧bA=true)∧(U4 (ws.take 32)=none∧bR=false))∨((U4 wp=some PA∧bA=true)∧(U4 (ws.take 32)=some PR∧bR=true)):=by
      rcases hAb with h|h
      . rcases hRb with h2|h2
        . exact .inr (.inr ⟨h,h2⟩)
        . exact .inr (.inl ⟨h,h2⟩)
      . exact .inl h
    clear hAb hRb;rcases h3 with ⟨hA1,rfl⟩|⟨⟨hA1,rfl⟩,hR1,rfl⟩|⟨⟨hA1,rfl⟩,hR1,rfl⟩
    . refine C9 (.range 14) (zp 0 [0,0,0,0,0,0,0,1,0,0,0,1,0,0]) kR kR λhs=>?_;refine fM_ E E (fQ_ E (V7 E) (fm_ ?_));refine L0 hs ?_;refine L0 hs ?_;refine fQ_ E (H6 E E) (fm_ ?_);refine W3 hs ?_;refine L0 hs ?_;refine L0 hs ?_;refine L0 hs ?_;refine W3 hs ?_;refine L0 hs ?_;refine fQ_ E (H6 E E) (E4 (N1 0 1 2 7 9 12 47) ?_);refine E2 E ?_;refine A1 (as_ (A0 (D1 6) (A9 (tr ?_))));exact ⟨_,[],[],H2 E E,Aa _,by simp,by rw [C0M hA1],E,E⟩
    . refine C9 (.range 14) (zp 0 [0,0,0,0,0,0,0,1,0,0,0,1,0,0]) kR kR λhs=>?_;refine fM_ E E (fQ_ E (V7 E) (fM_ E E (fG_ E qm_ (fG_ E (V7 E) (fQ_ E (E8 E E) (fm_ ?_))))));refine W3 hs ?_;refine L0 hs ?_;refine L0 hs ?_;refine L0 hs ?_;refine W3 hs ?_;refine L0 hs ?_;refine fQ_ E (H6 E E) (E4 (N1 0 1 2 7 9 12 47) ?_);refine E2 E ?_;refine A1 (as_ (A0 (D1 6) (A9 (tr ?_))));exact ⟨_,[],[],H2 E E,Aa _,by simp,by rw [C0N hR1],E,E⟩
    .
      refine C9 (.range 14) (zp 0 [0,0,0,0,0,0,0,1,0,0,0,1,0,0]) kR kR λhs=>?_;refine fM_ E E (fQ_ E (V7 E) (fM_ E E (fG_ E qm_ (fG_ E (V7 E) (fQ_ E (E8 E E) (fm_ ?_))))));refine fH_ E (H0 (n:=32) (cs:=nums .u8 (P7 (bv (ws.drop 32)%lN) 32)) E kR Ce (by rw [nums_len,L9])) ?_;refine fG_ E qm_ ?_;refine fG_ E (hvl▸Z0 (sz:=1) (a:=32) E E kR E hsg.rd qO) ?_;refine fG_ E (B7t (k:=.u8) (n:=32) E kR qO) ?_;refine fH_ E (H7 (n:=32) (vs:=nums .u8 (ws.drop 32)) E kR (mA hlm) ⟨by rw [nums_len];omega,hlg⟩) ?_;refine fG_ E (C0F (n:=32) (k:=.u8) E E kR kR (L9 _ _) qO) ?_;refine fQ_ E (E8 E E) (E4 (N1 0 1 2 7 9 12 47) ?_);refine C2 E ?_ ?_<;>intro hc
      .
        have hne:¬P7 (bv (ws.drop 32)%lN) 32=ws.drop 32:=by simpa using hc
        refine A1 (as_ (A0 (D1 6) (A9 (tr ?_))));exact ⟨_,[],[],H2 E E,Aa _,by simp,by rw [C3o hA1 hR1 hne],E,E⟩
      .
        have hne:P7 (bv (ws.drop 32)%lN) 32=ws.drop 32:=by simpa using hc
        refine A4 (nx (G9 0 1 2 7 9 12) ?_);refine C9 [0,1,2,3] [(1,1),(0,3),(2,3),(3,4),(4,2)] kR kR λhs=>?_;refine fR_ E (H0 (n:=32) (cs:=nums .u8 (P7 (bv (ws.drop 32)%lN) 32)) E kR Ce (by rw [nums_len,L9])) ?_
        refine N5 [⟨0,48,λv B _=>B=[]∧FeP v pS⟩,⟨2,50,λv B _=>B=[]∧FeP v (A05 pS (bv (ws.drop 32)%lN))⟩,⟨3,13,λv B _=>∃b,v=(vP b)∧B=[(b,blk [C0,C0,C0,C0,C0,C0,C0,C0,C0,C0,C0,C0,C0,C0,C0,C0,C0,C0,C0,C0] 195)]⟩]
          gA nd_ nd_ dl_
          (gO ?_ (gO ?_ (gO ?_ (K5)))) ?_
        .
          intros
          refine D9 (a0) kR (A8V _) E ?_;rintro r M1 J1 ⟨rfl,rfl,hh⟩;exact ⟨_,E,E,hh⟩
        . intro _ _ _ _ _ ha;have g0:=gx 0 ha;dsimp only at g0;obtain ⟨-,k0⟩:=g0;refine D9 (aS E (aS E (a0))) kR (A92 _ pS (bv (ws.drop 32)%lN) k0 (Ad _ A74) _) E ?_;rintro r M1 J1 ⟨rfl,rfl,hh⟩;exact ⟨_,E,E,hh⟩
        .
          intros
          exact C3 (cs:=[C0,C0,C0,C0,C0,C0,C0,C0,C0,C0,C0,C0,C0,C0,C0,C0,C0,C0,C0,C0]) kR E λb=>⟨_,E,b,E,E⟩
        intro vs bs Jn0 hφ;have g0:=gy 0 hφ;have g2:=gy 1 hφ;have g3:=gy 2 hφ;dsimp only at g0 g2 g3;clear hφ;dsimp only [V0,Q6,List.map,List.flatten,Cy,Cw];generalize bs 0=B48,bs 2=B50,bs 3=B13,vs 0=u48,vs 2=u50,vs 3=u13 at *;obtain ⟨rfl,-⟩:=g0;obtain ⟨rfl,hL⟩:=g2;obtain ⟨b13,rfl,rfl⟩:=g3;have hL0:=hL;obtain ⟨xspl,rfl,pl0,pl1,pl2,pl3,pl4,pl5,pl6,pl7,pl8,pl9,pl10,pl11,pl12,pl13,pl14,pl15,pl16,pl17,pl18,pl19,rfl,hLX,hLY,hLZ,hLT⟩:=hL;dsimp only [nums,List.map];dsimp only [List.append_eq,Cw,Cy];refine G3 E E E (A5 E E Cf kR A33 A34 Cv ?_);refine E4 (G9 0 1 2 7 9 13) ?_;refine C9 (.range 11) (zp 0 [1,1,0,0,0,0,3,3,3,3,4,2]) kR kR λhs=>?_;refine fR_ E (qw_ 20) ?_;refine fR_ E (qw_ 20) ?_;refine fm_ ?_;refine fQ_ E (hvr▸A3I (sz:=1) (a:=32) E E kR E hsg.rd qO) ?_;refine fM_ E E (fm_ ?_)
        refine N5 [⟨6,57,λv B _=>B=[]∧Sc v (A7j (ws.take 32) wp wm)⟩,⟨7,58,λv B _=>B=[]∧v=.agg (nums .u8 (P7 (A7j (ws.take 32) wp wm) 32)).toArray⟩,⟨8,59,λv B _=>B=[]∧FeP v (A05 PA (A7j (ws.take 32) wp wm))⟩,⟨9,60,λv B _=>B=[]∧FeP v (A8q d2N PR (A05 PA (A7j (ws.take 32) wp wm)))⟩,⟨10,14,λv B _=>∃b,v=(vP b)∧B=[(b,blk [C0,C0,C0,C0,C0,C0,C0,C0,C0,C0,C0,C0,C0,C0,C0,C0,C0,C0,C0,C0] 195)]⟩]
          gA nd_ nd_ dl_
          (gO ?_ (gO ?_ (gO ?_ (gO ?_ (gO ?_ (K5)))))) ?_
        . intro _ _ _ _ hb _;refine D9 (aS E (aS E (aS E (a0)))) kR (A4T _ _ _ (ws.take 32) wp wm _ (hr.mono λx hx=>hb _ (qS x hx)) (hp.mono λx hx=>hb _ (qS x hx)) (hm.mono λx hx=>hb _ (qS x hx)) (hG.sub λx hx=>hb _ (mA hx))) E ?_;rintro r M1 J1 ⟨rfl,rfl,hh⟩;exact ⟨_,E,E,hh⟩
        . intro _ _ _ _ _ ha;have g6:=gx 0 ha;dsimp only at g6;obtain ⟨-,k6⟩:=g6;exact R8 (aS E a0) kR (A23 _ _ k6 _) E ⟨_,E,E,E⟩
        . intro vs bs _ _ _ ha;have g7:=gx 1 ha;dsimp only at g7;obtain ⟨-,k7⟩:=g7;refine D9 (vs:=[_,.agg (nums .u8 (P7 (A7j (ws.take 32) wp wm) 32)).toArray]) (aS E (aS (by rw [<- k7];rfl) a0)) kR (A92 _ PA (A7j (ws.take 32) wp wm) hPA0 (C0E _ _ _) _) E ?_;rintro r M1 J1 ⟨rfl,rfl,hh⟩;exact ⟨_,E,E,hh⟩
        . intro _ _ _ _ _ ha;have g8:=gx 2 ha;dsimp only at g8;obtain ⟨-,k8⟩:=g8;refine D9 (aS E (aS E (a0))) kR (C0I _ _ PR _ hPR0 k8 _) E ?_;rintro r M1 J1 ⟨rfl,rfl,hh⟩;exact ⟨_,E,E,hh⟩
        .
          intros
          exact C3 (cs:=[C0,C0,C0,C0,C0,C0,C0,C0,C0,C0,C0,C0,C0,C0,C0,C0,C0,C0,C0,C0]) kR E λb=>⟨_,E,b,E,E⟩
        intro vs bs Jn0 hφ;have g6:=gy 0 hφ;have g7:=gy 1 hφ;have g8:=gy 2 hφ;have g9:=gy 3 hφ;have g10:=gy 4 hφ;dsimp only at g6 g7 g8 g9 g10;clear hφ;dsimp only [V0,Q6,List.map,List.flatten,Cy,Cw];generalize bs 6=B57,bs 7=B58,bs 8=B59,bs 9=B60,bs 10=B14,vs 6=u57,vs 7=u58,vs 8=u59,vs 9=u60,vs 10=u14 at *;obtain ⟨rfl,-⟩:=g6;obtain ⟨rfl,-⟩:=g7;obtain ⟨rfl,-⟩:=g8;obtain ⟨rfl,hU⟩:=g9;obtain ⟨b14,rfl,rfl⟩:=g10;have hU0:=hU;obtain ⟨xspu,rfl,pu0,pu1,pu2,pu3,pu4,pu5,pu6,pu7,pu8,pu9,pu10,pu11,pu12,pu13,pu14,pu15,pu16,pu17,pu18,pu19,rfl,hUX,hUY,hUZ,hUT⟩:=hU;dsimp only [nums,List.map];dsimp only [List.append_eq,Cw,Cy];refine G3 E E E (A5 E E Cf kR A33 A34 Cv ?_);refine E4 (D0 13 14) (A1 ?_);refine lQ_ (qw_ 20) ?_;refine lQ_ (qw_ 20) ?_;refine D8 (aS E (aS E a0)) kR (C0J _ _ _ _ hL0 hU0 _) E ?_;refine as_ (A0 (D1 6) (A9 ?_));exact ⟨_,[],[],H2 E E,Aa _,by simp,by rw [B80 h64 hA1 hR1 hne],E,E⟩

theorem Glb.s{A:Mem}(h:Glb A):GlS A:=⟨h.first,h.round⟩
def H3(s:Ps)(w:LN):Ps:=if s.real then s else B3d s w
def I5(s:Ps)(w:LN):LN:=if s.real then A1L (H5 w 32) else B6R s w
def C0P(s:Ps)(w:LN):LN:=if s.real then A8r (H5 w 32) else B6R s w
def K7(s:Ps)(w u:LN):Ps:=if s.real then s else C0c s w u
def A1g(s:Ps)(w u:LN):LN:=if s.real then x25 (H5 w 32) (H5 u 32) else C2h s w u
def B7x(s:Ps)(w m:LN):Ps:=if s.real then s else B5Z s w λx=>B6T x m
def C3p(s:Ps)(w m:LN):LN:=if s.real then B3U (H5 w 32) m else H5 (B6U s w λx=>B6T x m) 64
theorem C3q(s m:LN):∀x∈B3U s m,x<256:=by
  intro x hx;rcases List.mem_append.1 hx with h|h
  . exact B7j _ x h
  . exact A6J _ _ x h
theorem C3r(v vm:Value)(ws wm:LN)(A:Mem)(hv:By A v ws)(hm:By A vm wm)(hG:GlS A):FnX prog 78 [v,vm] [] A λr M J=>M=[]∧By J r (B3U ws wm) :=
  ((C3n v vm ws wm A hv hm hG).frz0).mono λr M J ⟨h1,h2⟩=>⟨h1,B7u h2 (A9Y _ _).symm (C3q _ _) (by rw [A9Y];decide) λ_ h=>h⟩
theorem B7y(pb:Nat)(s:Ps)(hr:s.real=true)(v:Value)(w:LN)(MP A:Mem)(hP:Prm pb s MP)(hv:By A v w):FnX prog 20 [(vP pb),v] MP A λq M J=>Prm pb s M∧By J q (A1L (H5 w 32)):=by obtain ⟨sv,bt,bm,B,MT,rfl,hby,hT⟩:=hP.ex;haveI:=hv.cel;haveI:=hby.cel;have hvl:=hv.len;refine Co (N:=26) func20 E E E λw_=>?_;refine A8 (D0 0 1) (A1 (aS_ E (A0 (D0 0 1) (A3 (A1 (mV_ E (lQ_ (F0 (e:=72) E E kR) (A0 (D5 0 1 6) ?_))))))));refine C7 E ?_;refine A4 (nx (D0 0 1) (A3 (A1 (mV_ E (lQ_ (F4 E) (lQ_ (qf_ 0 0) ?_))))));refine lQ_ ql_ ?_;refine lQ_ (F6 true E E (eqT (by rw [hr];rfl))) ?_;refine A0 (D5 0 1 11) ?_;refine E2 E ?_;refine A1 (mv_ ?_);refine C6 (aS E (aS E a0)) kR (Y5 v w 32 _ (hv.mono qS) qD) E ?_;rintro r13 M13 J13 ⟨rfl,h13⟩;haveI:=h13.cel;refine C6 (aS E a0) kR (C3m _ _ _ (h13.mono qS)) E ?_;rintro r14 M14 J14 ⟨rfl,h14⟩;haveI:=h14.cel;refine as_ (A0 (D1 4) (A9 (tr ?_)));exact ⟨_,(pb,blk [.int .u8 (md s.real),sv,.int .i64 (((s.n:Nat):Int)),(vP bt)] 72)::(B++MT),[],H2 E E,(Ci (Cj (B:=[_]) qP (Cj qP (Ch qP)))),⟨sv,bt,bm,B,MT,E,hby,hT⟩,h14.mono qS⟩
theorem B4g(pb:Nat)(s:Ps)(hr:s.real=true)(v:Value)(w:LN)(MP A:Mem)(hP:Prm pb s MP)(hv:By A v w)(hG:Glb A):FnX prog 46 [(vP pb),v] MP A λq M J=>Prm pb s M∧By J q (A8r (H5 w 32)):=by obtain ⟨sv,bt,bm,B,MT,rfl,hby,hT⟩:=hP.ex;haveI:=hv.cel;haveI:=hby.cel;have hvl:=hv.len;refine Co (N:=18) func46 E E E λw_=>?_;refine A8 (D0 0 1) (A1 (aS_ E (A0 (D0 0 1) (A3 (A1 (mV_ E (lQ_ (F0 (e:=72) E E kR) (A0 (D5 0 1 6) ?_))))))));refine C7 E ?_;refine A4 (nx (D0 0 1) (A3 (A1 (mV_ E (lQ_ (F4 E) (lQ_ (qf_ 0 0) ?_))))));refine lQ_ ql_ ?_;refine lQ_ (F6 true E E (eqT (by rw [hr];rfl))) ?_;refine A0 (D5 0 1 11) ?_;refine E2 E ?_;refine A1 (mv_ ?_);refine C6 (aS E (aS E a0)) kR (Y5 v w 32 _ (hv.mono qS) qD) E ?_;rintro r13 M13 J13 ⟨rfl,h13⟩;haveI:=h13.cel;refine C6 (aS E a0) kR (A90 _ _ _ (h13.mono qS) hG.s.up) E ?_;rintro r14 M14 J14 ⟨rfl,h14⟩;haveI:=h14.cel;refine as_ (A0 (D1 4) (A9 (tr ?_)));exact ⟨_,(pb,blk [.int .u8 (md s.real),sv,.int .i64 (((s.n:Nat):Int)),(vP bt)] 72)::(B++MT),[],H2 E E,(Ci (Cj (B:=[_]) qP (Cj qP (Ch qP)))),⟨sv,bt,bm,B,MT,E,hby,hT⟩,h14.mono qS⟩
theorem C0Q(pb:Nat)(s:Ps)(hr:s.real=true)(v v2:Value)(w u:LN)(MP A:Mem)(hP:Prm pb s MP)(hv:By A v w)(hu:By A v2 u):FnX prog 51 [(vP pb),v,v2] MP A λq M J=>Prm pb s M∧By J q (x25 (H5 w 32) (H5 u 32)):=by obtain ⟨sv,bt,bm,B,MT,rfl,hby,hT⟩:=hP.ex;haveI:=hv.cel;haveI:=hby.cel;have hvl:=hv.len;haveI:=hu.cel;refine Co (N:=31) func51 E E E λw_=>?_;refine A8 (D5 0 1 2) (A1 (aS_ E (A0 (D5 0 1 2) (A3 (A1 (mV_ E (lQ_ (F0 (e:=72) E E kR) (A0 (D7 0 1 2 8) ?_))))))));refine C7 E ?_;refine A4 (nx (D5 0 1 2) (A3 (A1 (mV_ E (lQ_ (F4 E) (lQ_ (qf_ 0 0) ?_))))));refine lQ_ ql_ ?_;refine lQ_ (F6 true E E (eqT (by rw [hr];rfl))) ?_;refine A0 (D7 0 1 2 13) ?_;refine E2 E ?_;refine A1 (mv_ ?_);refine C6 (aS E (aS E a0)) kR (Y5 v w 32 _ (hv.mono qS) qD) E ?_;rintro r15 M15 J15 ⟨rfl,h15⟩;haveI:=h15.cel;refine mv_ ?_;refine C6 (aS E (aS E a0)) kR (Y5 v2 u 32 _ (hu.mono qS) qD) E ?_;rintro r17 M17 J17 ⟨rfl,h17⟩;haveI:=h17.cel;refine C6 (aS E (aS E a0)) kR (B8Z _ _ _ _ _ (h15.mono qS) (h17.mono qS)) E ?_;rintro r18 M18 J18 ⟨rfl,h18⟩;haveI:=h18.cel;refine as_ (A0 (D1 6) (A9 (tr ?_)));exact ⟨_,(pb,blk [.int .u8 (md s.real),sv,.int .i64 (((s.n:Nat):Int)),(vP bt)] 72)::(B++MT),[],H2 E E,(Ci (Cj (B:=[_]) qP (Cj qP (Ch qP)))),⟨sv,bt,bm,B,MT,E,hby,hT⟩,h18.mono qS⟩
theorem C0R(pb:Nat)(s:Ps)(hr:s.real=true)(v v2:Value)(w u:LN)(MP A:Mem)(hP:Prm pb s MP)(hv:By A v w)(hu:By A v2 u)(hG:Glb A):FnX prog 40 [(vP pb),v,v2] MP A λq M J=>Prm pb s M∧By J q (B3U (H5 w 32) u):=by obtain ⟨sv,bt,bm,B,MT,rfl,hby,hT⟩:=hP.ex;haveI:=hv.cel;haveI:=hby.cel;have hvl:=hv.len;haveI:=hu.cel;refine Co (N:=32) func40 E E E λw_=>?_;refine A8 (D5 0 1 2) (A1 (aS_ E (A0 (D5 0 1 2) (A3 (A1 (mV_ E (lQ_ (F0 (e:=72) E E kR) (A0 (D7 0 1 2 8) ?_))))))));refine C7 E ?_;refine A4 (nx (D5 0 1 2) (A3 (A1 (mV_ E (lQ_ (F4 E) (lQ_ (qf_ 0 0) ?_))))));refine lQ_ ql_ ?_;refine lQ_ (F6 true E E (eqT (by rw [hr];rfl))) ?_;refine A0 (D7 0 1 2 13) ?_;refine E2 E ?_;refine A1 (mv_ ?_);refine C6 (aS E (aS E a0)) kR (Y5 v w 32 _ (hv.mono qS) qD) E ?_;rintro r15 M15 J15 ⟨rfl,h15⟩;haveI:=h15.cel;refine mv_ ?_;refine C6 (aS E (aS E a0)) kR (C3r _ _ _ _ _ (h15.mono qS) (hu.mono qS) hG.s.up) E ?_;rintro r17 M17 J17 ⟨rfl,h17⟩;haveI:=h17.cel;refine as_ (A0 (D1 6) (A9 (tr ?_)));exact ⟨_,(pb,blk [.int .u8 (md s.real),sv,.int .i64 (((s.n:Nat):Int)),(vP bt)] 72)::(B++MT),[],H2 E E,(Ci (Cj (B:=[_]) qP (Cj qP (Ch qP)))),⟨sv,bt,bm,B,MT,E,hby,hT⟩,h17.mono qS⟩
theorem B4h(pb:Nat)(s:Ps)(hr:s.real=false)(v:Value)(w:LN)(MP A:Mem)(hP:Prm pb s MP)(hv:By A v w)(hn:s.ts.length<1048576)(hG:Glb A):FnX prog 46 [(vP pb),v] MP A λq M J=>Prm pb (B3d s w) M∧By J q (B6R s w):=by obtain ⟨sv,bt,bm,B,MT,rfl,hby,hT⟩:=hP.ex;haveI:=hv.cel;haveI:=hby.cel;have hvl:=hv.len;refine Co (N:=18) func46 E E E λw_=>?_;refine A8 (D0 0 1) (A1 (aS_ E (A0 (D0 0 1) (A3 (A1 (mV_ E (lQ_ (F0 (e:=72) E E kR) (A0 (D5 0 1 6) ?_))))))));refine C7 E ?_;refine A4 (nx (D0 0 1) (A3 (A1 (mV_ E (lQ_ (F4 E) (lQ_ (qf_ 0 0) ?_))))));refine lQ_ ql_ ?_;refine lQ_ (F6 false E E (eqF (by rw [hr];decide))) ?_;refine A0 (D5 0 1 11) ?_;refine C7 E ?_;refine A4 (nx (D0 0 1) (A1 (mv_ (mv_ ?_))));refine A2 E (C8 (Mc:=(pb,blk [.int .u8 (md s.real),sv,.int .i64 (((s.n:Nat):Int)),(vP bt)] 72)::(B++MT)) (R:=_) (aS E (aS E a0)) kR qP (A9M pb s hr v w _ _ ⟨sv,bt,bm,B,MT,E,hby,hT⟩ hn (hv.mono qS) hG.up) E ?_);rintro v17 M17 J17 ⟨hP17,h17⟩;haveI:=h17.cel;refine as_ (A0 (D1 4) (A9 ?_));exact ⟨_,M17,[],H2 E E,Ci (Ch qP),hP17,h17.mono qS⟩
theorem A1W(pb:Nat)(s:Ps)(v:Value)(w:LN)(MP A:Mem)(hP:Prm pb s MP)(hn:s.ts.length<1048576)(hv:By A v w)(hG:Glb A):FnX prog 20 [(vP pb),v] MP A λq M J=>Prm pb (H3 s w) M∧By J q (I5 s w):=by
  cases hr:s.real with
  | true=>unfold H3 I5;rw [hr];exact B7y pb s hr v w MP A hP hv
  | false=>unfold H3 I5;rw [hr];exact A9M pb s hr v w MP A hP hn hv hG
theorem B4i(pb:Nat)(s:Ps)(v:Value)(w:LN)(MP A:Mem)(hP:Prm pb s MP)(hn:s.ts.length<1048576)(hv:By A v w)(hG:Glb A):FnX prog 46 [(vP pb),v] MP A λq M J=>Prm pb (H3 s w) M∧By J q (C0P s w):=by
  cases hr:s.real with
  | true=>unfold H3 C0P;rw [hr];exact B4g pb s hr v w MP A hP hv hG
  | false=>unfold H3 C0P;rw [hr];exact B4h pb s hr v w MP A hP hv hn hG
theorem A1h(pb:Nat)(s:Ps)(v v2:Value)(w u:LN)(MP A:Mem)(hP:Prm pb s MP)(hn:s.ts.length+1<1048576)(hv:By A v w)(hu:By A v2 u)(hG:Glb A):FnX prog 51 [(vP pb),v,v2] MP A λq M J=>Prm pb (K7 s w u) M∧By J q (A1g s w u):=by
  cases hr:s.real with
  | true=>unfold K7 A1g;rw [hr];exact C0Q pb s hr v v2 w u MP A hP hv hu
  | false=>unfold K7 A1g;rw [hr];exact B6S pb s hr v v2 w u MP A hP hn hv hu hG
theorem C0S(pb:Nat)(s:Ps)(v v2:Value)(w m:LN)(MP A:Mem)(hP:Prm pb s MP)(hn:s.ts.length<1048576)(hv:By A v w)(hm:By A v2 m)(hG:Glb A):FnX prog 40 [(vP pb),v,v2] MP A λq M J=>Prm pb (B7x s w m) M∧By J q (C3p s w m):=by
  cases hr:s.real with
  | true=>unfold B7x C3p;rw [hr];exact C0R pb s hr v v2 w m MP A hP hv hm hG
  | false =>
    unfold B7x C3p;rw [hr];obtain ⟨bt,bm,h⟩:=hP.t
    exact (B3g pb bt bm s hr v v2 w m MP A h hn hv hm hG).mono λq M J ⟨h1,h2⟩=>⟨h1.p,h2⟩

structure Ext(s s':Ps):Prop where
  p:Pext s s'
  seed:s'.seed=s.seed
  n:s.n<=s'.n
theorem Ext.refl(s:Ps):Ext s s:=⟨Pext.refl s,E,Av _⟩
theorem Ext.trans{a b c:Ps}(h:Ext a b)(h':Ext b c):Ext a c:=⟨h.p.trans h'.p,h'.seed.trans h.seed,Az h.n h'.n⟩
theorem A6S(ts:List Tm)(t:Tm):∃l,add ts t=ts++l:=by
  unfold add;split
  . exact ⟨[],by simp⟩
  . exact ⟨_,E⟩
theorem A2q(ts:List Tm)(w:LN):∃l,rdT ts w=ts++l:=by
  cases hp:plc w ts.length with
  | some j=>exact ⟨[],by rw [(A0i hp).1];simp⟩
  | none=>rw [(A0N hp).1];exact A6S _ _
theorem A93(ts:List Tm)(w:LN)(t:Tm):∃l,add (rdT ts w) t=ts++l:=by obtain ⟨l1,e1⟩:=A2q ts w;obtain ⟨l2,e2⟩:=A6S (rdT ts w) t;exact ⟨l1++l2,by rw [e2,e1,Ap]⟩
theorem A94(s:Ps):Ext s (E5 s):=⟨A7S s,by unfold E5;split<;>rfl,by unfold E5;split<;>exact Nat.le_succ _⟩
theorem A95(s:Ps)(w:LN):Ext s (H3 s w):=by
  unfold H3;split
  . exact Ext.refl s
  . exact ⟨⟨E,A93 _ _ _⟩,E,Av _⟩
theorem C3s{s:Ps}{i:Nat}(hi:i<s.ts.length)(hl:s.ts.length<=1048576):B3d s (bts ((i:Nat):Int))={ s with ts:=add s.ts (B0Z ((i:Nat):Int)) }∧B6R s (bts ((i:Nat):Int))=bts ((at_ s.ts (B0Z ((i:Nat):Int)):Nat):Int):=by obtain ⟨h1,h2⟩:=A4E hi hl;unfold B3d B6R;rw [h1,h2];exact ⟨E,E⟩
theorem C5s{s:Ps}{i:Nat}(hi:i<s.ts.length)(hl:s.ts.length<=1048576)(f:Int->Tm):B5Z s (bts ((i:Nat):Int)) f={ s with ts:=add s.ts (f ((i:Nat):Int)) }∧B6U s (bts ((i:Nat):Int)) f=bts ((at_ s.ts (f ((i:Nat):Int)):Nat):Int):=by obtain ⟨h1,h2⟩:=A4E hi hl;unfold B5Z B6U;rw [h1,h2];exact ⟨E,E⟩
theorem A6T{i:Nat}(h:i<=1048576):i64 ((i:Nat):Int):=by unfold i64;omega
def C0T(s:Ps)(w p:LN):Prop:=∃i j:Nat,i<s.ts.length∧w=bts ((i:Nat):Int)∧s.ts[j]? = some (B0Z ((i:Nat):Int))∧p=bts ((j:Nat):Int)
def T0(s:Ps)(w p:LN):Prop:=if s.real then p=A1L (H5 w 32) else C0T s w p
def SkAt(s:Ps)(w p:LN):Prop:=if s.real then p=A8r (H5 w 32) else C0T s w p
variable{s':Ps}
theorem C0T.ext{s:Ps}(h:C0T s w p)(he:Pext s s'):C0T s' w p:=by obtain ⟨l,e⟩:=he.ts;obtain ⟨i,j,h1,h2,h3,h4⟩:=h;exact ⟨i,j,by rw [e,An];omega,h2,by rw [e];exact A4D h3,h4⟩
theorem T0.ext{s s':Ps}{w p:LN}(h:T0 s w p)(he:Pext s s'):T0 s' w p:=by
  unfold T0 at *;rw [he.real];split
  . rename_i hr;rwa [if_pos hr] at h
  . rename_i hr;rw [if_neg hr] at h;exact h.ext he
theorem C0T.kok{s:Ps}(h:C0T s w p):B8M s.ts w∧B8M s.ts p:=by obtain ⟨i,j,h1,h2,h3,h4⟩:=h;exact ⟨⟨i,h1,h2⟩,⟨j,(Ac.1 h3).1,h4⟩⟩
theorem T0.kok{s:Ps}{w p:LN}(h:T0 s w p):Kok s w∧Kok s p:=by
  unfold T0 at h;refine ⟨λhr=>?_,λhr=>?_⟩<;>rw [if_neg (by rw [hr];decide)] at h
  . exact h.kok.1
  . exact h.kok.2
theorem C0U{s:Ps}(h:B8M s.ts w)(ht:Tok s.ts)(hl:s.ts.length<=1048576):C0T (B3d s w) w (B6R s w)∧Tok (B3d s w).ts:=by obtain ⟨i,hi,rfl⟩:=h;obtain ⟨e1,e2⟩:=C3s hi hl;obtain ⟨l,g1,g2,g3,g4⟩:=A4C (B8N (A6T (show i<=1048576 by omega))) ht;rw [e1,e2];exact ⟨⟨i,_,by show i<(add s.ts _).length;rw [g1,An];omega,E,g3,E⟩,g4⟩
theorem C3t{s:Ps}(h:Kok s w)(ht:Tok s.ts)(hl:s.ts.length<=1048576):T0 (H3 s w) w (I5 s w)∧SkAt (H3 s w) w (C0P s w)∧Tok (H3 s w).ts:=by
  unfold T0 SkAt H3 I5 C0P
  cases hr:s.real with
  | true=>simp [hr,ht]
  | false =>
    obtain ⟨h1,h2⟩:=C0U (h hr) ht hl;have h3:(B3d s w).real=false:=hr;simp only [Bool.false_eq_true,if_false,h3];exact ⟨h1,h1,h2⟩
theorem C0T.eq{s:Ps}(h:C0T s w p)(ht:Tok s.ts)(hl:s.ts.length<=1048576):B3d s w=s∧B6R s w=p:=by obtain ⟨i,j,h1,rfl,h3,rfl⟩:=h;obtain ⟨e1,e2⟩:=C3s h1 hl;obtain ⟨e3,e4⟩:=B3a ht h3;rw [e1,e2,e3,e4];exact ⟨E,E⟩
theorem T0.eq{s:Ps}{w p:LN}(h:T0 s w p)(ht:Tok s.ts)(hl:s.ts.length<=1048576):H3 s w=s∧I5 s w=p:=by
  unfold T0 at h;unfold H3 I5
  cases hr:s.real with
  | true=>rw [hr] at h;exact ⟨E,h.symm⟩
  | false=>rw [hr] at h;exact C0T.eq h ht hl
def B52(ts:List Tm)(p m g:LN):Bool:=decide (g.length=64)&&match plc g ts.length,plc p ts.length with
  | some i,some k=>decide (p.length=32)&&match ts[i]?,ts[k]? with
    | some t,some u=>decide (t.kind=7)&&decide (t.text=m)&&decide (u.kind=3)&&decide (u.of.getD 0 0=t.of.getD 0 0)
    | _,_=>false
  | _,_=>false
def B81(s:Ps)(p m g:LN):Bool:=if s.real then A73 p m g else B52 s.ts p m g
def Ar(ts:List Tm):Prop:=∀t∈ts,(t.kind=3∨t.kind=6∨t.kind=7)->0<t.of.length
structure Rok(ts:List Tm)(w:LN):Prop where
  lt:∀x∈w,x<256
  len:w.length<=1000000000
  st:(∀n,plc w n=none)∨B8M ts w
theorem Rok.ext{ts l:List Tm}{w:LN}(h:Rok ts w):Rok (ts++l) w:=⟨h.lt,h.len,h.st.imp id B8M.ext⟩
variable{ts:List Tm}
theorem B8M.rok(h:B8M ts w):Rok ts w:=by obtain ⟨i,hi,rfl⟩:=h;exact ⟨B6J _,by rw [show (bts ((i:Nat):Int)).length=32 from A0U _ qD];decide,.inr ⟨i,hi,E⟩⟩
theorem B83(ht:Tok ts)(hw:∀x∈w,x<256)(hl:w.length<=1000000000):Tok (rdT ts w):=by
  cases hp:plc w ts.length with
  | some j=>rw [(A0i hp).1];exact ht
  | none =>
    rw [(A0N hp).1];obtain ⟨l,h1,h2,h3,h4⟩:=A4C (A3g hw qO) ht;exact h4
theorem B7z{l:List Tm}(h:Rok ts w)(ht:Tok ts)(ht':Tok (rdT ts w++l))(hl:(rdT ts w++l).length<=1048576):rdT (rdT ts w++l) w=rdT ts w++l∧rdI (rdT ts w++l) w=rdI ts w:=by
  have hge:=B2Y (ts:=ts) (w:=w);rw [An] at hl
  cases hp:plc w ts.length with
  | some j =>
    obtain ⟨e1,e2⟩:=A0i hp;obtain ⟨a1,a2⟩:=A7O hp;rw [e1,e2];exact A0i (a2 _ (by rw [An];omega))
  | none =>
    have hn:∀n,plc w n=none:=by
      rcases h.st with h|⟨i,hi,rfl⟩
      . exact h
      . rw [A2m,show u64 ((i:Nat):Int)=i by unfold u64;omega,if_pos hi] at hp;cases hp
    obtain ⟨e1,e2⟩:=A0N hp;obtain ⟨l0,g1,g2,g3,g4⟩:=A4C (A3g h.lt (by have:=h.len;omega)) ht;rw [e1] at ht' ⊢;rw [e2];obtain ⟨b1,b2⟩:=A0N (hn (add ts (B5Y w)++l).length);rw [b1,b2];exact B3a ht' (A4D g3)
theorem A8Z:∀(ws:List (LN)) (st:List Tm×List Int),∃l,(ws.foldl A0I st).1=st.1++l
  | [],st=>⟨[],by simp⟩
  | w::ws,st=>by obtain ⟨l1,e1⟩:=A8Z ws (A0I st w);obtain ⟨l2,e2⟩:=A2q st.1 w;exact ⟨l2++l1,by rw [List.foldl_cons,e1,show (A0I st w).1=rdT st.1 w from rfl,e2,Ap]⟩
theorem B4j:∀(ws:List (LN)) (st:List Tm×List Int),(∀w∈ws,Rok st.1 w)->Tok st.1->Tok (ws.foldl A0I st).1
  | [],st,_,ht=>ht
  | w::ws,st,h,ht=>by obtain ⟨l2,e2⟩:=A2q st.1 w;have hw:=h w qM;exact B4j ws (A0I st w) (λv hv=>by show Rok (rdT st.1 w) v;rw [e2];exact (h v (by simp [hv])).ext) (B83 ht hw.lt hw.len)
theorem A79:∀(ws:List (LN)) (st:List Tm×List Int) (l:List Tm),(∀w∈ws,Rok st.1 w)->Tok st.1->Tok ((ws.foldl A0I st).1++l)->((ws.foldl A0I st).1++l).length<=1048576->ws.foldl A0I ((ws.foldl A0I st).1++l,st.2)=((ws.foldl A0I st).1++l,(ws.foldl A0I st).2)
  | [],st,l,_,_,_,_=>rfl
  | w::ws,st,l,h,ht,ht',hl=>by
    have hw:=h w qM;obtain ⟨l1,e1⟩:=A8Z ws (A0I st w);have e2:(A0I st w).1=rdT st.1 w:=rfl;rw [List.foldl_cons] at ht' hl ⊢
    have hrest:∀v∈ws,Rok (A0I st w).1 v:=λv hv=>by obtain ⟨l2,e3⟩:=A2q st.1 w;rw [e2,e3];exact (h v (by simp [hv])).ext
    have ih:=A79 ws (A0I st w) l hrest (B83 ht hw.lt hw.len) ht' hl;have e4:(ws.foldl A0I (A0I st w)).1++l=rdT st.1 w++(l1++l):=by rw [e1,e2,Ap]
    obtain ⟨a1,a2⟩:=B7z hw ht (l:=l1++l) (by rw [<- e4];exact ht') (by rw [<- e4];exact hl);rw [List.foldl_cons]
    have e5:A0I ((ws.foldl A0I (A0I st w)).1++l,st.2) w=((ws.foldl A0I (A0I st w)).1++l,(A0I st w).2):=by
      show (rdT _ w,st.2++[((rdI _ w:Nat):Int)])=(_,st.2++[((rdI st.1 w:Nat):Int)])
      rw [e4,a1,a2]
    rw [e5];exact ih
theorem B84:∀(ws:List (LN)) {n0 k:Nat} {st:List Tm×List Int},RdOk n0 k st->(∀w∈ws,Rok st.1 w)->RdOk n0 (k+ws.length) (ws.foldl A0I st)
  | [],_,_,_,h,_=>h
  | w::ws,n0,k,st,h,hw=>by
    have h1:=hw w qM;have h2:=h.step h1.lt (by have:=h1.len;omega)
    have h3:=B84 ws h2 (λv hv=>by
      obtain ⟨l2,e3⟩:=A2q st.1 w;show Rok (rdT st.1 w) v
      rw [e3];exact (hw v (by simp [hv])).ext)
    rw [List.length_cons,show k+(ws.length+1)=k+1+ws.length by omega];exact h3
theorem A4U(ts:List Tm)(ofs:List Int)(lb:LN):∀n,∃l,(N6 ts ofs lb n).1=ts++l
  | 0=>⟨[],by show ts=_;simp⟩
  | n+1=>by obtain ⟨l1,e1⟩:=A4U ts ofs lb n;obtain ⟨l2,e2⟩:=A7R ts ofs lb n;exact ⟨l1++l2,by rw [e2,e1,Ap]⟩
variable{key lb:LN}{ws:List (LN)}
theorem A4V(ht:Tok ts)(h:∀w∈key::ws,Rok ts w)(hb:B256 lb)(hbl:lb.length<=1000)(hl:ts.length+ws.length+1<=1048576) :
    Tok (W7 ts key ws).1∧(∀k,k<100->Tmo (drv (W7 ts key ws).2 lb k)):=by
  have h0:RdOk ts.length 0 (ts,[]):=⟨Av _,rfl,(λx hx=>by cases hx),ht.tmo⟩
  have h1:=B84 (key::ws) h0 h;have e:W7 ts key ws=(key::ws).foldl A0I (ts,[]):=rfl;rw [<- e,List.length_cons] at h1;refine ⟨B4j (key::ws) (ts,[]) h ht,λk hk=>B8L (λx hx=>?_) (by rw [h1.ofl];omega) hb qO qO⟩;have h2:=h1.of x hx;have h3:=h1.len;unfold i64;omega
theorem A8a(s:Ps)(key:LN)(ws:List (LN))(lb:LN)(n:Nat):Ext s (A39 s key ws lb n):=by
  cases hr:s.real with
  | true=>rw [A5N hr];exact Ext.refl s
  | false =>
    rw [A3K hr];obtain ⟨l1,e1⟩:=A8Z (key::ws) (s.ts,[]);obtain ⟨l2,e2⟩:=A4U (W7 s.ts key ws).1 (W7 s.ts key ws).2 lb n;refine ⟨⟨E,l1++l2,?_⟩,E,Av _⟩;show (N6 _ _ _ _).1=_;rw [e2,show (W7 s.ts key ws).1=_ from e1,Ap]
variable{n:Nat}
theorem C0V{s:Ps}(ht:Tok s.ts)(h:s.real=false->∀w∈key::ws,Rok s.ts w)(hb:B256 lb)(hbl:lb.length<=1000)(hn:n<=100)(hl:s.ts.length+ws.length+1<=1048576):Tok (A39 s key ws lb n).ts:=by
  cases hr:s.real with
  | true=>rw [A5N hr];exact ht
  | false =>
    obtain ⟨t1,hd⟩:=A4V ht (h hr) hb hbl hl;rw [A3K hr];exact A4F t1 hd hn
theorem A8b{s:Ps}(ht:Tok s.ts)(h:s.real=false->∀w∈key::ws,Rok s.ts w)(hb:B256 lb)(hbl:lb.length<=1000)(hn:n<=100)(hl0:s.ts.length+ws.length+1<=1048576)(he:Pext (A39 s key ws lb n) s')(ht':Tok s'.ts)(hl:s'.ts.length<=1048576) :
    A39 s' key ws lb n=s'∧A5f s' key ws lb n=A5f s key ws lb n:=by
  have hrr:s'.real=s.real:=by rw [he.real,(A1J s key ws lb n).1]
  cases hr:s.real with
  | true=>exact ⟨A5N (hrr.trans hr),by rw [A3L hr,A3L (hrr.trans hr)]⟩
  | false =>
    have hr':s'.real=false:=hrr.trans hr;have h:=h hr;obtain ⟨l,e⟩:=he.ts;rw [A3K hr] at e;change s'.ts=(N6 (W7 s.ts key ws).1 (W7 s.ts key ws).2 lb n).1++l at e;obtain ⟨l2,e2⟩:=A4U (W7 s.ts key ws).1 (W7 s.ts key ws).2 lb n;have e3:s'.ts=(W7 s.ts key ws).1++(l2++l):=by rw [e,e2,Ap]
    obtain ⟨t1,hd⟩:=A4V ht h hb hbl hl0;have a:=A79 (key::ws) (s.ts,[]) (l2++l) h ht (by show Tok ((W7 s.ts key ws).1++(l2++l));rw [<- e3];exact ht') (by show ((W7 s.ts key ws).1++(l2++l)).length<=_;rw [<- e3];exact hl);change W7 ((W7 s.ts key ws).1++(l2++l)) key ws=((W7 s.ts key ws).1++(l2++l),(W7 s.ts key ws).2) at a;rw [<- e3] at a;have b:=A8M t1 hd hn (l:=l) e ht';have c:B0X s'.ts key ws lb n=(s'.ts,(B0X s.ts key ws lb n).2):=by unfold B0X;rw [a];exact b
    rw [A3K hr',A5O hr',A5O hr,c];exact ⟨E,E⟩
theorem B4k(s:Ps)(key:LN)(ws:List (LN))(lb:LN)(n:Nat):(A5f s key ws lb n).length=n:=by
  cases hr:s.real with
  | true=>rw [A3L hr];exact A6C _ _
  | false=>rw [A5O hr];exact (A1I _ _ _ _).1
theorem C0W{s:Ps}{i:Nat}(ht:Tok s.ts)(h:s.real=false->∀w∈key::ws,Rok s.ts w)(hb:B256 lb)(hbl:lb.length<=1000)(hn:n<=100)(hl:s.ts.length+ws.length+1<=1048576)(hi:i<n):Kok (A39 s key ws lb n) ((A5f s key ws lb n).getD i []):=by
  intro hr';have hr:s.real=false:=by rw [<- (A1J s key ws lb n).1];exact hr'
  obtain ⟨t1,hd⟩:=A4V ht (h hr) hb hbl hl;obtain ⟨j,h1,h2⟩:=B3b t1 hd hn hi;rw [A3K hr,A5O hr];refine ⟨j,(Ac.1 h1).1,?_⟩;rw [Aj];show ((N6 _ _ _ _).2[i]?).getD []=_;rw [h2];rfl
theorem Kok.rok{s:Ps}{w:LN}(h:Kok s w):s.real=false->Rok s.ts w:=λhr=>(h hr).rok
theorem A8c{ts:List Tm}{ofs:List Int}{lb:LN}:∀ {n:Nat},∀w∈(N6 ts ofs lb n).2,∃j:Nat,w=bts ((j:Nat):Int)
  | 0,w,h=>by cases h
  | n+1,w,h=>by
    rw [show N6 ts ofs lb (n+1)=B1B ofs lb (N6 ts ofs lb n) n from Q2 n] at h;rcases List.mem_append.1 (show w∈_++[_] from h) with h|h
    . exact A8c w h
    . exact ⟨_,List.mem_singleton.1 h⟩
theorem C0X{s:Ps}(hn:n<=8):∀w∈A5f s key ws lb n,(∀x∈w,x<256)∧w.length=32:=by
  intro w hw
  cases hr:s.real with
  | true =>
    rw [A3L hr] at hw;obtain ⟨i,hi,rfl⟩:=List.mem_map.1 hw;have h1:=List.mem_range.1 hi;have h2:=A9L key ws lb hn;refine ⟨λx hx=>A4B _ _ _ x (Bz (List.mem_of_mem_drop hx)),?_⟩;rw [Bg,Bj,h2];omega
  | false =>
    rw [A5O hr] at hw;obtain ⟨j,rfl⟩:=A8c w hw;exact ⟨B6J _,A0U _ qD⟩
theorem C0Y{s:Ps}{i:Nat}(hn:n<=8)(hi:i<n):(∀x∈(A5f s key ws lb n).getD i [],x<256)∧((A5f s key ws lb n).getD i []).length=32:=by have hl:=B4k s key ws lb n;rw [Aj,Ab qO];exact C0X hn _ (List.getElem_mem _)
theorem C4L{k:IntKind}(a b:Nat):H8 .eql k ((a:Nat):Int) ((b:Nat):Int)=some (.bool (decide (a=b))):=by
  by_cases h:a=b
  . rw [decide_eq_true h];exact eqT qO
  . rw [decide_eq_false h];exact eqF qO
theorem A96{l:List Int}(h:0<l.length):(A13 l)[0]? = some (.int .i64 (l.getD 0 0)):=by rw [Aj,A13,List.getElem?_map,Ab h];rfl
variable{g:LN}
theorem B7A(h:¬g.length=64):B52 ts p m g=false:=by unfold B52;rw [decide_eq_false h,Bool.false_and]
theorem C0Z(h:plc g ts.length=none):B52 ts p m g=false:=by unfold B52;rw [h];simp
theorem C00(h:plc p ts.length=none):B52 ts p m g=false:=by unfold B52;rw [h];split<;>simp_all
theorem B7B{t u:Tm}{i k:Nat}(h64:g.length=64)(hi:plc g ts.length=some i)(hk:plc p ts.length=some k)(ht:ts[i]? = some t)(hu:ts[k]? = some u) :
    B52 ts p m g=(decide (p.length=32)&&(decide (t.kind=7)&&(decide (t.text=m)&&(decide (u.kind=3)&&(u.of.getD 0 0==t.of.getD 0 0))))):=by
  unfold B52;rw [hi,hk,decide_eq_true h64];simp only [ht,hu,Bool.true_and,Bool.and_assoc];congr 4
theorem B4l{s:Ps}(h:s.real=true)(p m g:LN):B81 s p m g=A73 p m g:=by unfold B81;rw [if_pos h]
theorem A3O{s:Ps}(h:s.real=false)(p m g:LN):B81 s p m g=B52 s.ts p m g:=by unfold B81;rw [if_neg (by rw [h];decide)]
theorem B7C{s:Ps}(h:¬g.length=64):B81 s p m g=false:=by
  cases hr:s.real with
  | true=>rw [B4l hr];exact B4e h
  | false=>rw [A3O hr];exact B7A h
theorem neN8{k:IntKind}(a b:Nat):H8 .neq k ((a:Nat):Int) ((b:Nat):Int)=some (.bool (!decide (a=b))):=by
  by_cases h:a=b
  . rw [decide_eq_true h];exact neF qO
  . rw [decide_eq_false h];exact neT qO
theorem B7D(pb:Nat)(s:Ps)(v1 v2 v3:Value)(wp wm wg:LN)(MP A:Mem)(hP:Prm pb s MP)(hsub:∀x,x∈MP->x∈A)(har:Ar s.ts)(hn:s.ts.length<=1048576)(hp:By A v1 wp)(hm:By A v2 wm)(hg:By A v3 wg)(hG:Glb A):FnV prog 84 [(vP pb),v1,v2,v3] A (.bool (B81 s wp wm wg)):=by
 obtain ⟨sv,bt,bm,B,MT,rfl,hby,hT⟩:=hP.ex;have hpb:=hsub _ qK;have hMT:∀x,x∈MT->x∈A:=λx hx=>hsub x (by simp [hx]);haveI:=hp.cel;haveI:=hm.cel;haveI:=hg.cel;haveI:=hby.cel;have hpl:=hp.len;have hml:=hm.len;have hgl:=hg.len;refine Cn (N:=106) func84 E E E λw_=>?_;refine A8 (D7 0 1 2 3) (A1 (aS_ E (A0 (D7 0 1 2 3) (A3 (A1 (mV_ E (lQ_ (F0 (e:=72) E E kR) (mv_ ?_))))))));refine G1 E E (Cp qm_ E ?_);refine G1 E E (Cp (F8 (sz:=1) E kR (by first|assumption|exact Sl.rd (by assumption) qI|exact By.rd (by assumption))) E ?_);refine G1 E E (Cp (F6 (!decide (wg.length=64)) E E (neN8 _ 64)) E ?_);refine lQ_ (E8 E E) (A0 (E9 0 1 2 3 23) ?_);refine C2 E ?_ ?_<;>intro hc
 .
  have h64:¬wg.length=64:=by simpa using hc
  refine A1 (as_ (A0 (D1 8) (A9 (tr ?_))));exact ⟨_,[],[],H2 E E,Aa _,by simp,by rw [B7C h64],E,E⟩
 .
  have h64:wg.length=64:=by simpa using hc
  refine A4 (nx (D7 0 1 2 3) (A3 (A1 (mV_ E (lQ_ (F4 E) (lQ_ (qf_ 0 0) ?_))))));refine lQ_ (H1 E kR (mA hpb) qR) ?_;refine lQ_ (E3 E E E) (A0 (E9 0 1 2 3 28) ?_);refine C2 E ?_ ?_<;>intro hc
  .
   have hr:s.real=true:=by cases hq:s.real with|true=>rfl|false=>rw [hq] at hc;exact absurd hc qD
   refine A1 (mv_ (mv_ (mv_ ?_)));refine D8 (aS E (aS E (aS E a0))) kR (C0O v1 v2 v3 wp wm wg _ (hp.mono qS) (hm.mono qS) (hg.mono qS) hG.s.up) E ?_;refine as_ (A0 (D1 8) (A9 (tr ?_)));exact ⟨_,[],[],H2 E E,Aa _,by simp,by rw [B4l hr],E,E⟩
  .
   have hr:s.real=false:=by cases hq:s.real with|false=>rfl|true=>rw [hq] at hc;exact absurd hc qD
   refine A4 (nx (D7 0 1 2 3) (A1 (mV_ E (lQ_ (F4 E) (lQ_ (qf_ 3 3) ?_)))));refine lQ_ (H1 E kR (mA hpb) qR) ?_;refine mv_ ?_;refine D8 (aS E (aS E a0)) kR (A00 bt bm s.ts v3 wg MT _ hT (λx hx=>qS _ (hMT x hx)) hn (hg.rd.mono qS) hg.lt hg.max) E ?_;refine mV_ E (lQ_ (A0x E) (lQ_ (A0n E) (aS_ E (aS_ E (A0 (E9 0 1 2 9 10) (A1 (mV_ E (lQ_ (F4 E) (lQ_ (qf_ 3 3) ?_)))))))));refine lQ_ (H1 E kR (mA hpb) qR) ?_;refine mv_ ?_;refine C6 (aS E (aS E a0)) kR (A2R bt bm s.ts _ MT _ hT (λx hx=>qS _ (hMT x hx))) E ?_;rintro v48 M48 J48 ⟨rfl,rfl,c48,ok48,rfl,hg1a,hg2a⟩;obtain ⟨voa,ta,rfl,hvoa,hza,htka,hoka,hnoa⟩:=A2S hT.tok.tmo hg1a hg2a;haveI:=hvoa.cel;refine mV_ E (lQ_ (A0x E) (lQ_ (A0n E) ?_));refine A2 E (C3 (cs:=[zu8,vS,.string ByteArray.empty,U7]) kR E λb11=>?_);refine A2 E (A5 (vs:=tmc ta.kind voa ta.text ta.n) E E E kR qR (by intro c hc;simp only [tmc,Cz,Da,or_false] at hc;rcases hc with rfl|rfl|rfl|rfl<;>first|rfl|exact hvoa.one) Cv ?_);dsimp only [tmc];refine aS_ E (A0 (E9 0 1 2 10 11) (A1 (mV_ E (lQ_ (F4 E) (lQ_ (qf_ 3 3) ?_)))));refine lQ_ (H1 E kR (mA hpb) qR) ?_;refine mv_ ?_;refine D8 (aS E (aS E a0)) kR (A00 bt bm s.ts v1 wp MT _ hT (λx hx=>qS _ (hMT x hx)) hn (hp.rd.mono qS) hp.lt hp.max) E ?_;refine mV_ E (lQ_ (A0x E) (lQ_ (A0n E) (aS_ E (aS_ E (A0 (N1 0 1 2 10 11 13 14) (A1 (mV_ E (lQ_ (F4 E) (lQ_ (qf_ 3 3) ?_)))))))));refine lQ_ (H1 E kR (mA hpb) qR) ?_;refine mv_ ?_;refine C6 (aS E (aS E a0)) kR (A2R bt bm s.ts _ MT _ hT (λx hx=>qS _ (hMT x hx))) E ?_;rintro v66 M66 J66 ⟨rfl,rfl,c66,ok66,rfl,hg1b,hg2b⟩;obtain ⟨vob,tb,rfl,hvob,hzb,htkb,hokb,hnob⟩:=A2S hT.tok.tmo hg1b hg2b;haveI:=hvob.cel;refine mV_ E (lQ_ (A0x E) (lQ_ (A0n E) ?_));refine A2 E (C3 (cs:=[zu8,vS,.string ByteArray.empty,U7]) kR E λb15=>?_);refine A2 E (A5 (vs:=tmc tb.kind vob tb.text tb.n) E E E kR qR (by intro c hc;simp only [tmc,Cz,Da,or_false] at hc;rcases hc with rfl|rfl|rfl|rfl<;>first|rfl|exact hvob.one) Cv ?_);dsimp only [tmc];refine as_ (A0 (G9 1 2 10 11 14 15) ?_);refine C9 (.range 38) (zp 0 [0,0,0,0,0,0,0,0,0,0,0,1,0,0,0,0,1,0,1,0,0,0,0,1,0,0,0,0,1,0,1,0,1,0,1,0,0,0]) kR kR λhs=>?_;refine fM_ E E (fm_ ?_);refine A0h (t:=70) E (λhb=>?_) (λhb=>?_)
   .
    obtain ⟨i,hi⟩:=Option.isSome_iff_exists.1 hb;refine fG_ E qm_ (fQ_ E (H6 E E) (fm_ ?_));refine A0h (t:=73) E (λhb=>?_) (λhb=>?_)
    .
     obtain ⟨k,hk⟩:=Option.isSome_iff_exists.1 hb
     have hta:s.ts[i]? = some ta:=by
      have hl:=(A7O hi).1;rw [hi] at hoka hnoa
      cases ok48 with
      | true=>have:=(hoka E).2;rwa [Option.getD_some,Int.toNat_natCast] at this
      | false=>exact absurd ⟨by rw [Option.getD_some];omega,by rw [Option.getD_some];omega⟩ (hnoa E)
     have htb:s.ts[k]? = some tb:=by
      have hl:=(A7O hk).1;rw [hk] at hokb hnob
      cases ok66 with
      | true=>have:=(hokb E).2;rwa [Option.getD_some,Int.toNat_natCast] at this
      | false=>exact absurd ⟨by rw [Option.getD_some];omega,by rw [Option.getD_some];omega⟩ (hnob E)
     have hcv:=B7B (m:=wm) h64 hi hk hta htb;refine fG_ E qm_ ?_;refine fG_ E (F8 (sz:=1) E kR (by first|assumption|exact Sl.rd (by assumption) qI|exact By.rd (by assumption))) ?_;refine fG_ E (F6 (decide (wp.length=32)) E E (C4L _ 32)) (fQ_ E (H6 E E) (fm_ ?_));refine A0h (t:=78) E (λhb=>?_) (λhb=>?_)
     .
      rw [hb,Bool.true_and] at hcv;refine fG_ E (qf_ 0 0) ?_;refine fH_ E ql_ ?_;refine fG_ E (F6 (decide (ta.kind=7)) E E (C4L _ 7)) (fQ_ E (H6 E E) (fm_ ?_));refine A0h (t:=83) E (λhb=>?_) (λhb=>?_)
      .
       rw [hb,Bool.true_and] at hcv;have ha0:0<ta.of.length:=har ta (As hta) (.inr (.inr (of_decide_eq_true hb)));refine fG_ E (qf_ 2 2) ?_;refine fH_ E ql_ ?_;refine fG_ E qm_ (fH_ E (P2 E kR (hm.rd.mono qS)) (fG_ E (C2G E E E E (hT.tok.tmo ta (As hta)).text.lt hm.lt) (fQ_ E (H6 E E) (fm_ ?_))));refine A0h (t:=90) E (λhb=>?_) (λhb=>?_)
       .
        rw [hb,Bool.true_and] at hcv;refine fG_ E (qf_ 0 0) ?_;refine fH_ E ql_ ?_;refine fG_ E (F6 (decide (tb.kind=3)) E E (C4L _ 3)) (fQ_ E (H6 E E) (fm_ ?_));refine A0h (t:=95) E (λhb=>?_) (λhb=>?_)
        . rw [hb,Bool.true_and] at hcv;have hb0:0<tb.of.length:=har tb (As htb) (.inl (of_decide_eq_true hb));refine fG_ E (qf_ 1 1) ?_;refine fH_ E ql_ ?_;refine fG_ E (G4 (sz:=1) (a:=0) E E kR E hvob hb0) ?_;refine fH_ E (Z8 (j:=0) (u:=.int .i64 (tb.of.getD 0 0)) (hvob.mono qS) E kR (A96 hb0)) (fG_ E (qf_ 1 1) ?_);refine fH_ E ql_ ?_;refine fG_ E (G4 (sz:=1) (a:=0) E E kR E hvoa ha0) ?_;refine fH_ E (Z8 (j:=0) (u:=.int .i64 (ta.of.getD 0 0)) (hvoa.mono qS) E kR (A96 ha0)) (fG_ E (E3 E E E) (fQ_ E (H6 E E) (fA_ E E (E4 (D1 8) (A9 ?_)))));exact ⟨_,[],[],H2 E E,Aa _,by simp,by rw [A3O hr,hcv],E,E⟩
        . rw [hb,Bool.false_and] at hcv;refine L0 hs ?_;refine W3 hs ?_;refine L0 hs ?_;refine W3 hs ?_;refine L0 hs ?_;refine W3 hs ?_;refine L0 hs ?_;refine W3 hs ?_;refine L0 hs ?_;refine fQ_ E (E8 E E) (fA_ E E (E4 (D1 8) (A9 ?_)));exact ⟨_,[],[],H2 E E,Aa _,by simp,by rw [A3O hr,hcv],E,E⟩
       . rw [hb,Bool.false_and] at hcv;refine L0 hs ?_;refine W3 hs ?_;refine L0 hs ?_;refine fQ_ E (E8 E E) (fm_ ?_);refine L0 hs ?_;refine W3 hs ?_;refine L0 hs ?_;refine W3 hs ?_;refine L0 hs ?_;refine W3 hs ?_;refine L0 hs ?_;refine W3 hs ?_;refine L0 hs ?_;refine fQ_ E (E8 E E) (fA_ E E (E4 (D1 8) (A9 ?_)));exact ⟨_,[],[],H2 E E,Aa _,by simp,by rw [A3O hr,hcv],E,E⟩
      . rw [hb,Bool.false_and] at hcv;refine L0 hs ?_;refine W3 hs ?_;refine L0 hs ?_;refine W3 hs ?_;refine L0 hs ?_;refine fQ_ E (E8 E E) (fm_ ?_);refine L0 hs ?_;refine W3 hs ?_;refine L0 hs ?_;refine fQ_ E (E8 E E) (fm_ ?_);refine L0 hs ?_;refine W3 hs ?_;refine L0 hs ?_;refine W3 hs ?_;refine L0 hs ?_;refine W3 hs ?_;refine L0 hs ?_;refine W3 hs ?_;refine L0 hs ?_;refine fQ_ E (E8 E E) (fA_ E E (E4 (D1 8) (A9 ?_)));exact ⟨_,[],[],H2 E E,Aa _,by simp,by rw [A3O hr,hcv],E,E⟩
     . rw [hb,Bool.false_and] at hcv;refine L0 hs ?_;refine W3 hs ?_;refine L0 hs ?_;refine fQ_ E (E8 E E) (fm_ ?_);refine L0 hs ?_;refine W3 hs ?_;refine L0 hs ?_;refine W3 hs ?_;refine L0 hs ?_;refine fQ_ E (E8 E E) (fm_ ?_);refine L0 hs ?_;refine W3 hs ?_;refine L0 hs ?_;refine fQ_ E (E8 E E) (fm_ ?_);refine L0 hs ?_;refine W3 hs ?_;refine L0 hs ?_;refine W3 hs ?_;refine L0 hs ?_;refine W3 hs ?_;refine L0 hs ?_;refine W3 hs ?_;refine L0 hs ?_;refine fQ_ E (E8 E E) (fA_ E E (E4 (D1 8) (A9 ?_)));exact ⟨_,[],[],H2 E E,Aa _,by simp,by rw [A3O hr,hcv],E,E⟩
    . have hcv:=C00 (g:=wg) (m:=wm) (Option.not_isSome_iff_eq_none.1 (by rw [hb];decide));refine L0 hs ?_;refine L0 hs ?_;refine L0 hs ?_;refine fQ_ E (E8 E E) (fm_ ?_);refine L0 hs ?_;refine W3 hs ?_;refine L0 hs ?_;refine fQ_ E (E8 E E) (fm_ ?_);refine L0 hs ?_;refine W3 hs ?_;refine L0 hs ?_;refine W3 hs ?_;refine L0 hs ?_;refine fQ_ E (E8 E E) (fm_ ?_);refine L0 hs ?_;refine W3 hs ?_;refine L0 hs ?_;refine fQ_ E (E8 E E) (fm_ ?_);refine L0 hs ?_;refine W3 hs ?_;refine L0 hs ?_;refine W3 hs ?_;refine L0 hs ?_;refine W3 hs ?_;refine L0 hs ?_;refine W3 hs ?_;refine L0 hs ?_;refine fQ_ E (E8 E E) (fA_ E E (E4 (D1 8) (A9 ?_)));exact ⟨_,[],[],H2 E E,Aa _,by simp,by rw [A3O hr,hcv],E,E⟩
   . have hcv:=C0Z (p:=wp) (m:=wm) (Option.not_isSome_iff_eq_none.1 (by rw [hb];decide));refine L0 hs ?_;refine fQ_ E (E8 E E) (fm_ ?_);refine L0 hs ?_;refine L0 hs ?_;refine L0 hs ?_;refine fQ_ E (E8 E E) (fm_ ?_);refine L0 hs ?_;refine W3 hs ?_;refine L0 hs ?_;refine fQ_ E (E8 E E) (fm_ ?_);refine L0 hs ?_;refine W3 hs ?_;refine L0 hs ?_;refine W3 hs ?_;refine L0 hs ?_;refine fQ_ E (E8 E E) (fm_ ?_);refine L0 hs ?_;refine W3 hs ?_;refine L0 hs ?_;refine fQ_ E (E8 E E) (fm_ ?_);refine L0 hs ?_;refine W3 hs ?_;refine L0 hs ?_;refine W3 hs ?_;refine L0 hs ?_;refine W3 hs ?_;refine L0 hs ?_;refine W3 hs ?_;refine L0 hs ?_;refine fQ_ E (E8 E E) (fA_ E E (E4 (D1 8) (A9 ?_)));exact ⟨_,[],[],H2 E E,Aa _,by simp,by rw [A3O hr,hcv],E,E⟩

theorem A6U(h:w.length=n):H5 w n=w:=by unfold H5;rw [Aw qO,h,Nat.sub_self];simp
theorem B4m(w:LN):(A1L w).length=32:=A1M _ _
theorem B7E(x y:Int):srt x y=srt y x:=by
  unfold srt;rcases Int.lt_trichotomy x y with h|h|h
  . rw [if_neg qO,if_pos h]
  . subst h;rfl
  . rw [if_pos h,if_neg qO]
def B85(i j:Nat):Tm:=⟨4,srt ((i:Nat):Int) ((j:Nat):Int),[],0⟩
variable{j:Nat}
theorem C01{i:Nat}(hi:i<=1048576)(hj:j<=1048576):Tmo (B85 i j):=B2R (s:=0) (o:=0) (A2n _ _) (λz hz=>(B2Q hz).elim (λe=>e▸A6T hi) (λe=>e▸A6T hj)) (.inl E)
def C4M(s:Ps)(a b k:LN):Prop:=∃i j m:Nat,i<s.ts.length∧j<s.ts.length∧a=bts ((i:Nat):Int)∧b=bts ((j:Nat):Int)∧s.ts[m]? = some (B85 i j)∧k=bts ((m:Nat):Int)
def A3l(s:Ps)(a b k:LN):Prop:=if s.real then k=x25 (H5 a 32) (A1L (H5 b 32))∧(∀x∈a,x<256)∧∀x∈b,x<256 else C4M s a b k
variable{k a b:LN}
theorem A3l.t{s:Ps}(h:s.real=true):A3l s a b k↔k=x25 (H5 a 32) (A1L (H5 b 32))∧(∀x∈a,x<256)∧∀x∈b,x<256:=by unfold A3l;rw [if_pos h]
theorem A3l.f{s:Ps}(h:s.real=false):A3l s a b k↔C4M s a b k:=by unfold A3l;rw [if_neg (by rw [h];decide)]
theorem C4M.ext{s:Ps}(h:C4M s a b k)(he:Pext s s'):C4M s' a b k:=by obtain ⟨l,e⟩:=he.ts;obtain ⟨i,j,m,h1,h2,h3,h4,h5,h6⟩:=h;exact ⟨i,j,m,by rw [e,An];omega,by rw [e,An];omega,h3,h4,by rw [e];exact A4D h5,h6⟩
theorem A3l.ext{s s':Ps}{a b k:LN}(h:A3l s a b k)(he:Pext s s'):A3l s' a b k:=by
  cases hr:s.real with
  | true=>rw [A3l.t hr] at h;rw [A3l.t (he.real.trans hr)];exact h
  | false=>rw [A3l.f hr] at h;rw [A3l.f (he.real.trans hr)];exact h.ext he
theorem C02{i p:Nat}(hp:ts[p]? = some (B0Z ((j:Nat):Int))):agT ts ((i:Nat):Int) ((p:Nat):Int)=B85 i j:=by rw [B2P (t:=B0Z ((j:Nat):Int)) qO (by rw [Int.toNat_natCast];exact hp) ⟨E,E⟩];rfl
theorem B4n{s:Ps}{i p:Nat}(hi:i<s.ts.length)(hp:s.ts[p]? = some (B0Z ((j:Nat):Int)))(hl:s.ts.length<=1048576) :
    C0c s (bts ((i:Nat):Int)) (bts ((p:Nat):Int))={ s with ts:=add s.ts (B85 i j) }∧C2h s (bts ((i:Nat):Int)) (bts ((p:Nat):Int))=bts ((at_ s.ts (B85 i j):Nat):Int):=by
  have hpl:=(Ac.1 hp).1;obtain ⟨a1,a2⟩:=A4E hi hl;obtain ⟨b1,b2⟩:=A4E hpl hl;unfold C0c C2h;rw [a1,a2,b1,b2,C02 hp];exact ⟨E,E⟩
theorem A3m{s:Ps}(h:s.real=true)(a B:LN):K7 s a B=s∧A1g s a B=x25 (H5 a 32) (H5 B 32):=by unfold K7 A1g;rw [if_pos h,if_pos h];exact ⟨E,E⟩
theorem A3n{s:Ps}(h:s.real=false)(a B:LN):K7 s a B=C0c s a B∧A1g s a B=C2h s a B:=by unfold K7 A1g;rw [if_neg (by rw [h];decide),if_neg (by rw [h];decide)];exact ⟨E,E⟩
theorem B4o(s:Ps)(a B:LN):Ext s (K7 s a B):=by
  cases hr:s.real with
  | true=>rw [(A3m hr a B).1];exact Ext.refl s
  | false =>
    rw [(A3n hr a B).1];obtain ⟨l1,e1⟩:=A2q s.ts a;obtain ⟨l2,e2⟩:=A2q (rdT s.ts a) B;obtain ⟨l3,e3⟩:=A6S (rdT (rdT s.ts a) B) (agT (rdT (rdT s.ts a) B) ((rdI s.ts a:Nat):Int) ((rdI (rdT s.ts a) B:Nat):Int));refine ⟨⟨E,l1++(l2++l3),?_⟩,E,Av _⟩;show add _ _=_;rw [e3,e2,e1];simp
theorem T3(s:Ps)(a B:LN):(K7 s a B).ts.length<=s.ts.length+3:=by
  cases hr:s.real with
  | true=>rw [(A3m hr a B).1];omega
  | false =>
    rw [(A3n hr a B).1];have h1:=S9 (ts:=s.ts) (ws:=a);have h2:=S9 (ts:=rdT s.ts a) (ws:=B);have h3:=A0T (ts:=rdT (rdT s.ts a) B) (t:=agT (rdT (rdT s.ts a) B) ((rdI s.ts a:Nat):Int) ((rdI (rdT s.ts a) B:Nat):Int));show (add _ _).length<=_;omega
theorem B4p(s:Ps)(a B:LN):(K7 s a B).n=s.n:=by unfold K7;split<;>rfl
theorem C3u{s:Ps}{B:LN}(ha:Kok s a)(hB:T0 s b B)(ht:Tok s.ts)(hl:s.ts.length<=1048576)(h1:∀x∈a,x<256)(h2:∀x∈b,x<256):A3l (K7 s a B) a b (A1g s a B)∧Tok (K7 s a B).ts:=by
  cases hr:s.real with
  | true =>
    rw [(A3m hr a B).1,(A3m hr a B).2,A3l.t hr];unfold T0 at hB;rw [if_pos hr] at hB;rw [hB,A6U (B4m _)];exact ⟨⟨E,h1,h2⟩,ht⟩
  | false =>
    unfold T0 at hB;rw [if_neg (by rw [hr];decide)] at hB;obtain ⟨i,hi,rfl⟩:=ha hr;obtain ⟨j,p,hj,rfl,hp,rfl⟩:=hB;obtain ⟨e1,e2⟩:=B4n hi hp hl;rw [(A3n hr _ _).1,(A3n hr _ _).2,e1,e2];obtain ⟨l,g1,g2,g3,g4⟩:=A4C (C01 (show i<=1048576 by omega) (show j<=1048576 by omega)) ht;exact ⟨(A3l.f (s:={ s with ts:=add s.ts (B85 i j) }) hr).2 ⟨i,j,_,by show i<(add s.ts _).length;rw [g1,An];omega,by show j<(add s.ts _).length;rw [g1,An];omega,E,E,g3,E⟩,g4⟩
theorem A3l.eq{s:Ps}{B:LN}(h:A3l s a b k)(hB:T0 s b B)(ht:Tok s.ts)(hl:s.ts.length<=1048576):K7 s a B=s∧A1g s a B=k:=by
  cases hr:s.real with
  | true =>
    rw [A3l.t hr] at h;unfold T0 at hB;rw [if_pos hr] at hB;rw [(A3m hr a B).1,(A3m hr a B).2,hB,A6U (B4m _),h.1];exact ⟨E,E⟩
  | false =>
    rw [A3l.f hr] at h;unfold T0 at hB;rw [if_neg (by rw [hr];decide)] at hB;obtain ⟨i,j,m,g1,g2,rfl,rfl,g3,rfl⟩:=h;obtain ⟨j',p,hj,e,hp,rfl⟩:=hB;have:=A8L qO qO e;subst this;obtain ⟨e1,e2⟩:=B4n g1 hp hl;obtain ⟨e3,e4⟩:=B3a ht g3;rw [(A3n hr _ _).1,(A3n hr _ _).2,e1,e2,e3,e4];exact ⟨E,E⟩
theorem B4q(seed:LN)(i:Nat):B2S seed i=A8W (A8W [] seed) (([107,101,121]++A9K i)++[1]):=by unfold B2S;rw [<- A6O];exact B7q _ _
def aw0(r:Bool):Ps:=⟨r,[115],0,[]⟩
def aw2(r:Bool):Ps:=E5 (E5 (aw0 r))
def bes(n k x:Nat):LN:=(List.range x).map λj=>n/2^(8*(k-1-j))%256
def beN(n k:Nat):LN:=bes n k k
theorem B4r(n k x:Nat):(bes n k x).length=x:=by simp [bes]
theorem I7(n k:Nat):(beN n k).length=k:=B4r n k k
theorem B7F(n k x:Nat):bes n k (x+1)=bes n k x++[n/2^(8*(k-1-x))%256]:=by simp [bes,List.range_succ]
theorem C3v(n k x:Nat):∀y∈bes n k x,y<256:=by intro y hy;simp only [bes,List.mem_map] at hy;obtain ⟨j,_,rfl⟩:=hy;exact Ad _ qD
theorem A5T(n k:Nat):∀y∈beN n k,y<256:=C3v n k k
theorem B87(ha:∀x∈a,x<256)(hb:∀x∈b,x<256):∀x∈a++b,x<256:=λx hx=>(List.mem_append.1 hx).elim (ha x) (hb x)
structure Wtr(wb:Nat)(ws:LN)(M:Mem):Prop where
  ex:∃(v:Value) (B:Mem),M=(wb,blk [v] 126)::B∧Sl 1 v ws.length (nums .u8 ws) B
  lt:∀x∈ws,x<256
theorem Wtr.new{b:Nat}:Wtr b [] [(b,blk [vS] 126)]:=⟨⟨_,[],rfl,Sl.nil⟩,λx h=>by cases h⟩
theorem Wtr.eq{wb:Nat}{ws ws':LN}{M:Mem}(h:Wtr wb ws M)(e:ws=ws'):Wtr wb ws' M:=e▸h
theorem Q0(wb n k:Nat)(ws:LN)(M A:Mem)(hW:Wtr wb ws M)(hn:n<18446744073709551616)(hk:k<=8)(hl:ws.length<=1099511627776):FnX prog 54 [(vP wb),(vW n),(vI k)] M A λq M J=>q=(vP wb)∧Wtr wb (ws++beN n k) M:=by
 obtain ⟨⟨v,B,rfl,hsl⟩,hlt⟩:=hW;haveI:=hsl.cel;refine Co (N:=33) func54 E E E λw_=>?_;refine A8 (D5 0 1 2) (A1 (as_ (A0 (D5 0 1 2) (A3 (A1 (mv_ ?_))))));refine lQ_ (D2 ((k:Int)-1) E E (V6 E qO qO)) ?_;refine as_ (A0 (D5 0 1 7) (A6 ?_));refine E0 (α:=Nat×Value×Mem) (λx=>[(0,(vP wb)),(1,(vW n)),(7,.int .i64 ((k:Int)-1-(x.1:Int)))]) (λx=>(wb,blk [x.2.1] 126)::x.2.2) (λ_=>[]) (λx=>x.1<=k∧Sl 1 x.2.1 (ws++bes n k x.1).length (nums .u8 (ws++bes n k x.1)) x.2.2) (λx=>k-x.1) ⟨0,v,B⟩ ⟨Am _,by simpa [bes] using hsl⟩ (kq 0 (kq 1 (kp 7 (by simp;rfl) kn))) .rfl qI ?_;clear hsl;rintro ⟨x,v,B⟩ ⟨hx,hsl⟩;dsimp only at hx hsl ⊢;haveI:=hsl.cel;have hbl:=B4r n k x;have hll:(ws++bes n k x).length=ws.length+x:=by rw [An,hbl]
 refine A3 (A1 (mV_ E (lQ_ (E3 E E E) (mv_ ?_))));refine Y0 (t:=12) E (λhb=>?_) (λhb=>?_)
 .
  have hltx:x<k:=by simp at hb;omega
  obtain ⟨m,hm,hm2⟩:∃m:Nat,((k:Int)-1-(x:Int))=(m:Int)∧m=k-1-x:=⟨k-1-x,by omega,E⟩
  rw [hm];refine G1 E E (Cp qm_ E ?_);refine G1 E E (Cp (F6 true E E (ltT qO)) E ?_);refine lQ_ (H6 E E) (A0 (D7 0 1 7 15) ?_);refine E2 E ?_;refine A4 (nx (D5 0 1 7) (A3 (A6 ?_)));refine I1 [0,1,2,3,4,5,6,7,8,9,10,12,13] (zp 0 [0,0,0,0,1,0,0,0,0,0,2,2,0,0,2]) kR kR λhs=>?_;refine fM_ E E (fM_ E E (fQ_ E (F4 E) (fQ_ E (qf_ 0 0) ?_)));refine fR_ E ql_ ?_;refine fM_ E E (fm_ ?_);refine fQ_ E (A1o (a:=8) E E E E qO) ?_;refine fQ_ E (A3H (a:=n) (b:=8*m) E E E E (by show _<=64;omega)) ?_;refine fQ_ E (A12 E kR) ?_
  refine B2h E E λ_=>(C4 (e:=5) (sz:=1) (z:=[zu8]) kR (eS E e0) (bdS 0 1 E qR bd0) E λb28=>?_)
  refine G3 E E E (G6 (e:=5) (sz:=1) (by_:=1) E E kR E (by first|assumption|exact Sl.nil) (Cr (n:=1) Ce qR) (by first|(simp [Value.oneCell'];done)|(intro c hc;simp only [List.mem_singleton] at hc;subst hc;first|exact Rd.one (by assumption)|exact Sl.one (by assumption))) qP (by unfold maxLen;omega) qO E λv29 B29 hs29=>?_);refine fQ_ E (F4 E) (fQ_ E (qf_ 0 0) ?_);refine G3 E E E (E1 E E hs29.one kR Ct Cv ?_);refine U0 (nb (nx (D5 0 1 7) (C1 (mv_ ?_))));refine lQ_ (D2 ((m:Int)-1) E E (V6 E qO qO)) ?_;refine as_ (C5 ?_);exact rn ⟨x+1,v29,B29⟩ ⟨by dsimp only;omega,by dsimp only;rw [B7F,<- Ap,<- hm2];exact W6 hs29 (by simp only [List.length_append,List.length_singleton]) (by simp [nums])⟩ (by dsimp only;omega) (kq 0 (kq 1 (kp 7 (by dsimp only;rw [show ((k:Int)-1-((x+1:Nat):Int))=(m:Int)-1 by omega];rfl) kn))) (Cj (B:=[_]) qP (Ch qP)) (λ_ h=>by first|exact h|cases h)
 .
  have hge:x=k:=by simp at hb;omega
  subst hge;refine K0 E E E E ?_;refine K0 E E E E ?_;refine lQ_ (E8 E E) (A0 (D7 0 1 7 15) ?_);refine C7 E ?_;refine D6 (te (re (be E (nx (D1 0) (A1 (mV_ E (aS_ E (A0 (D1 6) (A9 ?_)))))))));exact ⟨_,(wb,blk [v] 126)::B,[],H2 E E,Ci (Ch qP),E,⟨⟨v,B,E,hsl⟩,B87 hlt (A5T n x)⟩⟩
theorem L8(wb:Nat)(p:Value)(w ws:LN)(M A:Mem)(hW:Wtr wb ws M)(hp:By A p w)(hl:ws.length<=1099511620000):FnX prog 55 [(vP wb),p] M A λq M J=>q=(vP wb)∧Wtr wb (ws++beN w.length 4++w) M:=by
 haveI:=hp.cel;have hpl:=hp.len;refine Co (N:=20) func55 E E E λw_=>?_;refine A8 (D0 0 1) (A1 (as_ (A0 (D0 0 1) (A1 (mv_ (mv_ ?_))))));refine lQ_ (F8 (sz:=1) E kR hp.rd) ?_;refine lQ_ (B1S E kR) ?_;rw [Af (show w.length<18446744073709551616 by omega)];refine A2 E (C8 (Mc:=_) (R:=_) (aS E (aS E (aS E (a0)))) kR qP (Q0 wb w.length 4 ws _ _ hW qO qD qO) E ?_);rintro v9 M9 J9 ⟨rfl,hW9⟩;obtain ⟨⟨v,B,rfl,hsl⟩,hlt⟩:=hW9;haveI:=hsl.cel;have hbl:=I7 w.length 4;have hll:(ws++beN w.length 4).length=ws.length+4:=by rw [An,hbl]
 refine A0 (D0 0 1) (A1 (mV_ E (mV_ E (lQ_ (F4 E) (lQ_ (qf_ 0 0) ?_)))));refine lQ_ ql_ ?_;refine mv_ ?_;refine A2 E (G6 (e:=5) (sz:=1) (by_:=1) E E kR E hsl (hp.rd.mono qS) E7 qP (by unfold maxLen;omega) qO E λv16 B16 hs16=>?_);refine lQ_ (F4 E) (lQ_ (qf_ 0 0) ?_);refine A2 E (E1 E E hs16.one kR Ct Cv ?_);refine A0 (D1 0) (A1 (mv_ (as_ (A0 (D1 4) (A9 ?_)))));exact ⟨_,(wb,blk [v16] 126)::B16,[],H2 E E,Ci (Cj (B:=[_]) qP (Ch qP)),E,⟨⟨v16,B16,E,W6 hs16 (by simp only [List.length_append]) (by simp [nums])⟩,B87 hlt hp.lt⟩⟩
theorem A0o(wb:Nat)(ws:LN)(M A:Mem)(hW:Wtr wb ws M)(hl:ws.length<=16777216):FnX prog 56 [(vP wb)] M A λq M J=>Wtr wb ws M∧By J q ws:=by obtain ⟨⟨v,B,rfl,hsl⟩,hlt⟩:=hW;haveI:=hsl.cel;refine Co (N:=8) func56 E E E λw_=>?_;refine A8 (D1 0) (A1 (aS_ E (A0 (D1 0) (A1 (mV_ E (lQ_ (F4 E) (lQ_ (qf_ 0 0) ?_)))))));refine lQ_ ql_ ?_;refine A2 E (G6 (e:=5) (sz:=1) (by_:=1) E E kR E Sl.nil (hsl.rd qS) E7 qP (by unfold maxLen;omega) qO E λv7 B7 hs7=>?_);refine as_ (A0 (D1 2) (A9 ?_));exact ⟨_,(wb,blk [v] 126)::B,B7,H2 E E,Cj qP (Ch qP),⟨⟨v,B,E,hsl⟩,hlt⟩,⟨by simpa using hs7.rd (R:=B7) qS,hlt,hl⟩⟩

def A97(n:Nat)(w:LN):LN:=beN 6 4++[112,114,101,107,101,121]++beN n 4++(beN w.length 4++w)
theorem C03(h:n<4294967296):IntKind.u64.wrap (n:Int)=(n:Int):=A3X qO qO
theorem C04{b:Nat}{e:TypeId}{fr:Nat×Nat}(hm:(b,Obj.cells (nums .u8 w).toArray e fr)∈R)(hn:w.length=n)(hlt:∀x∈w,x<256)(hl:w.length<=16777216):By R (.slice (some ⟨b,0,none⟩) n n) w:=by subst hn;exact ⟨Cr (n:=w.length) hm qM,hlt,hl⟩
theorem A8d(n:Nat)(v:Value)(w:LN)(A:Mem)(hn:n<4294967296)(hv:By A v w)(hl:w.length<=1000000):FnX prog 41 [(vU n),v] [] A λq M J=>M=[]∧By J q (A97 n w):=by haveI:=hv.cel;refine Co (N:=18) func41 E E E λw_=>?_;refine A8 (D0 0 1) (A1 (as_ (A0 (D0 0 1) (A1 ?_))));refine lQ_ (E6 (place:=λx=>#[(0,1)][x]?) (z:=[vS]) (λ_=>by kernel_rfl) e0 bd0) ?_;refine A2 E (bx_ λb7=>?_);refine as_ (A0 (D5 0 1 5) (A1 (mv_ ?_)));refine A2 E (C4 (e:=5) (sz:=1) (z:=[zu8,zu8,zu8,zu8,zu8,zu8]) kR (eS E (eS E (eS E (eS E (eS E (eS E e0)))))) (bdS 0 1 E qR (bdS 1 1 E qR (bdS 2 1 E qR (bdS 3 1 E qR (bdS 4 1 E qR (bdS 5 1 E qR bd0)))))) E λb9=>?_);refine A2 E (A3E E kR Cv E ?_);refine A2 E (C8 (Mc:=[(b7,blk [vS] 126)]) (R:=_) (aS E (aS E (a0))) kR qP (L8 b7 _ [112,114,101,107,101,121] [] _ _ Wtr.new (C04 Ce qR qD qD) qD) E ?_);rintro v11 M11 J11 ⟨rfl,hW11⟩;refine mv_ ?_;refine lQ_ (K2 (k':=.u64) n E kR (C03 qO)) ?_;refine A2 E (C8 (Mc:=M11) (R:=_) (aS E (aS E (aS E (a0)))) kR qP (Q0 b7 n 4 _ _ _ hW11 qO qD (by simp [I7])) E ?_);rintro v14 M14 J14 ⟨rfl,hW14⟩;refine mv_ ?_;refine A2 E (C8 (Mc:=M14) (R:=_) (aS E (aS E (a0))) kR qP (L8 b7 v w _ _ _ hW14 (hv.mono qS) (by simp [I7])) E ?_);rintro v16 M16 J16 ⟨rfl,hW16⟩;refine A2 E (C8 (Mc:=M16) (R:=_) (aS E (a0)) kR qP (A0o b7 _ _ _ hW16 (by simp [I7];omega)) E ?_);rintro v17 M17 J17 ⟨hW17,hb17⟩;haveI:=hb17.cel;refine as_ (A0 (D1 4) (A9 ?_));exact ⟨_,[],[],H2 E E,qZ,E,by simpa [A97,List.append_assoc] using hb17.mono qS⟩

end Go.Proofs.YtgpjndfgjjlhaaaGreatDoor
