/- Part 12 of the texts of this claim, one behind the other. -/
import Derived.Test.YtjkpfgjfpbihaaaGreatDoorB11
import Derived.Laws.StructEq
import Derived.Laws.Cover3
import Derived.SizedLaws
set_option linter.unusedVariables false
set_option linter.unusedSimpArgs false
set_option maxRecDepth 100000
namespace Go.Px
open Go
theorem A2J:∀ (xs ys:List Nat),xs.length=ys.length->((List.range xs.length).all λ i=>xs.getD i 0 == ys.getD i 0)=decide (xs=ys)
  | [],[],_=>rfl
  | x::xs,y::ys,h=>by have ih:=A2J xs ys (by simpa using h);rw [List.length_cons,List.range_succ_eq_map,List.all_cons,List.all_map];simp only [List.getD_cons_zero,Function.comp_def,List.getD_cons_succ,ih];by_cases hxy:x=y <;> simp [hxy]
  | [],_::_,h=>by simp at h
  | _::_,[],h=>by simp at h
def C2Z(P:Program)(t:TypeId):Option (Nat×IntKind):=match P.underlying t with
  | some (.array n e)=>match P.underlying e with
    | some (.int k)=>if P4 P e=some 1 then some (n,k) else none
    | _=>none
  | _=>none
variable{e:TypeId}{n:Nat}
theorem B2u{P:Program}(h:P4 P e=some n)(w:World):(sizeOf e).run P w=.ok n w:=by
  unfold P4 at h
  cases hi:P.info? e with
  | none=>rw [hi] at h; cases h
  | some i=>rw [hi] at h; simp at h; simp [sizeOf,typeInfo,hi,h]
section
variable{P:Program}{R:Mem}{l:Env}{d:Option Nat}{ty t:TypeId}{pos:String}{af:Array Edge}{g:Option (Nat×Bool)}{x y:Operand}{k:IntKind}
theorem A7b(h:C2Z P t=some (n,k)):∃ e,P.underlying t=some (.array n e)∧P.underlying e=some (.int k)∧P4 P e=some 1:=by
  unfold C2Z at h;split at h
  . rename_i m e h1;split at h
    . rename_i k' h2;split at h
      . rename_i h3;cases h;exact ⟨e,h1,h2,h3⟩
      . cases h
    . cases h
  . cases h
theorem A7c(dp:Nat)(w:World)(ht:P.underlying t=some (.array n e))(he:P.underlying e=some (.int k))(hsz:∀ w,(sizeOf e).run P w=.ok 1 w)
    (xs ys:List Nat) (hx:xs.length=n) (hy:ys.length=n):(Op.equalIn (dp+2) t (.agg (nums k xs).toArray) (.agg (nums k ys).toArray)).run P w=.ok (decide (xs=ys)) w:=by
  rw [<- A2J xs ys (hx.trans hy.symm),hx,List.range_eq_range',Op.equalIn];simp only [Sem.run_bind,run_underlying ht,Result.andThen_ok,hsz,Std.Legacy.Range.forIn_eq_forIn_range',Std.Legacy.Range.size,Nat.sub_zero,Nat.add_sub_cancel,Nat.div_one];have hl:∀ i∈List.range' 0 n 1,i < n:=λ i hi=>by simpa using (List.mem_range'_1.1 hi).2
  generalize List.range' 0 n 1=r at hl ⊢
  induction r with
  | nil=>simp
  | cons i r ih =>
    have hi:i < n:=hl i (by simp);have gx:xs.getD i 0=xs[i]'(by omega):=by simp [List.getD,List.getElem?_eq_getElem (show i < xs.length by omega)]
    have gy:ys.getD i 0=ys[i]'(by omega):=by simp [List.getD,List.getElem?_eq_getElem (show i < ys.length by omega)]
    have px:(part e (nums k xs).toArray (i * 1)).run P w=.ok (.int k ((xs.getD i 0:Nat):Int)) w:=by rw [gx]; simp [nums,part,isAgg,run_underlying he,List.getElem?_eq_getElem (show i < xs.length by omega)]
    have py:(part e (nums k ys).toArray (i * 1)).run P w=.ok (.int k ((ys.getD i 0:Nat):Int)) w:=by rw [gy]; simp [nums,part,isAgg,run_underlying he,List.getElem?_eq_getElem (show i < ys.length by omega)]
    have pe:(Op.equalIn (dp+1) e (.int k ((xs.getD i 0:Nat):Int)) (.int k ((ys.getD i 0:Nat):Int))).run P w=.ok (xs.getD i 0 == ys.getD i 0) w:=by rw [run_equalIn_int w dp e k k _ _ he];congr 1;rw [Bool.eq_iff_iff];simp only [beq_iff_eq];omega
    simp only [List.forIn_cons,Sem.run_bind,px,py,pe,Result.andThen_ok,List.all_cons];cases hb:(xs.getD i 0 == ys.getD i 0)
    . simp
    . simp only [Bool.not_true,Bool.false_eq_true,if_false,Sem.run_pure,Result.andThen_ok,Bool.true_and];exact ih λ j hj=>hl j (by simp [hj])
theorem B9e{t':TypeId}{xs ys:List Nat}(hx:ev l x=some (.agg (nums k xs).toArray))(hy:ev l y=some (.agg (nums k ys).toArray))(ht:C2Z P t=some (n,k))(hg:P.eqGuardType P.depth t=false)(hxl:xs.length=n)(hyl:ys.length=n) :
    OpQ P R ⟨d,.binOp .neq t x y t',ty,pos,af,g⟩ l (.bool !(decide (xs=ys))):=λ N A w ha hw=>by
  obtain ⟨e,h1,h2,h3⟩:=A7b ht;simp only [execOp,ha.ev hx,ha.ev hy,Sem.run_bind,run_eqGuard_agg w _ _ _ _ _ _ hg,Result.andThen_ok,run_neq_struct];have hq:(Op.equalIn 10000 t (.agg (nums k xs).toArray) (.agg (nums k ys).toArray)).run P w=_:=A7c 9998 w h1 h2 (λ w=>B2u h3 w) xs ys hxl hyl;simp only [hq,Result.andThen_ok,Sem.run_pure]
theorem B5R{m c:Nat}{p:Option Addr}(hx:ev l x=some (.slice p m c))(ht:C2Z P t=some (n,k))(hn:n<=m):OpQ P R ⟨d,.sliceToArrayPointer t x,ty,pos,af,g⟩ l (.pointer p):=λ N A w ha hw=>by obtain ⟨e,h1,-,-⟩:=A7b ht;simp [execOp,ha.ev hx,run_arrayAt w t e n p m c h1 hn]
end
end Go.Px

namespace Go.Proofs.YtjkpfgjfpbihaaaGreatDoor
open Go.Px
structure GlS(A:Mem):Prop where
  first:∃ e f,(0,Obj.cells (nums .u32 A27.list).toArray e f)∈A
  round:∃ e f,(1,Obj.cells (nums .u32 A2c).toArray e f)∈A
theorem GlS.sub{A A':Mem}(h:GlS A)(hs:∀ x,x∈A->x∈A'):GlS A':=by obtain ⟨⟨a,b,c⟩,⟨d,e,f⟩⟩:=h;exact ⟨⟨a,b,hs _ c⟩,⟨d,e,hs _ f⟩⟩
theorem GlS.up{M J A:Mem}(h:GlS A):GlS (M++(J++A)):=h.sub λ _ h=>mA h
theorem A1D(p:LN):(B0p p).length=64:=by simp [B0p,A0e]
theorem A7Y(p:LN):∀ x∈B0p p,x < 256:=by intro x hx;rcases List.mem_append.1 hx with h | h <;> exact A6C _ x h
variable{w:LN}{n:Nat}
theorem B5S{R B:Mem}{v:Value}(h:Sl 1 v n (nums .u8 w) B)(hn:n=w.length)(hlt:∀ x∈w,x < 256)(hl:w.length<=16777216)(hR:∀ x,x∈B->x∈R):By R v w:=⟨hn▸h.rd hR,hlt,hl⟩
theorem B9f{k:IntKind}(x y:Nat):I8 .geq k (x:Int) (y:Int)=some (.bool (decide (y<=x))):=by
  by_cases h:y<=x
  . rw [decide_eq_true h]; exact geT qO
  . rw [decide_eq_false h]; exact geF qO
theorem B9g(h:n < lN):bv (Q9 n 32)=n:=by rw [B82,Af (Nat.lt_trans h qD)]
def RdR(r:Value)(w:LN):Prop:=∃ V b,r=.tuple #[V,.bool b]∧((∃ P,U5 w=some P∧b=true∧FeP V P)∨(U5 w=none∧b=false∧FeP V pZ))
theorem B2v(h:¬ w.length=32):U5 w=none:=if_neg h
theorem A96(h:atN (rdN w) (decide (128<=w.getD 31 0))=none):U5 w=none:=by
  unfold U5;split
  . rw [h]
  . rfl
variable{x:Nat}
theorem B5T(hl:w.length=32)(h:atN (rdN w) (decide (128<=w.getD 31 0))=some x)(hb:¬ pB (pAt x (rdN w))=w):U5 w=none:=by unfold U5;rw [if_pos hl,h];exact if_neg hb
theorem B5U(hl:w.length=32)(h:atN (rdN w) (decide (128<=w.getD 31 0))=some x)(hb:pB (pAt x (rdN w))=w):U5 w=some (pAt x (rdN w)):=by unfold U5;rw [if_pos hl,h];exact if_pos hb
theorem B9h(V W:Value)(P Q:Pt)(hV:FeP V P)(hW:FeP W Q)(A:Mem):FnX Tryz.prog 139 [V,W] [] A λ r M J=>M=[]∧J=[]∧FeP r (A7z d2N P Q):=by have hP0:=hV;have hQ0:=hW;obtain ⟨xsp,rfl,p0,p1,p2,p3,p4,p5,p6,p7,p8,p9,p10,p11,p12,p13,p14,p15,p16,p17,p18,p19,rfl,hPX,hPY,hPZ,hPT⟩:=hV;dsimp only [nums,List.map];obtain ⟨xsq,rfl,q0,q1,q2,q3,q4,q5,q6,q7,q8,q9,q10,q11,q12,q13,q14,q15,q16,q17,q18,q19,rfl,hQX,hQY,hQZ,hQT⟩:=hW;dsimp only [nums,List.map];refine Ck (N:=11) Tryz.func139 E E E λ w=>?_;refine A9 (D2 0 1) (A1 ?_);refine A3 E (bx_ λ b2=>?_);refine A3 E (bx_ λ b3=>?_);refine A3 E (C3 (cs:=[C1,C1,C1,C1,C1,C1,C1,C1,C1,C1,C1,C1,C1,C1,C1,C1,C1,C1,C1,C1]) kR E λ b4=>?_);refine A0 (D6 2 3 4) ?_;refine D1 [0,1,2,3,4,5] (zp 0 [1,1,2,2,2,2,2]) kR kR λ hs=>?_;refine F9 hs E (qw_ 20) E ?_;refine F9 hs E (qw_ 20) E ?_;refine G9 E (aS E a0) kR (A06 2 qD _) E ?_;rintro rn2 Mn2 Jn2 ⟨rfl,rfl,kn2⟩;have hn2:=kn2;obtain ⟨an2,bn2,cn2,dn2,en2,rfl,-⟩:=kn2;refine G9 E a0 kR (A7Q _) E ?_;rintro rn3 Mn3 Jn3 ⟨rfl,rfl,kn3⟩;have hn3:=kn3;obtain ⟨an3,bn3,cn3,dn3,en3,rfl,-⟩:=kn3;refine G9 E (aS E (aS E a0)) kR (U4 hn2 hn3 _) E ?_;rintro rn4 Mn4 Jn4 ⟨rfl,rfl,kn4⟩;rw [C1C] at kn4;have hn4:=kn4;obtain ⟨an4,bn4,cn4,dn4,en4,rfl,-⟩:=kn4;refine G9 E (aS E (aS E (aS E a0))) kR (B1T _ _ _ P Q d2N hP0 hQ0 hn4 _) E ?_;rintro r5 M5 J5 ⟨rfl,rfl,h5⟩;have h50:=h5;obtain ⟨xsz,rfl,z0,z1,z2,z3,z4,z5,z6,z7,z8,z9,z10,z11,z12,z13,z14,z15,z16,z17,z18,z19,rfl,h5X,h5Y,h5Z,h5T⟩:=h5;dsimp only [nums,List.map];refine G1 E E E (A7 E E Cd kR A3s A3t Cs ?_);refine E3 (D5 4) (C0 ?_);exact ⟨_,[],[],A00 E E kR Cc qR,Aa _,by simp,E,E,h50⟩
theorem B9i(V W:Value)(P Q:Pt)(hV:FeP V P)(hW:FeP W Q)(A:Mem):FnV Tryz.prog 140 [V,W] A (.bool (A94 P Q)):=by
 obtain ⟨xsp,rfl,p0,p1,p2,p3,p4,p5,p6,p7,p8,p9,p10,p11,p12,p13,p14,p15,p16,p17,p18,p19,rfl,hPX,hPY,hPZ,hPT⟩:=hV;dsimp only [nums,List.map];obtain ⟨xsq,rfl,q0,q1,q2,q3,q4,q5,q6,q7,q8,q9,q10,q11,q12,q13,q14,q15,q16,q17,q18,q19,rfl,hQX,hQY,hQZ,hQT⟩:=hW;dsimp only [nums,List.map];refine Ck (N:=29) Tryz.func140 E E E λ w=>?_;refine A9 (D2 0 1) (A1 ?_);refine A3 E (bx_ λ b2=>?_);refine A3 E (bx_ λ b3=>?_);refine as_ (A0 (D2 2 3) ?_);refine D1 (.range 25) [(0,0),(1,1),(2,0),(3,1),(5,0),(6,1),(7,0),(8,1),(4,2),(9,2),(10,2),(11,0),(12,0),(13,1),(14,0),(15,1),(17,0),(18,1),(19,0),(20,1),(16,2),(21,2),(22,2),(23,0),(24,0)] kR kR λ hs=>?_;refine C8 hs E (qf_ 0 0) E ?_;refine F9 hs E (I1 (n:=5) E kR (by first | exact Cc | exact mA (by assumption)) Cr) E ?_;refine C8 hs E (qf_ 10 10) E ?_;refine F9 hs E (I1 (n:=5) E kR (by first | exact Cc | exact mA (by assumption)) Cr) E ?_;refine C8 hs E (qf_ 0 0) E ?_;refine F9 hs E (I1 (n:=5) E kR (by first | exact Cc | exact mA (by assumption)) Cr) E ?_;refine C8 hs E (qf_ 10 10) E ?_;refine F9 hs E (I1 (n:=5) E kR (by first | exact Cc | exact mA (by assumption)) Cr) E ?_;refine G9 E (aS E (aS E a0)) kR (U4 hPX hQZ _) E ?_;rintro rn4 Mn4 Jn4 ⟨rfl,rfl,kn4⟩;have hn4:=kn4;obtain ⟨an4,bn4,cn4,dn4,en4,rfl,-⟩:=kn4;refine G9 E (aS E (aS E a0)) kR (U4 hQX hPZ _) E ?_;rintro rn9 Mn9 Jn9 ⟨rfl,rfl,kn9⟩;have hn9:=kn9;obtain ⟨an9,bn9,cn9,dn9,en9,rfl,-⟩:=kn9;refine N3 E (aS E (aS E a0)) kR (A0N _ _ _ _ hn4 hn9 _) E ?_;refine fm_ hs ?_;refine Z9 (t:=16) E (λ hb=>?_) (λ hb=>?_)
 . have hx:fM P.X Q.Z=fM Q.X P.Z:=of_decide_eq_true hb;refine H9 hs E E E E (qf_ 5 5) E ?_;refine Z0 hs E E E E (I1 (n:=5) E kR (by first | exact Cc | exact mA (by assumption)) Cr) E ?_;refine H9 hs E E E E (qf_ 10 10) E ?_;refine Z0 hs E E E E (I1 (n:=5) E kR (by first | exact Cc | exact mA (by assumption)) Cr) E ?_;refine H9 hs E E E E (qf_ 5 5) E ?_;refine Z0 hs E E E E (I1 (n:=5) E kR (by first | exact Cc | exact mA (by assumption)) Cr) E ?_;refine H9 hs E E E E (qf_ 10 10) E ?_;refine Z0 hs E E E E (I1 (n:=5) E kR (by first | exact Cc | exact mA (by assumption)) Cr) E ?_;refine A2o E E E E (aS E (aS E a0)) kR (U4 hPY hQZ _) E ?_;rintro rn16 Mn16 Jn16 ⟨rfl,rfl,kn16⟩;have hn16:=kn16;obtain ⟨an16,bn16,cn16,dn16,en16,rfl,-⟩:=kn16;refine A2o E E E E (aS E (aS E a0)) kR (U4 hQY hPZ _) E ?_;rintro rn21 Mn21 Jn21 ⟨rfl,rfl,kn21⟩;have hn21:=kn21;obtain ⟨an21,bn21,cn21,dn21,en21,rfl,-⟩:=kn21;refine A2p E E E E (aS E (aS E a0)) kR (A0N _ _ _ _ hn16 hn21 _) E ?_;refine C8 hs E (G8 E E) E ?_;refine fa_ hs ?_;refine E3 (D5 4) (C0 ?_);exact ⟨_,[],[],I0 E E,Aa _,by simp,by unfold A94; rw [decide_eq_true hx]; rfl,E,E⟩
 . have hx:¬ fM P.X Q.Z=fM Q.X P.Z:=of_decide_eq_false hb;refine L2 hs ?_;refine W1 hs ?_;refine L2 hs ?_;refine W1 hs ?_;refine L2 hs ?_;refine W1 hs ?_;refine L2 hs ?_;refine W1 hs ?_;refine A6E hs E E E E E E ?_;refine A6E hs E E E E E E ?_;refine A6E hs E E E E E E ?_;refine C8 hs E (F2 E E) E ?_;refine fa_ hs ?_;refine E3 (D5 4) (C0 ?_);exact ⟨_,[],[],I0 E E,Aa _,by simp,by unfold A94; rw [decide_eq_false hx]; rfl,E,E⟩
theorem B2w(v:Value)(ws:LN)(A:Mem)(hv:By A v ws):FnX Tryz.prog 138 [v] [] A λ r M J=>M=[]∧J=[]∧RdR r ws:=by
 haveI:=hv.cel;have hvl:=hv.len;refine Ck (N:=32) Tryz.func138 E E E λ w=>?_;refine A9 (D5 0) (A1 ?_);refine A3 E (C3 (cs:=[C1,C1,C1,C1,C1,C1,C1,C1,C1,C1,C1,C1,C1,C1,C1,C1,C1,C1,C1,C1]) kR E λ b2=>?_);refine as_ (A0 (D2 0 2) (A4 (A1 (mv_ ?_))));refine A2 (G6 (sz:=1) E kR hv.rd) E ?_;refine A2 (F0 E E E) E ?_;refine A0 (D6 0 2 8) ?_;refine C4 E ?_ ?_ <;> intro hc
 .
  have h32:¬ ws.length=32:=by simp at hc; omega
  refine A1 ?_;refine A2 (F1 (place:=λ x=>#[(0,5),(5,5),(10,5),(15,5)][x]?) (z:=[C1,C1,C1,C1,C1,C1,C1,C1,C1,C1,C1,C1,C1,C1,C1,C1,C1,C1,C1,C1]) (λ _=>by kernel_rfl) e0 bd0) E ?_;refine A3 E (A7 E E Cd kR A3s A3t Cs ?_);refine as_ (A0 (D2 2 3) (C0 (tr ?_)));exact ⟨_,[],[],A0k E E E kR Cc qR,Aa _,by simp,E,E,⟨_,_,E,.inr ⟨B2v h32,E,⟨_,E,_,_,_,_,_,_,_,_,_,_,_,_,_,_,_,_,_,_,_,_,E,L4,L4,L4,L4⟩⟩⟩⟩
 .
  have h32:ws.length=32:=by simp at hc; omega
  refine A6 (nx (D2 0 2) ?_);refine F8 ([]) (_) true [0,1,2,3,4,5,6,7,8,9,10,12] [(0,0),(2,0),(3,0),(4,1),(5,0),(1,8),(6,8),(7,8),(8,8),(10,8),(9,10),(11,2),(12,0)] kR kR qP λ hs K n0 hKm hKs hKn=>?_;refine km_ hs ?_;refine km_ hs ?_;refine G7 hs E (H4 (sz:=1) (a:=31) E E kR E hv.rd qO) E ?_;refine K0 hs E hKs (Y9 (j:=31) (u:=.int .u8 ((ws.getD 31 0:Nat):Int)) (hv.rd.mono qS) E kR (V9 qO)) ?_;refine G7 hs E (F5 (decide (128<=ws.getD 31 0)) E E (B9f _ 128)) E ?_
  refine W2 [⟨1,12,none,[],λ v B _=>B=[]∧Fe v (rdN ws)⟩,⟨6,17,none,[],λ v B _=>B=[]∧AtR v (rdN ws) (decide (128<=ws.getD 31 0))⟩,⟨7,10,none,[],λ v B _=>B=[]∧AtR v (rdN ws) (decide (128<=ws.getD 31 0))⟩,⟨8,18,none,[],λ v B _=>B=[]∧∃ P,FeP v P∧∀ x,atN (rdN ws) (decide (128<=ws.getD 31 0))=some x->P=pAt x (rdN ws)⟩,⟨10,4,none,[],λ v B _=>∃ b,v=(vP b)∧B=[(b,blk [.int .u64 0,.int .u64 0,.int .u64 0,.int .u64 0,.int .u64 0,.int .u64 0,.int .u64 0,.int .u64 0,.int .u64 0,.int .u64 0,.int .u64 0,.int .u64 0,.int .u64 0,.int .u64 0,.int .u64 0,.int .u64 0,.int .u64 0,.int .u64 0,.int .u64 0,.int .u64 0] 202)]⟩] [⟨9,19,none,[],λ v B _=>B=[]∧v=.bool (atN (rdN ws) (decide (128<=ws.getD 31 0))).isSome⟩] (_) (λ bs=>[bs 1,bs 6,bs 7,bs 8,bs 10,bs 9]) (hKn E) (Ah _) gk0 kR (λ _=>by first | rfl | kernel_rfl)
   gA nd_ nd_ dl_
   hs (List.cons_ne_nil _ _) (gC ?_ (gC ?_ (gC ?_ (gC ?_ (gC ?_ (I7)))))) (A5 ⟨E,E,_,_,_,_,E,λ vs bs Rj hj ha=>?_⟩ (I7)) ?_
  . intro _ _ _ _ _ hb _ _ _;dsimp only [Gc.inp];refine E2 (aS E a0) kR (A43 v ws _ (hv.rd.mono (λ x hx=>by have:=hb x (by simp [hx]); simp [this])) hv.lt qO) E ?_;rintro r M1 J1 ⟨rfl,rfl,hh⟩;exact ⟨_,E,E,hh⟩
  . intro _ _ _ _ _ _ _ _ ha;dsimp only [Gc.inp];have g1:=gx 0 ha;dsimp only at g1;obtain ⟨-,k1⟩:=g1;refine E2 (aS E (aS E a0)) kR (at_f _ _ _ k1 _) E ?_;rintro r M1 J1 ⟨rfl,rfl,hh⟩;exact ⟨_,E,E,hh⟩
  . intro _ _ _ _ _ _ _ _ ha;dsimp only [Gc.inp];have g6:=gx 1 ha;dsimp only at g6;obtain ⟨-,k6⟩:=g6;exact Cn qm_ E ⟨_,E,E,k6⟩
  .
   intro vs bs _ _ _ _ _ _ ha;dsimp only [Gc.inp];have g7:=gx 2 ha;dsimp only at g7;obtain ⟨-,k7⟩:=g7;obtain ⟨V,b,hw,hr⟩:=k7;refine Cn (H0 (vs:=#[V,.bool b]) (by rw [<- hw]; rfl) E) E ⟨_,E,E,?_⟩;rcases hr with ⟨x,h1,-,h2⟩ | ⟨h1,-,h2⟩
   . exact ⟨_,h2,λ y hy=>by rw [h1] at hy; cases hy; rfl⟩
   . exact ⟨_,h2,λ y hy=>by rw [h1] at hy; cases hy⟩
  .
   intros
   dsimp only [Gc.inp]
   exact C3 (cs:=[C1,C1,C1,C1,C1,C1,C1,C1,C1,C1,C1,C1,C1,C1,C1,C1,C1,C1,C1,C1]) kR E λ b=>⟨_,E,b,E,E⟩
  . have g7:=gx 2 ha;dsimp only at g7;obtain ⟨-,k7⟩:=g7;obtain ⟨V,b,hw,hr⟩:=k7;refine ⟨.bool b,H0 (vs:=#[V,.bool b]) (by rw [<- hw]; rfl) E,E,?_⟩;rcases hr with ⟨x,h1,rfl,-⟩ | ⟨h1,rfl,-⟩ <;> rw [h1] <;> rfl
  intro vs bs Jn0 hφ hKK;clear hKK;have g1:=gy 0 hφ;have g6:=gy 1 hφ;have g7:=gy 2 hφ;have g8:=gy 3 hφ;have g10:=gy 4 hφ;have g9:=gy 5 hφ;dsimp only at g1 g6 g7 g8 g10 g9;clear hφ;dsimp only [Q0,U2,List.foldr,List.map,List.cons_append,List.nil_append];generalize bs 1=B12,bs 6=B17,bs 7=B10,bs 8=B18,bs 10=B4,bs 9=B19,vs 1=u12,vs 6=u17,vs 7=u10,vs 8=u18,vs 10=u4,vs 9=u19 at *;obtain ⟨rfl,-⟩:=g1;obtain ⟨rfl,-⟩:=g6;obtain ⟨rfl,-⟩:=g7;obtain ⟨rfl,P,hP,hPx⟩:=g8;obtain ⟨rfl,h9⟩:=g9;obtain ⟨b10,rfl,rfl⟩:=g10
  obtain ⟨o,ho⟩:∃ o,atN (rdN ws) (decide (128<=ws.getD 31 0))=o:=⟨_,E⟩
  rw [ho] at hPx h9;subst h9;have hP0:=hP;obtain ⟨xsp,rfl,p0,p1,p2,p3,p4,p5,p6,p7,p8,p9,p10,p11,p12,p13,p14,p15,p16,p17,p18,p19,rfl,hpX,hpY,hpZ,hpT⟩:=hP;dsimp only [nums,List.map];dsimp only [List.append_eq,List.nil_append,List.cons_append];refine K5 E E E (A7 E E Cd kR A3s A3t Cs ?_);refine G7 hs E (G4 E) E ?_;refine I3 (D8 0 2 4 5) (A4 ?_);rcases o with _ | xo
  . refine D1 (.range 10) [(0,0),(1,0),(2,0),(3,1),(6,0),(7,1),(4,2),(5,1),(8,0),(9,0)] kR kR λ hs=>?_;refine fm_ hs ?_;refine C8 hs E (U0 E) E ?_;refine fm_ hs ?_;refine W1 hs ?_;refine L2 hs ?_;refine W1 hs ?_;refine A6E hs E E E E E E ?_;refine W1 hs ?_;refine L2 hs ?_;refine C8 hs E (G8 E E) E ?_;refine E3 (D6 2 4 29) ?_;refine E1 E ?_;refine A1 ?_;refine A2 (F1 (place:=λ x=>#[(0,5),(5,5),(10,5),(15,5)][x]?) (z:=[C1,C1,C1,C1,C1,C1,C1,C1,C1,C1,C1,C1,C1,C1,C1,C1,C1,C1,C1,C1]) (λ _=>by kernel_rfl) e0 bd0) E ?_;refine A3 E (A7 E E Cd kR A3s A3t Cs ?_);refine as_ (A0 (D2 2 3) (C0 (tr ?_)));exact ⟨_,[],[],A0k E E E kR Cc qR,Aa _,by simp,E,E,⟨_,_,E,.inr ⟨A96 ho,E,⟨_,E,_,_,_,_,_,_,_,_,_,_,_,_,_,_,_,_,_,_,_,_,E,L4,L4,L4,L4⟩⟩⟩⟩
  .
   refine D1 (.range 10) [(0,0),(1,0),(2,0),(3,1),(6,0),(4,3),(5,3),(7,4),(8,0),(9,0)] kR kR λ hs=>?_;refine fm_ hs ?_;refine C8 hs E (U0 E) E ?_;refine fm_ hs ?_;refine Z0 hs E E E E (qw_ 20) E ?_;refine H9 hs E E E E qm_ E ?_
   refine N6 [⟨4,24,λ v B R=>Sl 1 v 32 (nums .u8 (pB P)) B∧∀ x∈B,x∈R⟩,⟨5,25,λ v B _=>B=[]∧v=.string (txt (pB P))⟩,⟨7,27,λ v B _=>B=[]∧v=.string (txt ws)⟩]
    (A5 (λ _ _ _ _ hR h=>⟨h.1,λ x hx=>hR x (h.2 x hx)⟩) (A5 gM (A5 gM (I7)))) nd_ nd_ dl_
    (A5 ⟨_,E,λ vs bs R w hb ha=>⟨.inr ⟨_,_,_,_,E,E,E,E⟩,?_⟩⟩ (A5 ⟨_,E,λ vs bs R w hb ha=>⟨.inr ⟨_,_,_,_,E,E,E,E⟩,?_⟩⟩ (A5 ⟨_,E,λ vs bs R w hb ha=>⟨.inr ⟨_,_,_,_,E,E,E,E⟩,?_⟩⟩ (I7)))) ?_
   . refine E2 (aS E a0) kR (A5N _ P hP0 _) E ?_;rintro r M1 J1 ⟨rfl,hh⟩;exact ⟨_,E,by simpa using hh,λ x hx=>Ae _ hx⟩
   . have g4:=gx 0 ha;dsimp only at g4;obtain ⟨k4,k4s⟩:=g4;exact Cn (N5 E kR (k4.rd λ x hx=>k4s x hx)) E ⟨_,E,E,E⟩
   . exact Cn (N5 E kR (hv.rd.mono λ x hx=>hb _ (qS x hx))) E ⟨_,E,E,E⟩
   intro vs bs Jn0 hφ;have g4:=gy 0 hφ;have g5:=gy 1 hφ;have g7:=gy 2 hφ;dsimp only at g4 g5 g7;clear hφ;dsimp only [V2,Q6,List.map,List.flatten,List.cons_append,List.nil_append];generalize bs 4=B24,bs 5=B25,bs 7=B27,vs 4=u24,vs 5=u25,vs 7=u27 at *;obtain ⟨k4,-⟩:=g4;obtain ⟨rfl,rfl⟩:=g5;obtain ⟨rfl,rfl⟩:=g7;obtain rfl:=hPx _ rfl;dsimp only [List.append_eq,List.nil_append,List.cons_append];refine H9 hs E E E E (B02 E E E E (B5H _) hv.lt) E ?_;refine C8 hs E (F2 E E) E ?_;refine E3 (D6 2 4 29) ?_;refine C4 E ?_ ?_ <;> intro hc
   .
    have hne:¬ pB (pAt xo (rdN ws))=ws:=by simpa using hc
    refine A1 ?_;refine A2 (F1 (place:=λ x=>#[(0,5),(5,5),(10,5),(15,5)][x]?) (z:=[C1,C1,C1,C1,C1,C1,C1,C1,C1,C1,C1,C1,C1,C1,C1,C1,C1,C1,C1,C1]) (λ _=>by kernel_rfl) e0 bd0) E ?_;refine A3 E (A7 E E Cd kR A3s A3t Cs ?_);refine as_ (A0 (D2 2 3) (C0 (tr ?_)));exact ⟨_,[],[],A0k E E E kR Cc qR,Aa _,by simp,E,E,⟨_,_,E,.inr ⟨B5T h32 ho hne,E,⟨_,E,_,_,_,_,_,_,_,_,_,_,_,_,_,_,_,_,_,_,_,_,E,L4,L4,L4,L4⟩⟩⟩⟩
   .
    have hne:pB (pAt xo (rdN ws))=ws:=by simpa using hc
    refine A6 (nx (D2 2 4) (A1 ?_));refine A2 (qw_ 20) E ?_;refine A3 E (A7 E E Cd kR A3s A3t Cs ?_);refine as_ (A0 (D2 2 3) (C0 ?_));exact ⟨_,[],[],A0k E E E kR Cc qR,Aa _,by simp,E,E,⟨_,_,E,.inl ⟨_,B5U h32 ho hne,E,hP0⟩⟩⟩

def P3(w:LN):LN:=(λ e:LN=>(e.set 0 (e.getD 0 0 &&& 248)).set 31 ((e.set 0 (e.getD 0 0 &&& 248)).getD 31 0 % 128 ||| 64)) (I5 w 32)
theorem B2x(w:LN):I5 w 32=w.take 32++(List.replicate 32 0).drop w.length:=by unfold I5; rw [List.drop_replicate]
theorem A46(w:LN):(P3 w).length=32:=by simp [P3,L7]
structure Lad where
  a:Nat
  b:Nat
  c:Nat
  d:Nat
def A7d(u:Nat)(s:Lad):Lad :=
  let p:=fA s.a s.b
  let q:=fS s.a s.b
  let ss:=fM p p
  let tt:=fM q q
  let e:=fS ss tt
  let da:=fM (fS s.c s.d) p
  let cb:=fM (fA s.c s.d) q
  ⟨fM ss tt,fM e (fA ss (fM 121665 e)),fM (fA da cb) (fA da cb),fM u (fM (fS da cb) (fS da cb))⟩
def swL(b:Bool)(s:Lad):Lad:=if b then ⟨s.c,s.d,s.a,s.b⟩ else s
def A5V(u n:Nat):Nat->Lad
  | 0=>⟨1,0,u,1⟩
  | k+1=>(λ bt=>swL bt (A7d u (swL bt (A5V u n k)))) (decide (n / 2 ^ (254 - k) % 2=1))
theorem A7e{u i:Nat}(h:i < 255):A5V u n (255 - i)=swL (decide (n / 2 ^ i % 2=1)) (A7d u (swL (decide (n / 2 ^ i % 2=1)) (A5V u n (255 - (i+1))))):=by
  obtain ⟨k,hk⟩:∃ k,255 - i=k+1:=⟨254 - i,by omega⟩
  have e1:255 - (i+1)=k:=by omega
  have e2:i=254 - k:=by omega
  rw [hk,e1,e2]; rfl
noncomputable def x25(s p:LN):LN:=A0Q 8 32 (fM (A5V (rdN p) (bv (P3 s)) 255).a (fI (A5V (rdN p) (bv (P3 s)) 255).b)) 255
def B9j:LN:=9::List.replicate 31 0
noncomputable def A4g(s:LN):LN:=x25 s B9j
theorem A4h(s p:LN):(x25 s p).length=32:=by simp [x25,P9]
theorem C1O(s p:LN):∀ x∈x25 s p,x < 256:=A0X _ _
theorem B7y(h:x < 256):(x &&& 248) < 256:=Be Nat.and_le_left h
theorem or64(h:x < 128):(x ||| 64) < 256:=Bp (Nat.or_lt_two_pow (n:=7) h qD) qD
theorem B2y(h:∀ x∈w,x < 256):∀ x∈P3 w,x < 256:=by
  intro x hx;have hf:=A2V h 32;unfold P3 at hx;rcases Bf hx with h1 | rfl
  . rcases Bf h1 with h1 | rfl
    . exact hf x h1
    . exact B7y (Go.Px.getD_lt hf qD)
  . exact or64 (Ad _ qD)
theorem B9k(v:Value)(wc:LN)(A:Mem)(hv:By A v wc):FnV Tryz.prog 107 [v] A (.agg (nums .u8 (P3 wc)).toArray):=by haveI:=hv.cel;have hvl:=hv.len;refine Ck (N:=17) Tryz.func107 E E E λ w=>?_;refine A9 (D5 0) (A1 ?_);refine A3 E (C3 (cs:=[zu8,zu8,zu8,zu8,zu8,zu8,zu8,zu8,zu8,zu8,zu8,zu8,zu8,zu8,zu8,zu8,zu8,zu8,zu8,zu8,zu8,zu8,zu8,zu8,zu8,zu8,zu8,zu8,zu8,zu8,zu8,zu8]) kR E λ b2=>?_);refine A0 (D2 0 2) (A1 ?_);refine A3 E (C3 (cs:=[zu8,zu8,zu8,zu8,zu8,zu8,zu8,zu8,zu8,zu8,zu8,zu8,zu8,zu8,zu8,zu8,zu8,zu8,zu8,zu8,zu8,zu8,zu8,zu8,zu8,zu8,zu8,zu8,zu8,zu8,zu8,zu8]) kR E λ b3=>?_);refine A0 (D6 0 2 3) ?_;refine A0H (M':=[(b3,blk (nums .u8 (List.replicate 32 0)) 188),(b2,blk [.int .u8 0,.int .u8 0,.int .u8 0,.int .u8 0,.int .u8 0,.int .u8 0,.int .u8 0,.int .u8 0,.int .u8 0,.int .u8 0,.int .u8 0,.int .u8 0,.int .u8 0,.int .u8 0,.int .u8 0,.int .u8 0,.int .u8 0,.int .u8 0,.int .u8 0,.int .u8 0,.int .u8 0,.int .u8 0,.int .u8 0,.int .u8 0,.int .u8 0,.int .u8 0,.int .u8 0,.int .u8 0,.int .u8 0,.int .u8 0,.int .u8 0,.int .u8 0] 188)]) (Ce E) qI ?_;refine A1 ?_;refine A2 (B0Y (sz:=1) (e:=5) (n:=32) E kR kR) E ?_;refine mv_ ?_;refine A3 E (A30 (e:=5) (us:=wc) (ws:=List.replicate 32 0) (ws':=I5 wc 32) (by_:=1) E E kR (hv.rd.mono qS) qM (B2x wc) Cs E ?_);have hfl:=L7 wc 32;have hflt:=A2V hv.lt 32;have hcl:P3 wc=((I5 wc 32).set 0 ((I5 wc 32).getD 0 0 &&& 248)).set 31 (((I5 wc 32).set 0 ((I5 wc 32).getD 0 0 &&& 248)).getD 31 0 % 128 ||| 64):=rfl;generalize I5 wc 32=e at *;have he0:e.getD 0 0 < 256:=Go.Px.getD_lt hflt qD;have he1:(e.set 0 (e.getD 0 0 &&& 248)).getD 31 0 < 256:=Go.Px.getD_lt (λ x hx=>by rcases Bf hx with h | rfl; exact hflt x h; exact B7y he0) qD;refine A0 (D2 2 3) (A1 ?_);refine A2 (G2 (e:=5) (n:=32) (sz:=1) (i:=0) E E kR kR E qO) E ?_;refine A2 (I6 0 E kR Cc E qO) E ?_;refine A2 (A4C (b:=248) E E E (by show _ < 256; exact he0) qD) E ?_;refine A2 (G2 (e:=5) (n:=32) (sz:=1) (i:=0) E E kR kR E qO) E ?_;refine A3 E (K8 0 E E kR E qO Cs ?_);refine A0 (D2 2 3) (A1 ?_);refine A2 (G2 (e:=5) (n:=32) (sz:=1) (i:=31) E E kR kR E qO) E ?_;refine A2 (I6 31 E kR Cc E (by rw [Bk]; omega)) E ?_;refine A2 (N4 7 128 E E E E E (by show _ < 256; exact he1) qD) E ?_;refine A2 (B4A (b:=64) E E E (by show _ < 256; exact Nat.lt_trans (Ad _ qD) qD) qD) E ?_;refine A2 (G2 (e:=5) (n:=32) (sz:=1) (i:=31) E E kR kR E qO) E ?_;refine A3 E (K8 31 E E kR E (by rw [Bk]; omega) Cs ?_);rw [<- hcl];have hcn:=A46 wc;refine A0 (D2 2 3) (A1 ?_);refine A2 (H6 (n:=32) (cs:=nums .u8 (P3 wc)) E kR Cc (by rw [nums_len]; omega)) E ?_;refine A3 E (A7 (vs:=nums .u8 (P3 wc)) E E E (by rw [nums_len,hcn]; kernel_rfl) (by rw [nums_len,hcn]; rfl) E9 Cs ?_);refine A0 (D5 2) (C0 ?_);exact ⟨_,[],[],A00 (n:=32) E E kR Cc (by rw [nums_len,hcn]),Aa _,by simp,E,E,E⟩
def LadR(r:Value)(s:Lad):Prop:=∃ v0 v1 v2 v3,r=.tuple #[v0,v1,v2,v3]∧Fe v0 s.a∧Fe v1 s.b∧Fe v2 s.c∧Fe v3 s.d
theorem A5W{xs:LN}(h:Fe (.agg (nums .u64 xs).toArray) n):∃ a b c d e,xs=[a,b,c,d,e]:=by obtain ⟨a,b,c,d,e,h1,-⟩:=h;refine ⟨a,b,c,d,e,?_⟩;have h2:=congrArg Array.toList (Value.agg.inj h1);exact A66 (k:=.u64) (b:=[a,b,c,d,e]) h2
theorem B7z(vu va vb vc vd:Value)(xu xa xb xc xd:Nat)(A:Mem)(hU:Fe vu xu)(hA:Fe va xa)(hB:Fe vb xb)(hC:Fe vc xc)(hD:Fe vd xd):FnX Tryz.prog 110 [vu,va,vb,vc,vd] [] A λ r M J=>M=[]∧J=[]∧LadR r (A7d xu ⟨xa,xb,xc,xd⟩):=by
 have hU0:=hU;obtain ⟨pu0,pu1,pu2,pu3,pu4,rfl,-⟩:=hU;have hA0:=hA;obtain ⟨pa0,pa1,pa2,pa3,pa4,rfl,-⟩:=hA;have hB0:=hB;obtain ⟨pb0,pb1,pb2,pb3,pb4,rfl,-⟩:=hB;have hC0:=hC;obtain ⟨pc0,pc1,pc2,pc3,pc4,rfl,-⟩:=hC;have hD0:=hD;obtain ⟨pd0,pd1,pd2,pd3,pd4,rfl,-⟩:=hD;refine Ck (N:=68) Tryz.func110 E E E λ w=>?_;refine A9 (E8 0 1 2 3 4) (A1 ?_);refine A3 E (bx_ λ b5=>?_);refine A3 E (bx_ λ b6=>?_);refine A3 E (bx_ λ b7=>?_);refine A3 E (bx_ λ b8=>?_);refine A3 E (bx_ λ b9=>?_);refine A3 E (C3 (cs:=[C1,C1,C1,C1,C1]) kR E λ b10=>?_);refine A3 E (C3 (cs:=[C1,C1,C1,C1,C1]) kR E λ b11=>?_);refine A3 E (C3 (cs:=[C1,C1,C1,C1,C1]) kR E λ b12=>?_);refine A3 E (C3 (cs:=[C1,C1,C1,C1,C1]) kR E λ b13=>?_);refine A0 (A0m 5 6 7 8 9 10 11 12 13) ?_;refine D1 (.range 8) [(0,1),(1,1),(3,1),(4,1),(2,3),(5,3),(6,3),(7,4),(8,2),(9,2)] kR kR λ hs=>?_;refine F9 hs E (qw_ 5) E ?_;refine F9 hs E (qw_ 5) E ?_;refine F9 hs E (qw_ 5) E ?_;refine F9 hs E (qw_ 5) E ?_
 refine N6 [⟨2,25,λ v B _=>B=[]∧Fe v (fA xa xb)⟩,⟨5,28,λ v B _=>B=[]∧Fe v (fS xa xb)⟩,⟨6,14,λ v B _=>∃ b,v=(vP b)∧B=[(b,blk [.int .u64 0,.int .u64 0,.int .u64 0,.int .u64 0,.int .u64 0] 191)]⟩,⟨7,15,λ v B _=>∃ b,v=(vP b)∧B=[(b,blk [.int .u64 0,.int .u64 0,.int .u64 0,.int .u64 0,.int .u64 0] 191)]⟩]
  gA nd_ nd_ dl_
  (gO ?_ (gO ?_ (gO ?_ (gO ?_ (I7))))) ?_
 .
  intros
  refine E2 (aS E (aS E (a0))) kR (A4G hA0 hB0 _) E ?_;rintro r M1 J1 ⟨rfl,rfl,hh⟩;exact ⟨_,E,E,hh⟩
 .
  intros
  refine E2 (aS E (aS E (a0))) kR (A5K hA0 hB0 _) E ?_;rintro r M1 J1 ⟨rfl,rfl,hh⟩;exact ⟨_,E,E,hh⟩
 .
  intros
  exact C3 (cs:=[C1,C1,C1,C1,C1]) kR E λ b=>⟨_,E,b,E,E⟩
 .
  intros
  exact C3 (cs:=[C1,C1,C1,C1,C1]) kR E λ b=>⟨_,E,b,E,E⟩
 intro vs bs Jn0 hφ;have g2:=gy 0 hφ;have g5:=gy 1 hφ;have g6:=gy 2 hφ;have g7:=gy 3 hφ;dsimp only at g2 g5 g6 g7;clear hφ;dsimp only [V2,Q6,List.map,List.flatten,List.cons_append,List.nil_append];generalize bs 2=B25,bs 5=B28,bs 6=B14,bs 7=B15,vs 2=u25,vs 5=u28,vs 6=u14,vs 7=u15 at *;obtain ⟨rfl,k2⟩:=g2;have h2:=k2;obtain ⟨a2,b2,c2,d2,e2,rfl,-⟩:=k2;obtain ⟨rfl,k5⟩:=g5;have h5:=k5;obtain ⟨a5,b5,c5,d5,e5,rfl,-⟩:=k5;obtain ⟨b6,rfl,rfl⟩:=g6;obtain ⟨b7,rfl,rfl⟩:=g7;dsimp only [List.append_eq,List.nil_append,List.cons_append];have hp:=h2;have hq:=h5;clear h2 h5;refine G1 E E E (A7 E E Cd kR ln5 al5 Cs ?_);refine G1 E E E (A7 E E Cd kR ln5 al5 Cs ?_);refine E3 (A0m 5 8 9 10 11 12 13 14 15) ?_;refine D1 [0,1,2,3,4,5] [(0,1),(2,1),(1,3),(3,3),(4,3),(5,4),(6,2),(7,2)] kR kR λ hs=>?_;refine F9 hs E (qw_ 5) E ?_;refine F9 hs E (qw_ 5) E ?_
 refine N6 [⟨1,30,λ v B _=>B=[]∧Fe v (fM (fA xa xb) (fA xa xb))⟩,⟨3,32,λ v B _=>B=[]∧Fe v (fM (fS xa xb) (fS xa xb))⟩,⟨4,16,λ v B _=>∃ b,v=(vP b)∧B=[(b,blk [.int .u64 0,.int .u64 0,.int .u64 0,.int .u64 0,.int .u64 0] 191)]⟩,⟨5,17,λ v B _=>∃ b,v=(vP b)∧B=[(b,blk [.int .u64 0,.int .u64 0,.int .u64 0,.int .u64 0,.int .u64 0] 191)]⟩]
  gA nd_ nd_ dl_
  (gO ?_ (gO ?_ (gO ?_ (gO ?_ (I7))))) ?_
 .
  intros
  refine E2 (aS E (a0)) kR (C1B hp _) E ?_;rintro r M1 J1 ⟨rfl,rfl,hh⟩;exact ⟨_,E,E,hh⟩
 .
  intros
  refine E2 (aS E (a0)) kR (C1B hq _) E ?_;rintro r M1 J1 ⟨rfl,rfl,hh⟩;exact ⟨_,E,E,hh⟩
 .
  intros
  exact C3 (cs:=[C1,C1,C1,C1,C1]) kR E λ b=>⟨_,E,b,E,E⟩
 .
  intros
  exact C3 (cs:=[C1,C1,C1,C1,C1]) kR E λ b=>⟨_,E,b,E,E⟩
 intro vs bs Jn0 hφ;have g1:=gy 0 hφ;have g3:=gy 1 hφ;have g4:=gy 2 hφ;have g5:=gy 3 hφ;dsimp only at g1 g3 g4 g5;clear hφ;dsimp only [V2,Q6,List.map,List.flatten,List.cons_append,List.nil_append];generalize bs 1=B30,bs 3=B32,bs 4=B16,bs 5=B17,vs 1=u30,vs 3=u32,vs 4=u16,vs 5=u17 at *;obtain ⟨rfl,k1⟩:=g1;have h1:=k1;obtain ⟨a1,b1,c1,d1,e1,rfl,-⟩:=k1;obtain ⟨rfl,k3⟩:=g3;have h3:=k3;obtain ⟨a3,b3,c3,d3,e3,rfl,-⟩:=k3;obtain ⟨b4,rfl,rfl⟩:=g4;obtain ⟨b5,rfl,rfl⟩:=g5;dsimp only [List.append_eq,List.nil_append,List.cons_append];have hss:=h1;have htt:=h3;clear h1 h3;refine G1 E E E (A7 E E Cd kR ln5 al5 Cs ?_);refine G1 E E E (A7 E E Cd kR ln5 al5 Cs ?_);refine E3 (kq 5 (kq 8 (A0m 9 10 11 12 13 14 15 16 17))) ?_;refine A1 ?_;refine A2 (qw_ 5) E ?_;refine A2 (qw_ 5) E ?_;refine C7 (aS E (aS E a0)) kR (A5K hss htt _) E ?_;rintro r35 M35 J35 ⟨rfl,rfl,k35⟩;have h35:=k35;obtain ⟨a35,b35,c35,d35,e35,rfl,-⟩:=k35;refine A3 E (C3 (cs:=[C1,C1,C1,C1,C1]) kR E λ b18=>?_);refine A3 E (A7 E E Cd kR ln5 al5 Cs ?_);refine A0 (kq 5 (kq 8 (kq 9 (A0m 10 11 12 13 14 15 16 17 18)))) ?_;refine D1 [0,1,2,3,4,5] [(0,1),(1,1),(3,1),(2,3),(4,3),(5,4),(6,2)] kR kR λ hs=>?_;refine F9 hs E (qw_ 5) E ?_;refine F9 hs E (qw_ 5) E ?_;refine F9 hs E (qw_ 5) E ?_
 refine N6 [⟨2,38,λ v B _=>B=[]∧Fe v (fS xc xd)⟩,⟨4,40,λ v B _=>B=[]∧Fe v (fM (fS xc xd) (fA xa xb))⟩,⟨5,19,λ v B _=>∃ b,v=(vP b)∧B=[(b,blk [.int .u64 0,.int .u64 0,.int .u64 0,.int .u64 0,.int .u64 0] 191)]⟩]
  gA nd_ nd_ dl_
  (gO ?_ (gO ?_ (gO ?_ (I7)))) ?_
 .
  intros
  refine E2 (aS E (aS E (a0))) kR (A5K hC0 hD0 _) E ?_;rintro r M1 J1 ⟨rfl,rfl,hh⟩;exact ⟨_,E,E,hh⟩
 . intro _ _ _ _ _ ha;have g2:=gx 0 ha;dsimp only at g2;obtain ⟨-,k2⟩:=g2;refine E2 (aS E (aS E (a0))) kR (U4 k2 hp _) E ?_;rintro r M1 J1 ⟨rfl,rfl,hh⟩;exact ⟨_,E,E,hh⟩
 .
  intros
  exact C3 (cs:=[C1,C1,C1,C1,C1]) kR E λ b=>⟨_,E,b,E,E⟩
 intro vs bs Jn0 hφ;have g2:=gy 0 hφ;have g4:=gy 1 hφ;have g5:=gy 2 hφ;dsimp only at g2 g4 g5;clear hφ;dsimp only [V2,Q6,List.map,List.flatten,List.cons_append,List.nil_append];generalize bs 2=B38,bs 4=B40,bs 5=B19,vs 2=u38,vs 4=u40,vs 5=u19 at *;obtain ⟨rfl,k2⟩:=g2;have h2:=k2;obtain ⟨a2,b2,c2,d2,e2,rfl,-⟩:=k2;obtain ⟨rfl,k4⟩:=g4;have h4:=k4;obtain ⟨a4,b4,c4,d4,e4,rfl,-⟩:=k4;obtain ⟨b5,rfl,rfl⟩:=g5;dsimp only [List.append_eq,List.nil_append,List.cons_append];have hda:=h4;clear h2 h4;refine G1 E E E (A7 E E Cd kR ln5 al5 Cs ?_);refine E3 (kq 5 (kq 8 (kq 9 (A0m 10 11 12 13 15 16 17 18 19)))) ?_;refine D1 [0,1,2,3,4,5] [(0,1),(1,1),(3,1),(2,3),(4,3),(5,4),(6,2)] kR kR λ hs=>?_;refine F9 hs E (qw_ 5) E ?_;refine F9 hs E (qw_ 5) E ?_;refine F9 hs E (qw_ 5) E ?_
 refine N6 [⟨2,43,λ v B _=>B=[]∧Fe v (fA xc xd)⟩,⟨4,45,λ v B _=>B=[]∧Fe v (fM (fA xc xd) (fS xa xb))⟩,⟨5,20,λ v B _=>∃ b,v=(vP b)∧B=[(b,blk [.int .u64 0,.int .u64 0,.int .u64 0,.int .u64 0,.int .u64 0] 191)]⟩]
  gA nd_ nd_ dl_
  (gO ?_ (gO ?_ (gO ?_ (I7)))) ?_
 .
  intros
  refine E2 (aS E (aS E (a0))) kR (A4G hC0 hD0 _) E ?_;rintro r M1 J1 ⟨rfl,rfl,hh⟩;exact ⟨_,E,E,hh⟩
 . intro _ _ _ _ _ ha;have g2:=gx 0 ha;dsimp only at g2;obtain ⟨-,k2⟩:=g2;refine E2 (aS E (aS E (a0))) kR (U4 k2 hq _) E ?_;rintro r M1 J1 ⟨rfl,rfl,hh⟩;exact ⟨_,E,E,hh⟩
 .
  intros
  exact C3 (cs:=[C1,C1,C1,C1,C1]) kR E λ b=>⟨_,E,b,E,E⟩
 intro vs bs Jn0 hφ;have g2:=gy 0 hφ;have g4:=gy 1 hφ;have g5:=gy 2 hφ;dsimp only at g2 g4 g5;clear hφ;dsimp only [V2,Q6,List.map,List.flatten,List.cons_append,List.nil_append];generalize bs 2=B43,bs 4=B45,bs 5=B20,vs 2=u43,vs 4=u45,vs 5=u20 at *;obtain ⟨rfl,k2⟩:=g2;have h2:=k2;obtain ⟨a2,b2,c2,d2,e2,rfl,-⟩:=k2;obtain ⟨rfl,k4⟩:=g4;have h4:=k4;obtain ⟨a4,b4,c4,d4,e4,rfl,-⟩:=k4;obtain ⟨b5,rfl,rfl⟩:=g5;dsimp only [List.append_eq,List.nil_append,List.cons_append];have hcb:=h4;clear h2 h4;refine G1 E E E (A7 E E Cd kR ln5 al5 Cs ?_);refine E3 (kq 5 (A0m 10 11 12 13 16 17 18 19 20)) (A1 ?_);refine A2 (qw_ 5) E ?_;refine A2 (qw_ 5) E ?_;refine C7 (aS E (aS E a0)) kR (A4G hda hcb _) E ?_;rintro r48 M48 J48 ⟨rfl,rfl,k48⟩;have h48:=k48;obtain ⟨a48,b48,c48,d48,e48,rfl,-⟩:=k48;refine C7 (aS E a0) kR (C1B h48 _) E ?_;rintro r49 M49 J49 ⟨rfl,rfl,k49⟩;have h49:=k49;obtain ⟨a49,b49,c49,d49,e49,rfl,-⟩:=k49;refine A3 E (C3 (cs:=[C1,C1,C1,C1,C1]) kR E λ b21=>?_);refine A3 E (A7 E E Cd kR ln5 al5 Cs ?_);refine A0 (kq 5 (kq 10 (A0m 11 12 13 16 17 18 19 20 21))) ?_;refine D1 (.range 7) (zp 0 [1,1,1,3,3,3,4,2]) kR kR λ hs=>?_;refine F9 hs E (qw_ 5) E ?_;refine F9 hs E (qw_ 5) E ?_;refine F9 hs E (qw_ 5) E ?_
 refine N6 [⟨3,53,λ v B _=>B=[]∧Fe v (fS (fM (fS xc xd) (fA xa xb)) (fM (fA xc xd) (fS xa xb)))⟩,⟨4,54,λ v B _=>B=[]∧Fe v (fM (fS (fM (fS xc xd) (fA xa xb)) (fM (fA xc xd) (fS xa xb))) (fS (fM (fS xc xd) (fA xa xb)) (fM (fA xc xd) (fS xa xb))))⟩,⟨5,55,λ v B _=>B=[]∧Fe v (fM xu (fM (fS (fM (fS xc xd) (fA xa xb)) (fM (fA xc xd) (fS xa xb))) (fS (fM (fS xc xd) (fA xa xb)) (fM (fA xc xd) (fS xa xb)))))⟩,⟨6,22,λ v B _=>∃ b,v=(vP b)∧B=[(b,blk [.int .u64 0,.int .u64 0,.int .u64 0,.int .u64 0,.int .u64 0] 191)]⟩]
  gA nd_ nd_ dl_
  (gO ?_ (gO ?_ (gO ?_ (gO ?_ (I7))))) ?_
 .
  intros
  refine E2 (aS E (aS E (a0))) kR (A5K hda hcb _) E ?_;rintro r M1 J1 ⟨rfl,rfl,hh⟩;exact ⟨_,E,E,hh⟩
 . intro _ _ _ _ _ ha;have g3:=gx 0 ha;dsimp only at g3;obtain ⟨-,k3⟩:=g3;refine E2 (aS E (a0)) kR (C1B k3 _) E ?_;rintro r M1 J1 ⟨rfl,rfl,hh⟩;exact ⟨_,E,E,hh⟩
 . intro _ _ _ _ _ ha;have g4:=gx 1 ha;dsimp only at g4;obtain ⟨-,k4⟩:=g4;refine E2 (aS E (aS E (a0))) kR (U4 hU0 k4 _) E ?_;rintro r M1 J1 ⟨rfl,rfl,hh⟩;exact ⟨_,E,E,hh⟩
 .
  intros
  exact C3 (cs:=[C1,C1,C1,C1,C1]) kR E λ b=>⟨_,E,b,E,E⟩
 intro vs bs Jn0 hφ;have g3:=gy 0 hφ;have g4:=gy 1 hφ;have g5:=gy 2 hφ;have g6:=gy 3 hφ;dsimp only at g3 g4 g5 g6;clear hφ;dsimp only [V2,Q6,List.map,List.flatten,List.cons_append,List.nil_append];generalize bs 3=B53,bs 4=B54,bs 5=B55,bs 6=B22,vs 3=u53,vs 4=u54,vs 5=u55,vs 6=u22 at *;obtain ⟨rfl,k3⟩:=g3;have h3:=k3;obtain ⟨a3,b3,c3,d3,e3,rfl,-⟩:=k3;obtain ⟨rfl,k4⟩:=g4;have h4:=k4;obtain ⟨a4,b4,c4,d4,e4,rfl,-⟩:=k4;obtain ⟨rfl,k5⟩:=g5;have h5:=k5;obtain ⟨a5,b5,c5,d5,e5,rfl,-⟩:=k5;obtain ⟨b6,rfl,rfl⟩:=g6;dsimp only [List.append_eq,List.nil_append,List.cons_append];have hzz:=h5;clear h3 h4 h5;refine G1 E E E (A7 E E Cd kR ln5 al5 Cs ?_);refine E3 (A0m 10 11 12 13 16 17 18 21 22) ?_;refine F8 ([(b10,blk [.int .u64 0,.int .u64 0,.int .u64 0,.int .u64 0,.int .u64 0] 191),(b11,blk [.int .u64 0,.int .u64 0,.int .u64 0,.int .u64 0,.int .u64 0] 191),(b12,blk [.int .u64 0,.int .u64 0,.int .u64 0,.int .u64 0,.int .u64 0] 191),(b13,blk [.int .u64 0,.int .u64 0,.int .u64 0,.int .u64 0,.int .u64 0] 191)]) (_) true (.range 15) [(0,1),(1,1),(3,1),(4,1),(6,1),(10,1),(11,1),(2,2),(5,2),(7,2),(8,2),(9,2),(12,2),(13,2),(14,2),(15,2)] kR kR qP λ hs K n0 hKm hKs hKn=>?_;refine K0 hs E hKs (qw_ 5) ?_;refine K0 hs E hKs (qw_ 5) ?_;refine K0 hs E hKs (qw_ 5) ?_;refine K0 hs E hKs (qw_ 5) ?_;refine K0 hs E hKs (qw_ 5) ?_;refine K0 hs E hKs (qw_ 5) ?_;refine K0 hs E hKs (qw_ 5) ?_
 refine H3 [] _ rfl rfl (Ah _) (λ _ h=>by cases h) λ w0=>(E2 (aS rfl (aS rfl a0)) kR (U4 hss htt _) rfl ?_)
 rintro r58 M58 J58 ⟨rfl,rfl,k58⟩ _;have h58:=k58;obtain ⟨a58,b58,c58,d58,e58,rfl,-⟩:=k58;dsimp only [List.nil_append,List.append_eq]
 refine H3 [] _ rfl rfl (Ah _) (λ _ h=>by cases h) λ w0=>(E2 (aS rfl a0) kR (A06 121665 qD _) rfl ?_)
 rintro r61 M61 J61 ⟨rfl,rfl,k61⟩ _;have h61:=k61;obtain ⟨a61,b61,c61,d61,e61,rfl,-⟩:=k61;dsimp only [List.nil_append,List.append_eq]
 refine H3 [] _ rfl rfl (Ah _) (λ _ h=>by cases h) λ w0=>(E2 (aS rfl (aS rfl a0)) kR (U4 h61 h35 _) rfl ?_)
 rintro r63 M63 J63 ⟨rfl,rfl,k63⟩ _;have h63:=k63;obtain ⟨a63,b63,c63,d63,e63,rfl,-⟩:=k63;dsimp only [List.nil_append,List.append_eq]
 refine H3 [] _ rfl rfl (Ah _) (λ _ h=>by cases h) λ w0=>(E2 (aS rfl (aS rfl a0)) kR (A4G hss h63 _) rfl ?_)
 rintro r64 M64 J64 ⟨rfl,rfl,k64⟩ _;have h64:=k64;obtain ⟨a64,b64,c64,d64,e64,rfl,-⟩:=k64;dsimp only [List.nil_append,List.append_eq]
 refine H3 [] _ rfl rfl (Ah _) (λ _ h=>by cases h) λ w0=>(E2 (aS rfl (aS rfl a0)) kR (U4 h35 h64 _) rfl ?_)
 rintro r65 M65 J65 ⟨rfl,rfl,k65⟩ _;have h65:=k65;obtain ⟨a65,b65,c65,d65,e65,rfl,-⟩:=k65;dsimp only [List.nil_append,List.append_eq]
 refine H3 _ _ E E (Ah _) hKm λ w0=>(A7 (vs:=[.int .u64 (a58:Int),.int .u64 (b58:Int),.int .u64 (c58:Int),.int .u64 (d58:Int),.int .u64 (e58:Int)]) E E E kR qR al5 Cs ?_)
 intro hK12
 refine H3 _ _ E E (Ah _) (hK12 (hKn E)) λ w0=>(A7 (vs:=[.int .u64 (a65:Int),.int .u64 (b65:Int),.int .u64 (c65:Int),.int .u64 (d65:Int),.int .u64 (e65:Int)]) E E E kR qR al5 Cs ?_)
 intro hK13
 refine H3 _ _ E E (Ah _) (hK13 (hKn E)) λ w0=>(A7 (vs:=[.int .u64 (a49:Int),.int .u64 (b49:Int),.int .u64 (c49:Int),.int .u64 (d49:Int),.int .u64 (e49:Int)]) E E E kR qR al5 Cs ?_)
 intro hK14;refine K5 E E E (A7 E E Cd kR ln5 al5 Cs ?_);refine I3 (D8 10 11 12 13) (C0 ?_);exact ⟨_,[],[],C3A (n:=5) E E E E E kR Cc Cc Cc Cc E E E E,Aa _,by simp,E,E,_,_,_,_,E,h58,h65,h49,hzz⟩
theorem B7A(v vp:Value)(wu wp:LN)(A:Mem)(hv:By A v wu)(hp:By A vp wp):FnX Tryz.prog 73 [v,vp] [] A λ r M J=>M=[]∧By J r (x25 wu wp):=by
 haveI:=hv.cel;haveI:=hp.cel;have hvl:=hv.len;have hpl:=hp.len;refine Ck (N:=60) Tryz.func73 E E E λ w=>?_;refine A9 (D2 0 1) (A1 (as_ (A0 (D2 0 1) (A1 (mv_ ?_)))));refine E6 (aS E a0) kR (B9k _ wu _ (hv.mono qS)) E ?_;have hcn:=A46 wu;have hc256:=B2y hv.lt;refine A3 E (C3 (cs:=[zu8,zu8,zu8,zu8,zu8,zu8,zu8,zu8,zu8,zu8,zu8,zu8,zu8,zu8,zu8,zu8,zu8,zu8,zu8,zu8,zu8,zu8,zu8,zu8,zu8,zu8,zu8,zu8,zu8,zu8,zu8,zu8]) kR E λ b5=>?_);refine A3 E (A7 (vs:=nums .u8 (P3 wu)) E E E (by rw [nums_len,hcn]; kernel_rfl) (by rw [nums_len,hcn]; rfl) E9 Cs ?_);refine A0 (D2 1 5) (A1 (mv_ ?_));refine C7 (aS E a0) kR (A43 vp wp _ (hp.rd.mono qS) hp.lt qO) E ?_;rintro r16 M16 J16 ⟨rfl,rfl,hU⟩;have hUz:=hU;obtain ⟨ux0,ux1,ux2,ux3,ux4,rfl,-⟩:=hU;refine A3 E (C3 (cs:=[C1,C1,C1,C1,C1]) kR E λ b6=>?_);refine A3 E (A7 (vs:=[.int .u64 (ux0:Int),.int .u64 (ux1:Int),.int .u64 (ux2:Int),.int .u64 (ux3:Int),.int .u64 (ux4:Int)]) E E E kR qR al5 Cs ?_);refine A0 (D2 5 6) ?_;refine F8 ([]) (_) true (.range 10) [(2,1),(0,3),(1,3),(3,3),(4,3),(5,3),(6,3),(7,4),(8,2),(9,2),(10,2),(11,2)] kR kR qP λ hs K n0 hKm hKs hKn=>?_;refine K0 hs E hKs (qw_ 5) ?_
 refine A6K [⟨0,17,λ v B _=>B=[]∧Fe v (1)⟩,⟨1,18,λ v B _=>B=[]∧Fe v (0)⟩,⟨3,20,λ v B _=>B=[]∧Fe v (1)⟩,⟨4,7,λ v B _=>∃ b,v=(vP b)∧B=[(b,blk [.int .u64 0,.int .u64 0,.int .u64 0,.int .u64 0,.int .u64 0] 191)]⟩,⟨5,8,λ v B _=>∃ b,v=(vP b)∧B=[(b,blk [.int .u64 0,.int .u64 0,.int .u64 0,.int .u64 0,.int .u64 0] 191)]⟩,⟨6,9,λ v B _=>∃ b,v=(vP b)∧B=[(b,blk [.int .u64 0,.int .u64 0,.int .u64 0,.int .u64 0,.int .u64 0] 191)]⟩,⟨7,10,λ v B _=>∃ b,v=(vP b)∧B=[(b,blk [.int .u64 0,.int .u64 0,.int .u64 0,.int .u64 0,.int .u64 0] 191)]⟩]
  gA nd_ nd_ dl_
  (gO ?_ (gO ?_ (gO ?_ (gO ?_ (gO ?_ (gO ?_ (gO ?_ (I7)))))))) ?_
 .
  intros
  refine E2 (aS E a0) kR (A06 1 qD _) E ?_;rintro r M1 J1 ⟨rfl,rfl,hh⟩;exact ⟨_,E,E,hh⟩
 .
  intros
  refine E2 (aS E a0) kR (A06 0 qD _) E ?_;rintro r M1 J1 ⟨rfl,rfl,hh⟩;exact ⟨_,E,E,hh⟩
 .
  intros
  refine E2 (aS E a0) kR (A06 1 qD _) E ?_;rintro r M1 J1 ⟨rfl,rfl,hh⟩;exact ⟨_,E,E,hh⟩
 .
  intros
  exact C3 (cs:=[C1,C1,C1,C1,C1]) kR E λ b=>⟨_,E,b,E,E⟩
 .
  intros
  exact C3 (cs:=[C1,C1,C1,C1,C1]) kR E λ b=>⟨_,E,b,E,E⟩
 .
  intros
  exact C3 (cs:=[C1,C1,C1,C1,C1]) kR E λ b=>⟨_,E,b,E,E⟩
 .
  intros
  exact C3 (cs:=[C1,C1,C1,C1,C1]) kR E λ b=>⟨_,E,b,E,E⟩
 intro vs bs Jn0 hφ hNN;have n4:=hNN _ (As (i:=3) E);dsimp only at n4;have n5:=hNN _ (As (i:=4) E);dsimp only at n5;clear hNN;have g0:=gy 0 hφ;have g1:=gy 1 hφ;have g3:=gy 2 hφ;have g4:=gy 3 hφ;have g5:=gy 4 hφ;have g6:=gy 5 hφ;have g7:=gy 6 hφ;dsimp only at g0 g1 g3 g4 g5 g6 g7;clear hφ;dsimp only [V2,Q6,List.map,List.flatten,List.cons_append,List.nil_append];generalize bs 0=B17,bs 1=B18,bs 3=B20,bs 4=B7,bs 5=B8,bs 6=B9,bs 7=B10,vs 0=u17,vs 1=u18,vs 3=u20,vs 4=u7,vs 5=u8,vs 6=u9,vs 7=u10 at *;obtain ⟨rfl,k0⟩:=g0;obtain ⟨rfl,k1⟩:=g1;obtain ⟨rfl,k3⟩:=g3;have k0z:=k0;obtain ⟨pw0,pw1,pw2,pw3,pw4,rfl,-⟩:=k0;have k1z:=k1;obtain ⟨px0,px1,px2,px3,px4,rfl,-⟩:=k1;have k3z:=k3;obtain ⟨pq0,pq1,pq2,pq3,pq4,rfl,-⟩:=k3;obtain ⟨b7,rfl,rfl⟩:=g4;obtain ⟨b8,rfl,rfl⟩:=g5;obtain ⟨b9,rfl,rfl⟩:=g6;obtain ⟨b10,rfl,rfl⟩:=g7;dsimp only [List.append_eq,List.nil_append,List.cons_append]
 refine H3 [(b7,blk [.int .u64 0,.int .u64 0,.int .u64 0,.int .u64 0,.int .u64 0] 191)] _ E E qP (λ x hx=>by rw [List.mem_singleton.1 hx]; exact hKn E _ (n4 _ qK)) λ w0=>(A7 (vs:=[.int .u64 (pw0:Int),.int .u64 (pw1:Int),.int .u64 (pw2:Int),.int .u64 (pw3:Int),.int .u64 (pw4:Int)]) E E E kR qR al5 Cs ?_)
 intro hK8
 refine H3 [(b8,blk [.int .u64 0,.int .u64 0,.int .u64 0,.int .u64 0,.int .u64 0] 191)] _ E E qP (λ x hx=>by rw [List.mem_singleton.1 hx]; exact hKn E _ (n5 _ qK)) λ w0=>(A7 (vs:=[.int .u64 (px0:Int),.int .u64 (px1:Int),.int .u64 (px2:Int),.int .u64 (px3:Int),.int .u64 (px4:Int)]) E E E kR qR al5 Cs ?_)
 intro hK9;refine K5 E E E (A7 (vs:=[.int .u64 (ux0:Int),.int .u64 (ux1:Int),.int .u64 (ux2:Int),.int .u64 (ux3:Int),.int .u64 (ux4:Int)]) E E E kR qR al5 Cs ?_);refine K5 E E E (A7 (vs:=[.int .u64 (pq0:Int),.int .u64 (pq1:Int),.int .u64 (pq2:Int),.int .u64 (pq3:Int),.int .u64 (pq4:Int)]) E E E kR qR al5 Cs ?_);refine I3 (H1 5 6 7 8 9 10) (A4 (A1 (as_ (A0 (N9 5 6 7 8 9 10 11) (A8 ?_)))));refine A0H (M':=[(b10,blk [.int .u64 (pq0:Int),.int .u64 (pq1:Int),.int .u64 (pq2:Int),.int .u64 (pq3:Int),.int .u64 (pq4:Int)] 191),(b9,blk [.int .u64 (ux0:Int),.int .u64 (ux1:Int),.int .u64 (ux2:Int),.int .u64 (ux3:Int),.int .u64 (ux4:Int)] 191),(b8,blk [.int .u64 (px0:Int),.int .u64 (px1:Int),.int .u64 (px2:Int),.int .u64 (px3:Int),.int .u64 (px4:Int)] 191),(b7,blk [.int .u64 (pw0:Int),.int .u64 (pw1:Int),.int .u64 (pw2:Int),.int .u64 (pw3:Int),.int .u64 (pw4:Int)] 191),(b6,blk [.int .u64 (ux0:Int),.int .u64 (ux1:Int),.int .u64 (ux2:Int),.int .u64 (ux3:Int),.int .u64 (ux4:Int)] 191),(b5,blk (nums .u8 (P3 wu)) 188)]) (Ch (B:=[_]) qP (Ch (B:=[_]) qP (Ch (B:=[_]) qP (Ch (B:=[_]) qP (Ch (B:=[_]) qP (Ce E)))))) qI ?_;refine E5 (α:=Nat×LN×LN×LN×LN) (λ y=>[(5,(vP b5)),(6,(vP b6)),(7,(vP b7)),(8,(vP b8)),(9,(vP b9)),(10,(vP b10)),(11,.int .i64 ((y.1:Int) - 1))]) (λ y=>[(b10,blk (nums .u64 y.2.2.2.2) 191),(b9,blk (nums .u64 y.2.2.2.1) 191),(b8,blk (nums .u64 y.2.2.1) 191),(b7,blk (nums .u64 y.2.1) 191),(b6,blk (nums .u64 [ux0,ux1,ux2,ux3,ux4]) 191),(b5,blk (nums .u8 (P3 wu)) 188)]) (λ _=>[]) (λ y=>y.1<=255∧Fe (.agg (nums .u64 y.2.1).toArray) (A5V (rdN wp) (bv (P3 wu)) (255 - y.1)).a∧Fe (.agg (nums .u64 y.2.2.1).toArray) (A5V (rdN wp) (bv (P3 wu)) (255 - y.1)).b∧Fe (.agg (nums .u64 y.2.2.2.1).toArray) (A5V (rdN wp) (bv (P3 wu)) (255 - y.1)).c∧Fe (.agg (nums .u64 y.2.2.2.2).toArray) (A5V (rdN wp) (bv (P3 wu)) (255 - y.1)).d) (λ y=>y.1) (255,[pw0,pw1,pw2,pw3,pw4],[px0,px1,px2,px3,px4],[ux0,ux1,ux2,ux3,ux4],[pq0,pq1,pq2,pq3,pq4]) ⟨Av _,by dsimp only; rw [Nat.sub_self]; exact k0z,by dsimp only; rw [Nat.sub_self]; exact k1z,by dsimp only; rw [Nat.sub_self]; exact hUz,by dsimp only; rw [Nat.sub_self]; exact k3z⟩ (N9 5 6 7 8 9 10 11) (Ce rfl) (λ _ h=>by cases h) ?_;clear k0z k1z k3z;rintro ⟨j,la,lb,lc,ld⟩ ⟨hj,haz,hbz,hcz,hdz⟩;dsimp only at hj haz hbz hcz hdz ⊢;obtain ⟨za0,za1,za2,za3,za4,rfl⟩:=A5W haz;obtain ⟨zb0,zb1,zb2,zb3,zb4,rfl⟩:=A5W hbz;obtain ⟨zc0,zc1,zc2,zc3,zc4,rfl⟩:=A5W hcz;obtain ⟨zd0,zd1,zd2,zd3,zd4,rfl⟩:=A5W hdz;dsimp only [nums,List.map];refine A4 (A1 (mv_ ?_));refine A2 (F0 E E E) E ?_;refine A0 (W4 5 6 7 8 9 10 11 22) ?_;refine C4 E ?_ ?_ <;> intro hc
 .
  have hj0:0 < j:=by simp at hc; omega
  obtain ⟨i,rfl⟩:∃ i,j=i+1:=⟨j - 1,by omega⟩
  rw [show (((i+1:Nat):Int) - 1)=(i:Int) by omega];have hts:=A7e (u:=rdN wp) (n:=bv (P3 wu)) (show i < 255 by omega);have hbit:=A62 hc256 i;have hpb:(P3 wu).getD (i / 8) 0 < 256:=Go.Px.getD_lt hc256 qD;have hz2:bv (P3 wu) / 2 ^ i % 2 < 2:=Ad _ qD;generalize A5V (rdN wp) (bv (P3 wu)) (255 - (i+1))=S at *;generalize bv (P3 wu) / 2 ^ i % 2=zb at *
  obtain ⟨bt,hbt⟩:∃ bt,decide (zb=1)=bt:=⟨_,E⟩
  rw [hbt] at hts;refine A6 (nx (N9 5 6 7 8 9 10 11) (A4 (A8 (A1 (mv_ ?_)))));refine A2 (A1f 8 E E E qD (A2j qO)) E ?_;refine A2 (G2 (e:=5) (n:=32) (sz:=1) (i:=i / 8) E E kR kR E qO) E ?_;refine A2 (I6 (i / 8) E kR Cc qO qO) E ?_;refine mv_ ?_;refine A2 (A1g 8 E E E qD) E ?_;refine A2 (A3b (a:=(P3 wu).getD (i / 8) 0) (b:=i % 8) E E E E (by show _<=8; omega)) E ?_;refine A2 (hbit▸N4 1 2 E E E E E (by show _ < 256; exact Be (Nat.div_le_self _ _) hpb) qD) E ?_;refine A2 (hbt▸F5 (decide (zb=1)) rfl rfl (by rcases (show zb=0∨zb=1 by omega) with h | h <;> subst h <;> rfl)) E ?_;refine as_ (A0 (W4 5 6 7 8 9 10 11 12) (A4 ?_));cases bt
  . refine A1 (mv_ (A0 (A0m 5 6 7 8 9 10 11 12 34) ?_));refine C9 E ?_;refine A6 (nx (W4 5 6 7 8 9 10 11 12) (A1 ?_));refine A2 (qw_ 5) E ?_;refine A2 (qw_ 5) E ?_;refine A2 (qw_ 5) E ?_;refine A2 (qw_ 5) E ?_;refine A2 (qw_ 5) E ?_;refine C7 (aS E (aS E (aS E (aS E (aS E a0))))) kR (B7z _ _ _ _ _ (rdN wp) _ _ _ _ _ hUz haz hbz hcz hdz) E ?_;rintro r45 M45 J45 ⟨rfl,rfl,v0,v1,v2,v3,rfl,k0,k1,k2,k3⟩;have k0z:=k0;obtain ⟨pw0,pw1,pw2,pw3,pw4,rfl,-⟩:=k0;have k1z:=k1;obtain ⟨px0,px1,px2,px3,px4,rfl,-⟩:=k1;have k2z:=k2;obtain ⟨py0,py1,py2,py3,py4,rfl,-⟩:=k2;have k3z:=k3;obtain ⟨pq0,pq1,pq2,pq3,pq4,rfl,-⟩:=k3;refine mv_ ?_;refine A2 (Y8 E) E ?_;refine A2 (Y4 E) E ?_;refine A2 (B7d E) E ?_;refine A2 (q_x3 E) E ?_;refine A3 E (A7 (vs:=[.int .u64 (pw0:Int),.int .u64 (pw1:Int),.int .u64 (pw2:Int),.int .u64 (pw3:Int),.int .u64 (pw4:Int)]) E E E kR qR al5 Cs ?_);refine A3 E (A7 (vs:=[.int .u64 (px0:Int),.int .u64 (px1:Int),.int .u64 (px2:Int),.int .u64 (px3:Int),.int .u64 (px4:Int)]) E E E kR qR al5 Cs ?_);refine A3 E (A7 (vs:=[.int .u64 (py0:Int),.int .u64 (py1:Int),.int .u64 (py2:Int),.int .u64 (py3:Int),.int .u64 (py4:Int)]) E E E kR qR al5 Cs ?_);refine A3 E (A7 (vs:=[.int .u64 (pq0:Int),.int .u64 (pq1:Int),.int .u64 (pq2:Int),.int .u64 (pq3:Int),.int .u64 (pq4:Int)]) E E E kR qR al5 Cs ?_);refine A0 (W4 5 6 7 8 9 10 11 12) (A1 (mv_ (A0 (W4 5 6 7 8 9 10 11 50) ?_)));refine C9 E ?_;refine A6 (nb (nx (N9 5 6 7 8 9 10 11) (C2 (mv_ ?_))));refine A2 (D7 ((i:Int) - 1) E E (W5 E qO qO)) E ?_;refine as_ (C6 ?_);exact rn (i,[pw0,pw1,pw2,pw3,pw4],[px0,px1,px2,px3,px4],[py0,py1,py2,py3,py4],[pq0,pq1,pq2,pq3,pq4]) ⟨by dsimp only; omega,by dsimp only; rw [hts]; exact k0z,by dsimp only; rw [hts]; exact k1z,by dsimp only; rw [hts]; exact k2z,by dsimp only; rw [hts]; exact k3z⟩ (by dsimp only; omega) (N9 5 6 7 8 9 10 11) (show Fit _ ([(b10,blk [.int .u64 (pq0:Int),.int .u64 (pq1:Int),.int .u64 (pq2:Int),.int .u64 (pq3:Int),.int .u64 (pq4:Int)] 191),(b9,blk [.int .u64 (py0:Int),.int .u64 (py1:Int),.int .u64 (py2:Int),.int .u64 (py3:Int),.int .u64 (py4:Int)] 191),(b8,blk [.int .u64 (px0:Int),.int .u64 (px1:Int),.int .u64 (px2:Int),.int .u64 (px3:Int),.int .u64 (px4:Int)] 191),(b7,blk [.int .u64 (pw0:Int),.int .u64 (pw1:Int),.int .u64 (pw2:Int),.int .u64 (pw3:Int),.int .u64 (pw4:Int)] 191),(b6,blk [.int .u64 (ux0:Int),.int .u64 (ux1:Int),.int .u64 (ux2:Int),.int .u64 (ux3:Int),.int .u64 (ux4:Int)] 191),(b5,blk (nums .u8 (P3 wu)) 188)]) from (Ch (B:=[_]) qP (Ch (B:=[_]) qP (Ch (B:=[_]) qP (Ch (B:=[_]) qP (Ch (B:=[_]) qP (Ce rfl))))))) (λ _ h=>by cases h)
  .
   refine A1 (mv_ (A0 (A0m 5 6 7 8 9 10 11 12 34) ?_));refine E1 E ?_;refine X9 ([(b7,blk [.int .u64 (za0:Int),.int .u64 (za1:Int),.int .u64 (za2:Int),.int .u64 (za3:Int),.int .u64 (za4:Int)] 191)]) (_) true [0,1,2,3,4] [(0,1),(1,1),(3,1),(2,2),(4,2),(5,2),(6,2),(7,2)] kR kR qP λ hs K n0 hKm hKs hKn=>?_;refine K0 hs E hKs (qw_ 5) ?_;refine K0 hs E hKs (qw_ 5) ?_;refine K0 hs E hKs (qw_ 5) ?_
   refine H3 _ _ E E (Ah _) hKm λ w0=>(Cn (H6 (n:=5) E kR Cc qR) E ?_)
   intro hK2
   refine H3 _ _ E E (Ah _) (hK2 (hKn E)) λ w0=>(A7 (vs:=[.int .u64 (zc0:Int),.int .u64 (zc1:Int),.int .u64 (zc2:Int),.int .u64 (zc3:Int),.int .u64 (zc4:Int)]) E E E kR qR al5 Cs ?_)
   intro hK4;refine K5 E E E (A7 (vs:=[.int .u64 (zd0:Int),.int .u64 (zd1:Int),.int .u64 (zd2:Int),.int .u64 (zd3:Int),.int .u64 (zd4:Int)]) E E E kR qR al5 Cs ?_);refine K5 E E E (A7 (vs:=[.int .u64 (za0:Int),.int .u64 (za1:Int),.int .u64 (za2:Int),.int .u64 (za3:Int),.int .u64 (za4:Int)]) E E E kR qR al5 Cs ?_);refine K5 E E E (A7 (vs:=[.int .u64 (zb0:Int),.int .u64 (zb1:Int),.int .u64 (zb2:Int),.int .u64 (zb3:Int),.int .u64 (zb4:Int)]) E E E kR qR al5 Cs ?_);refine I3 (W4 5 6 7 8 9 10 11 12) (A1 ?_);refine A2 (qw_ 5) E ?_;refine A2 (qw_ 5) E ?_;refine A2 (qw_ 5) E ?_;refine A2 (qw_ 5) E ?_;refine A2 (qw_ 5) E ?_;refine C7 (aS E (aS E (aS E (aS E (aS E a0))))) kR (B7z _ _ _ _ _ (rdN wp) _ _ _ _ _ hUz hcz hdz haz hbz) E ?_;rintro r45 M45 J45 ⟨rfl,rfl,v0,v1,v2,v3,rfl,k0,k1,k2,k3⟩;have k0z:=k0;obtain ⟨pw0,pw1,pw2,pw3,pw4,rfl,-⟩:=k0;have k1z:=k1;obtain ⟨px0,px1,px2,px3,px4,rfl,-⟩:=k1;have k2z:=k2;obtain ⟨py0,py1,py2,py3,py4,rfl,-⟩:=k2;have k3z:=k3;obtain ⟨pq0,pq1,pq2,pq3,pq4,rfl,-⟩:=k3;refine mv_ ?_;refine A2 (Y8 E) E ?_;refine A2 (Y4 E) E ?_;refine A2 (B7d E) E ?_;refine A2 (q_x3 E) E ?_;refine A3 E (A7 (vs:=[.int .u64 (pw0:Int),.int .u64 (pw1:Int),.int .u64 (pw2:Int),.int .u64 (pw3:Int),.int .u64 (pw4:Int)]) E E E kR qR al5 Cs ?_);refine A3 E (A7 (vs:=[.int .u64 (px0:Int),.int .u64 (px1:Int),.int .u64 (px2:Int),.int .u64 (px3:Int),.int .u64 (px4:Int)]) E E E kR qR al5 Cs ?_);refine A3 E (A7 (vs:=[.int .u64 (py0:Int),.int .u64 (py1:Int),.int .u64 (py2:Int),.int .u64 (py3:Int),.int .u64 (py4:Int)]) E E E kR qR al5 Cs ?_);refine A3 E (A7 (vs:=[.int .u64 (pq0:Int),.int .u64 (pq1:Int),.int .u64 (pq2:Int),.int .u64 (pq3:Int),.int .u64 (pq4:Int)]) E E E kR qR al5 Cs ?_);refine A0 (W4 5 6 7 8 9 10 11 12) (A1 (mv_ (A0 (W4 5 6 7 8 9 10 11 50) ?_)));refine E1 E ?_;refine X9 ([(b7,blk [.int .u64 (pw0:Int),.int .u64 (pw1:Int),.int .u64 (pw2:Int),.int .u64 (pw3:Int),.int .u64 (pw4:Int)] 191)]) (_) true [0,1,2,3,4] [(0,1),(1,1),(3,1),(2,2),(4,2),(5,2),(6,2),(7,2)] kR kR qP λ hs K n0 hKm hKs hKn=>?_;refine K0 hs E hKs (qw_ 5) ?_;refine K0 hs E hKs (qw_ 5) ?_;refine K0 hs E hKs (qw_ 5) ?_
   refine H3 _ _ E E (Ah _) hKm λ w0=>(Cn (H6 (n:=5) E kR Cc qR) E ?_)
   intro hK2
   refine H3 _ _ E E (Ah _) (hK2 (hKn E)) λ w0=>(A7 (vs:=[.int .u64 (py0:Int),.int .u64 (py1:Int),.int .u64 (py2:Int),.int .u64 (py3:Int),.int .u64 (py4:Int)]) E E E kR qR al5 Cs ?_)
   intro hK4;refine K5 E E E (A7 (vs:=[.int .u64 (pq0:Int),.int .u64 (pq1:Int),.int .u64 (pq2:Int),.int .u64 (pq3:Int),.int .u64 (pq4:Int)]) E E E kR qR al5 Cs ?_);refine K5 E E E (A7 (vs:=[.int .u64 (pw0:Int),.int .u64 (pw1:Int),.int .u64 (pw2:Int),.int .u64 (pw3:Int),.int .u64 (pw4:Int)]) E E E kR qR al5 Cs ?_);refine K5 E E E (A7 (vs:=[.int .u64 (px0:Int),.int .u64 (px1:Int),.int .u64 (px2:Int),.int .u64 (px3:Int),.int .u64 (px4:Int)]) E E E kR qR al5 Cs ?_);refine A3a (nb (nx (N9 5 6 7 8 9 10 11) (C2 (mv_ ?_))));refine A2 (D7 ((i:Int) - 1) E E (W5 E qO qO)) E ?_;refine as_ (C6 ?_);exact rn (i,[py0,py1,py2,py3,py4],[pq0,pq1,pq2,pq3,pq4],[pw0,pw1,pw2,pw3,pw4],[px0,px1,px2,px3,px4]) ⟨by dsimp only; omega,by dsimp only; rw [hts]; exact k2z,by dsimp only; rw [hts]; exact k3z,by dsimp only; rw [hts]; exact k0z,by dsimp only; rw [hts]; exact k1z⟩ (by dsimp only; omega) (N9 5 6 7 8 9 10 11) (show Fit _ ([(b10,blk [.int .u64 (px0:Int),.int .u64 (px1:Int),.int .u64 (px2:Int),.int .u64 (px3:Int),.int .u64 (px4:Int)] 191),(b9,blk [.int .u64 (pw0:Int),.int .u64 (pw1:Int),.int .u64 (pw2:Int),.int .u64 (pw3:Int),.int .u64 (pw4:Int)] 191),(b8,blk [.int .u64 (pq0:Int),.int .u64 (pq1:Int),.int .u64 (pq2:Int),.int .u64 (pq3:Int),.int .u64 (pq4:Int)] 191),(b7,blk [.int .u64 (py0:Int),.int .u64 (py1:Int),.int .u64 (py2:Int),.int .u64 (py3:Int),.int .u64 (py4:Int)] 191),(b6,blk [.int .u64 (ux0:Int),.int .u64 (ux1:Int),.int .u64 (ux2:Int),.int .u64 (ux3:Int),.int .u64 (ux4:Int)] 191),(b5,blk (nums .u8 (P3 wu)) 188)]) from (Ch (B:=[_]) qP (Ch (B:=[_]) qP (Ch (B:=[_]) qP (Ch (B:=[_]) qP (Ch (B:=[_]) qP (Ce rfl))))))) (λ _ h=>by cases h)
 .
  have hj0:j=0:=by simp at hc; omega
  subst hj0;refine D9 (te (re (be E (nx (D2 7 8) ?_))));refine D1 [0,1,2,3,4,5] (zp 0 [1,1,2,2,2,0]) kR kR λ hs=>?_;refine F9 hs E (qw_ 5) E ?_;refine F9 hs E (qw_ 5) E ?_;refine G9 E (aS E a0) kR (B1S hbz _) E ?_;rintro r57 M57 J57 ⟨rfl,rfl,k57⟩;have h57:=k57;obtain ⟨a57,b57,c57,d57,e57,rfl,-⟩:=k57;refine G9 E (aS E (aS E a0)) kR (U4 haz h57 _) E ?_;rintro r58 M58 J58 ⟨rfl,rfl,k58⟩;have h58:=k58;obtain ⟨a58,b58,c58,d58,e58,rfl,-⟩:=k58;refine G9 E (aS E a0) kR ((A0t _ _ h58 _).frz0) E ?_;rintro r59 M59 J59 ⟨rfl,hs59⟩;haveI:=hs59.cel;refine fa_ hs ?_;refine E3 (D5 4) (C0 ?_);exact ⟨_,[],J59,I0 E E,Aa _,λ x hx=>by simp [hx],E,B5S hs59 (A4h _ _).symm (C1O _ _) (by rw [A4h]; decide) λ _ h=>h⟩
theorem C1P(v:Value)(wu:LN)(A:Mem)(hv:By A v wu):FnX Tryz.prog 47 [v] [] A λ r M J=>M=[]∧By J r (A4g wu):=by haveI:=hv.cel;refine Cl (N:=10) Tryz.func47 E E E λ w_=>?_;refine A9 (D5 0) (A1 (as_ (A0 (D5 0) (A1 ?_))));refine A3 E (A0F (by_:=1) (k:=.u8) (e:=5) 32 E E kR E E qO qO E λ b4=>?_);refine as_ (A0 (D2 0 3) (A1 (mv_ ?_)));refine A2 (L8 (e:=5) (sz:=1) (i:=0) E E kR kR qO qO) E ?_;refine A3 E (K8 0 (ws:=List.replicate 32 0) E E kR E qM Cs ?_);refine A0 (D2 0 3) (A1 (mv_ (mv_ ?_)));refine C7 (aS E (aS E a0)) kR (B7A v _ wu B9j _ (hv.mono qS) ⟨Co (n:=32) (cs:=nums .u8 B9j) Cc qR,by decide,by decide⟩) E ?_;rintro r9 M9 J9 ⟨rfl,h9⟩;haveI:=h9.cel;refine as_ (A0 (D5 2) (C0 ?_));exact ⟨_,[],[],I0 E E,qZ,E,h9.mono qS⟩

theorem A7Z{r:Value}{a b:LN}(h:Sc r (bv (B0p a) % lN))(e:a=b):Sc r (bv (B0p b) % lN):=e▸h
theorem A86(v:Value)(ws:LN)(A:Mem)(hv:By A v ws)(hl:ws.length<=100000000)(hG:GlS A):FnX Tryz.prog 119 [v] [] A λ r M J=>M=[]∧J=[]∧Sc r (B2p ws):=by haveI:=hv.cel;have hvl:=hv.len;obtain ⟨⟨ge0,gf0,h0⟩,⟨ge1,gf1,h1⟩⟩:=hG;refine Ck (N:=9) Tryz.func119 E E E λ w=>?_;refine A9 (D5 0) (A1 ?_);refine A3 E (C3 (cs:=[D3,D3,D3,D3,D3,D3,D3,D3]) kR E λ b2=>?_);refine A0 (D2 0 2) (A1 ?_);refine A3 E (C5 (e:=5) (sz:=1) (z:=[zu8,zu8,zu8,zu8,zu8,zu8]) kR (eS E (eS E (eS E (eS E (eS E (eS E e0)))))) (bdS 0 1 E qR (bdS 1 1 E qR (bdS 2 1 E qR (bdS 3 1 E qR (bdS 4 1 E qR (bdS 5 1 E qR bd0)))))) E λ b3=>?_);refine A3 E (A3N E kR Cs E ?_);refine mv_ ?_;refine A3 E (C5 (e:=28) (sz:=1) (z:=[vS,vS]) kR (eS E (eS E e0)) (bdS 0 1 E qR (bdS 1 1 E qR bd0)) E λ b6=>?_);refine C7 (aS E a0) kR (A3P _ [[115,101,99,114,101,116],ws] _ (B0N.of (Co (n:=2) m0 qR) E (.cons qD (Co (n:=6) (cs:=nums .u8 [115,101,99,114,101,116]) Cc qR) (.cons hv.lt (hv.rd.mono qS) .nil))) (by simp; omega) qM (mA h0) (mA h1)) E ?_;rintro r7 M7 J7 ⟨rfl,h7⟩;refine C7 (aS E a0) kR (A2H _ _ _ (A0x (h7.rd qS) (A1D _).symm E) (A7Y _) (by rw [A1D]; decide)) E ?_;rintro r8 M8 J8 ⟨rfl,rfl,hq8⟩;have hs8:Sc r8 (B2p ws):=A7Z hq8 qM;have hz8:=hs8;obtain ⟨s,rfl,s8,s32,sv⟩:=hs8;refine A3 E (A7 (vs:=nums .u32 s) E E E (by rw [nums_len,s8]; kernel_rfl) (by rw [nums_len,s8]; rfl) E9 Cs ?_);refine A0 (D5 2) (C0 ?_);exact ⟨_,[],[],A00 (n:=8) E E kR Cc (by rw [nums_len]; omega),Aa _,by simp,E,E,hz8⟩
theorem A4i(vr vp vm:Value)(wr wp wm:LN)(A:Mem)(hr:By A vr wr)(hp:By A vp wp)(hm:By A vm wm)(hG:GlS A):FnX Tryz.prog 135 [vr,vp,vm] [] A λ r M J=>M=[]∧J=[]∧Sc r (A6o wr wp wm):=by haveI:=hr.cel;haveI:=hp.cel;haveI:=hm.cel;have hrl:=hr.len;have hpl:=hp.len;have hml:=hm.len;obtain ⟨⟨ge0,gf0,h0⟩,⟨ge1,gf1,h1⟩⟩:=hG;refine Ck (N:=15) Tryz.func135 E E E λ w=>?_;refine A9 (D6 0 1 2) (A1 ?_);refine A3 E (C3 (cs:=[D3,D3,D3,D3,D3,D3,D3,D3]) kR E λ b6=>?_);refine A0 (D8 0 1 2 6) (A1 ?_);refine A3 E (C5 (e:=5) (sz:=1) (z:=[zu8,zu8,zu8,zu8,zu8,zu8,zu8,zu8,zu8]) kR (eS E (eS E (eS E (eS E (eS E (eS E (eS E (eS E (eS E e0))))))))) (bdS 0 1 E qR (bdS 1 1 E qR (bdS 2 1 E qR (bdS 3 1 E qR (bdS 4 1 E qR (bdS 5 1 E qR (bdS 6 1 E qR (bdS 7 1 E qR (bdS 8 1 E qR bd0))))))))) E λ b7=>?_);refine A3 E (A3N E kR Cs E ?_);refine mv_ (mv_ (mv_ ?_));refine A3 E (C5 (e:=28) (sz:=1) (z:=[vS,vS,vS,vS]) kR (eS E (eS E (eS E (eS E e0)))) (bdS 0 1 E qR (bdS 1 1 E qR (bdS 2 1 E qR (bdS 3 1 E qR bd0)))) E λ b12=>?_);refine C7 (aS E a0) kR (A3P _ [[99,104,97,108,108,101,110,103,101],wr,wp,wm] _ (B0N.of (Co (n:=4) m0 qR) E (.cons qD (Co (n:=9) (cs:=nums .u8 [99,104,97,108,108,101,110,103,101]) Cc qR) (.cons hr.lt (hr.rd.mono qS) (.cons hp.lt (hp.rd.mono qS) (.cons hm.lt (hm.rd.mono qS) .nil))))) (by simp; omega) qM (mA h0) (mA h1)) E ?_;rintro r13 M13 J13 ⟨rfl,h13⟩;refine C7 (aS E a0) kR (A2H _ _ _ (A0x (h13.rd qS) (A1D _).symm E) (A7Y _) (by rw [A1D]; decide)) E ?_;rintro r14 M14 J14 ⟨rfl,rfl,hq14⟩;have hs14:Sc r14 (A6o wr wp wm):=A7Z hq14 qM;have hz14:=hs14;obtain ⟨s,rfl,s8,s32,sv⟩:=hs14;refine A3 E (A7 (vs:=nums .u32 s) E E E (by rw [nums_len,s8]; kernel_rfl) (by rw [nums_len,s8]; rfl) E9 Cs ?_);refine A0 (D5 6) (C0 ?_);exact ⟨_,[],[],A00 (n:=8) E E kR Cc (by rw [nums_len]; omega),Aa _,by simp,E,E,hz14⟩
theorem A87(v:Value)(ws:LN)(A:Mem)(hv:By A v ws)(hG:GlS A):FnX Tryz.prog 77 [v] [] A λ r M J=>M=[]∧By J r (A95 ws):=by haveI:=hv.cel;have hvl:=hv.len;refine Cl (N:=9) Tryz.func77 E E E λ w_=>?_;refine A9 (D5 0) (A1 (as_ (A0 (D5 0) (A1 ?_))));refine C7 a0 kR (A7W _) E ?_;rintro r3 M3 J3 ⟨rfl,rfl,h3⟩;refine mv_ ?_;refine C7 (aS E a0) kR (A86 v ws _ (hv.mono qS) qO hG.up) E ?_;rintro r5 M5 J5 ⟨rfl,rfl,h5⟩;refine E6 (aS E a0) kR (A2I _ _ h5 _) E ?_;refine C7 (aS E (aS E a0)) kR (A5M _ pS (Q9 (B2p ws) 32) h3 (N1 _ _) (A5O _ _) _) E ?_;rintro r7 M7 J7 ⟨rfl,rfl,h7⟩;rw [B9g (B2r _)] at h7;refine C7 (aS E a0) kR ((A5N _ _ h7 _).frz0) E ?_;rintro r8 M8 J8 ⟨rfl,h8⟩;haveI:=h8.cel;refine as_ (A0 (D5 2) (C0 ?_));exact ⟨_,[],[],I0 E E,Fit.nil,E,B5S h8 (A5U _).symm (B5H _) (by rw [A5U]; decide) qS⟩
theorem C1Q(v vm:Value)(ws wm:LN)(A:Mem)(hv:By A v ws)(hm:By A vm wm)(hG:GlS A):FnX Tryz.prog 103 [v,vm] [] A λ r M J=>J=[]∧Sl 1 r 64 (nums .u8 (B2q ws wm)) M:=by
 haveI:=hv.cel;haveI:=hm.cel;have hvl:=hv.len;have hml:=hm.len;have hG0:=hG;obtain ⟨⟨ge0,gf0,h0⟩,⟨ge1,gf1,h1⟩⟩:=hG;have hG:=hG0;refine Ck (N:=34) Tryz.func103 E E E λ w=>?_;refine A9 (D2 0 1) (A1 (as_ (A0 (D2 0 1) (A1 ?_))));refine A3 E (C5 (e:=5) (sz:=1) (z:=[zu8,zu8,zu8,zu8,zu8]) kR (eS E (eS E (eS E (eS E (eS E e0))))) (bdS 0 1 E qR (bdS 1 1 E qR (bdS 2 1 E qR (bdS 3 1 E qR (bdS 4 1 E qR bd0))))) E λ b8=>?_);refine A3 E (A3N E kR Cs E ?_);refine mv_ (mv_ ?_);refine A3 E (C5 (e:=28) (sz:=1) (z:=[vS,vS,vS]) kR (eS E (eS E (eS E e0))) (bdS 0 1 E qR (bdS 1 1 E qR (bdS 2 1 E qR bd0))) E λ b12=>?_);refine C7 (aS E a0) kR (A3P _ [[110,111,110,99,101],ws,wm] _ (B0N.of (Co (n:=3) m0 qR) E (.cons qD (Co (n:=5) (cs:=nums .u8 [110,111,110,99,101]) Cc qR) (.cons hv.lt (hv.rd.mono qS) (.cons hm.lt (hm.rd.mono qS) .nil)))) (by simp; omega) qM (mA h0) (mA h1)) E ?_;rintro r13 M13 J13 ⟨rfl,h13⟩;refine C7 (aS E a0) kR (A2H _ _ _ (A0x (h13.rd qS) (A1D _).symm E) (A7Y _) (by rw [A1D]; decide)) E ?_;rintro r14 M14 J14 ⟨rfl,rfl,hq14⟩;have hs14:Sc r14 (B7x ws wm):=A7Z hq14 qM;have hz14:=hs14;obtain ⟨s,rfl,s8,s32,sv⟩:=hs14;refine A3 E (C3 (cs:=[D3,D3,D3,D3,D3,D3,D3,D3]) kR E λ b5=>?_);refine A3 E (A7 (vs:=nums .u32 s) E E E (by rw [nums_len,s8]; kernel_rfl) (by rw [nums_len,s8]; rfl) E9 Cs ?_);refine A0 (D6 0 1 5) ?_;refine D1 [0,1,2,3,4,5] [(1,1),(0,2),(2,2),(3,2),(4,2),(5,0)] kR kR λ hs=>?_;refine F9 hs E (H6 (n:=8) (cs:=nums .u32 s) E kR Cc (by rw [nums_len]; omega)) E ?_;refine G9 E a0 kR (A7W _) E ?_;rintro r15 M15 J15 ⟨rfl,rfl,h15⟩;refine N3 E (aS E a0) kR (A2I _ _ hz14 _) E ?_;refine G9 E (aS E (aS E a0)) kR (A5M _ pS (Q9 (B7x ws wm) 32) h15 (N1 _ _) (A5O _ _) _) E ?_;rintro r18 M18 J18 ⟨rfl,rfl,h18⟩;rw [B9g (B2s _ _)] at h18;refine G9 E (aS E a0) kR (A5N _ _ h18 _) E ?_;rintro r19 M19 J19 ⟨rfl,h19⟩;haveI:=h19.cel;replace h19:Sl 1 r19 32 (nums .u8 (rB ws wm)) M19:=h19;refine fa_ hs ?_;refine E3 (D8 0 1 5 6) ?_;refine D1 (.range 12) [(0,0),(1,0),(3,0),(5,0),(8,1),(2,3),(4,3),(6,3),(7,3),(9,3),(10,3),(11,4),(12,2)] kR kR λ hs=>?_;refine fm_ hs ?_;refine fm_ hs ?_;refine fm_ hs ?_;refine fm_ hs ?_;refine F9 hs E (H6 (n:=8) (cs:=nums .u32 s) E kR Cc (by rw [nums_len]; omega)) E ?_
 refine N6 [⟨2,22,λ v B R=>B=[]∧By R v (A95 ws)⟩,⟨4,24,λ v B _=>B=[]∧Sc v (A6o (rB ws wm) (A95 ws) wm)⟩,⟨6,26,λ v B _=>B=[]∧Sc v (B2p ws)⟩,⟨7,27,λ v B _=>B=[]∧Sc v (A6o (rB ws wm) (A95 ws) wm * B2p ws % lN)⟩,⟨9,29,λ v B _=>B=[]∧Sc v (sN ws wm)⟩,⟨10,30,λ v B _=>B=[]∧v=.agg (nums .u8 (Q9 (sN ws wm) 32)).toArray⟩,⟨11,7,λ v B _=>∃ b,v=(vP b)∧B=[(b,blk [.int .u8 0,.int .u8 0,.int .u8 0,.int .u8 0,.int .u8 0,.int .u8 0,.int .u8 0,.int .u8 0,.int .u8 0,.int .u8 0,.int .u8 0,.int .u8 0,.int .u8 0,.int .u8 0,.int .u8 0,.int .u8 0,.int .u8 0,.int .u8 0,.int .u8 0,.int .u8 0,.int .u8 0,.int .u8 0,.int .u8 0,.int .u8 0,.int .u8 0,.int .u8 0,.int .u8 0,.int .u8 0,.int .u8 0,.int .u8 0,.int .u8 0,.int .u8 0] 188)]⟩]
  (A5 (λ _ _ _ _ hR h=>⟨h.1,h.2.mono hR⟩) (A5 gM (A5 gM (A5 gM (A5 gM (A5 gM (A5 gM (I7)))))))) nd_ nd_ dl_
  (gO ?_ (gO ?_ (gO ?_ (gO ?_ (gO ?_ (gO ?_ (gO ?_ (I7)))))))) ?_
 . intro _ _ _ _ hb _;refine E2 (aS E a0) kR (A87 v ws _ (hv.mono λ x hx=>hb _ (qS x hx)) (hG.sub λ x hx=>hb _ (mA hx))) E ?_;rintro r M1 J1 ⟨rfl,hh⟩;exact ⟨_,E,E,hh.mono λ x hx=>by simp [hx]⟩
 . intro _ _ _ _ hb ha;have g2:=gx 0 ha;dsimp only at g2;obtain ⟨-,k2⟩:=g2;refine E2 (aS E (aS E (aS E (a0)))) kR (A4i _ _ _ (rB ws wm) (A95 ws) wm _ (B5S h19 (B2t _ _).symm (B5H _) (by rw [B2t]; decide) (λ x hx=>hb _ (qS x hx))) k2 (hm.mono λ x hx=>hb _ (qS x hx)) (hG.sub λ x hx=>hb _ (mA hx))) E ?_;rintro r M1 J1 ⟨rfl,rfl,hh⟩;exact ⟨_,E,E,hh⟩
 . intro _ _ _ _ hb _;refine E2 (aS E (a0)) kR (A86 v ws _ (hv.mono λ x hx=>hb _ (qS x hx)) qO (hG.sub λ x hx=>hb _ (mA hx))) E ?_;rintro r M1 J1 ⟨rfl,rfl,hh⟩;exact ⟨_,E,E,hh⟩
 . intro _ _ _ _ _ ha;have g4:=gx 1 ha;dsimp only at g4;have g6:=gx 2 ha;dsimp only at g6;obtain ⟨-,k4⟩:=g4;obtain ⟨-,k6⟩:=g6;refine E2 (aS E (aS E (a0))) kR (B5K _ _ _ _ k4 k6 (B2r _) _) E ?_;rintro r M1 J1 ⟨rfl,rfl,hh⟩;exact ⟨_,E,E,hh⟩
 . intro _ _ _ _ _ ha;have g7:=gx 3 ha;dsimp only at g7;obtain ⟨-,k7⟩:=g7;refine E2 (aS E (aS E (a0))) kR (A67 _ _ _ _ k7 hz14 (Ad _ A7a) (B2s _ _) _) E ?_;rintro r M1 J1 ⟨rfl,rfl,hh⟩;exact ⟨_,E,E,hh⟩
 . intro _ _ _ _ _ ha;have g9:=gx 4 ha;dsimp only at g9;obtain ⟨-,k9⟩:=g9;exact R8 (aS E a0) kR (A2I _ _ k9 _) E ⟨_,E,E,E⟩
 .
  intros
  exact C3 (cs:=[zu8,zu8,zu8,zu8,zu8,zu8,zu8,zu8,zu8,zu8,zu8,zu8,zu8,zu8,zu8,zu8,zu8,zu8,zu8,zu8,zu8,zu8,zu8,zu8,zu8,zu8,zu8,zu8,zu8,zu8,zu8,zu8]) kR E λ b=>⟨_,E,b,E,E⟩
 intro vs bs Jn0 hφ;have g2:=gy 0 hφ;have g4:=gy 1 hφ;have g6:=gy 2 hφ;have g7:=gy 3 hφ;have g9:=gy 4 hφ;have g10:=gy 5 hφ;have g11:=gy 6 hφ;dsimp only at g2 g4 g6 g7 g9 g10 g11;clear hφ;dsimp only [V2,Q6,List.map,List.flatten,List.cons_append,List.nil_append];generalize bs 2=B22,bs 4=B24,bs 6=B26,bs 7=B27,bs 9=B29,bs 10=B30,bs 11=B7,vs 2=u22,vs 4=u24,vs 6=u26,vs 7=u27,vs 9=u29,vs 10=u30,vs 11=u7 at *;obtain ⟨rfl,-⟩:=g2;obtain ⟨rfl,-⟩:=g4;obtain ⟨rfl,-⟩:=g6;obtain ⟨rfl,-⟩:=g7;obtain ⟨rfl,-⟩:=g9;obtain ⟨rfl,rfl⟩:=g10;obtain ⟨b7,rfl,rfl⟩:=g11;dsimp only [List.append_eq,List.nil_append,List.cons_append];refine G1 E E E (A7 (vs:=nums .u8 (Q9 (sN ws wm) 32)) E E E (by rw [nums_len,N1]; kernel_rfl) (by rw [nums_len,N1]; rfl) E9 Cs ?_);refine E3 (D2 6 7) (A1 (mv_ ?_));refine A2 (B0Y (sz:=1) (e:=5) (n:=32) E kR kR) E ?_;refine A3 E (H5 (e:=5) (sz:=1) (by_:=1) (n:=32) (m:=32) E E kR E h19 (Co (n:=32) (cs:=nums .u8 (Q9 (sN ws wm) 32)) Cc (by rw [nums_len,N1])) E9 qP (by unfold maxLen; omega) qO E λ v33 B33 hs33=>?_);haveI:=hs33.cel;rw [<- H8] at hs33;refine as_ (A0 (D5 4) (C0 ?_));exact ⟨_,B33,[],I0 E E,Ay _ _,by simp,E,hs33⟩

end Go.Proofs.YtjkpfgjfpbihaaaGreatDoor
namespace Go.Px
open Go.ChangeShapes Go.WideShapes Go.ChangeAt Go.RowKit
structure Byi(R:Mem)(v:Value)(w:List Nat):Prop where
  rd:Rd R 1 v w.length (nums .u8 w)
  lt:∀ x∈w,x < 256
  len:w.length<=maxLen
theorem Byi.mono{R R':Mem}{v:Value}{w:List Nat}(h:Byi R v w)(hR:∀ x,x∈R->x∈R'):Byi R' v w:=⟨h.rd.mono hR,h.lt,h.len⟩
variable{v:Value}{w:List Nat}
theorem By.i{R:Mem}(h:By R v w):Byi R v w:=⟨h.rd,h.lt,h.max⟩
theorem Byi.by{R:Mem}(h:Byi R v w)(hl:w.length<=16777216):By R v w:=⟨h.rd,h.lt,hl⟩
theorem Byi.cel{R:Mem}{v:Value}{w:List Nat}(h:Byi R v w):Cel v [v]:=h.rd.cel
theorem Byi.one{R:Mem}{v:Value}{w:List Nat}(h:Byi R v w):v.oneCell'=true:=h.rd.one
section
variable{H:Type}{enc:TypeId×Value->H}{P:Program}{w:World}{spare:Nat->Bool}{held:Bool}{fuel:Nat}{t e:TypeId}{cs:List Value}{x:DataW H×List MemPlace}
end
end Go.Px

