/- Part 21 of the texts of this claim, one behind the other. -/
import Derived.Test.YtjkpfgjfpbihaaaGreatDoorB20
set_option linter.unusedVariables false
set_option linter.unusedSimpArgs false
set_option maxRecDepth 100000
namespace Go.Proofs.YtjkpfgjfpbihaaaGreatDoor
open Go.Px
def rcR(n:Nat):Ps:=⟨true,A6q,n,[]⟩
def rk(n:Nat):LN:=B4m A6q n
noncomputable def rb(n:Nat):LN:=A4g (I5 (rk n) 32)
noncomputable def rg(n:Nat):LN:=A95 (I5 (rk n) 32)
noncomputable def rs(n:Nat):LN:=B2q (I5 (rk (n+2)) 32) (A9b 1 (rb (n+3)))
noncomputable def rKs(u d:Int)(n:Nat):Ks:=⟨u,d,rk (n+1),rk (n+2),[⟨1,rk (n+3),rs n⟩],[⟨2,rk (n+4),[]⟩,⟨3,rk (n+5),[]⟩,⟨4,rk (n+6),[]⟩,⟨5,rk (n+7),[]⟩],6,[]⟩
theorem A7s(n:Nat):G3 (rcR n)=rcR (n+1):=rfl
theorem A6f(n:Nat):G5 (rcR n)=rk (n+1):=A8R rfl
theorem C3V(u d:Int)(n:Nat):A2Z (k0N u d (rcR n)) (rcR (n+2))=(⟨u,d,rk (n+1),rk (n+2),[⟨1,rk (n+3),rs n⟩],[],2,[]⟩,rcR (n+3)):=by rfl
theorem A9u(k:Ks)(n i m:Nat)(l:List Pr)(hk:Y6 k (rcR n) i=({ k with once:=l,next:=m },rcR (n+i))):Y6 k (rcR n) (i+1)=({ k with once:=l++[⟨m,rk (n+i+1),[]⟩],next:=m+1 },rcR (n+(i+1))):=by simp only [Y6];rw [hk];rfl
theorem newR(u d:Int)(n:Nat):B0v u d (rcR n)=(rKs u d n,rcR (n+7)):=by have h:=A9u _ (n+3) 3 5 _ (A9u _ (n+3) 2 4 _ (A9u _ (n+3) 1 3 _ (A9u ⟨u,d,rk (n+1),rk (n+2),[⟨1,rk (n+3),rs n⟩],[],2,[]⟩ (n+3) 0 2 [] E)));unfold B0v A50;rw [A7s,A7s,C3V];exact h
noncomputable def rBn(u d:Int)(n j:Nat):Bn:=⟨u,d,rb (n+1),rg (n+2),1,rb (n+3),rs n,decide (0 < j),if 0 < j then j+1 else 0,if 0 < j then rb (n+3+j) else []⟩
theorem C0H(n:Nat)(w:LN):N8 (rcR n) w=rcR n:=rfl
theorem A8k(n m:Nat):P7 (rcR n) (rk m)=rb m:=if_pos rfl
theorem skRK(n m:Nat):C1S (rcR n) (rk m)=rg m:=if_pos rfl
theorem C2B(u d:Int)(n c:Nat):C15 (rKs u d n) ⟨1,rk (n+3),rs n⟩ (rcR c)=rBn u d n 0:=by unfold C15 idA idG idS rKs;rw [C0H,C0H,A8k,A8k,skRK];rfl
theorem A9v{b:Bn}{l:List Pr}{c i j x:Nat}{L:List Bn}(h:A51 b l (rcR c) i=(L,rcR c))(ho:l[i]? = some ⟨x,rk j,[]⟩):A51 b l (rcR c) (i+1)=(L++[{ b with has:=true,once:=x,oncek:=rb j }],rcR c):=by rw [A4k ho,h];dsimp only;rw [C0H,A8k]
theorem bunR(u d:Int)(n c:Nat):B2U (rKs u d n) (rcR c)=([rBn u d n 0,rBn u d n 1,rBn u d n 2,rBn u d n 3,rBn u d n 4],rcR c):=by
  have h:=A9v (A9v (A9v (A9v (b:=rBn u d n 0) (l:=(rKs u d n).once) (c:=c) (i:=0) (L:=[rBn u d n 0]) E E) E) E) rfl;have e:B2U (rKs u d n) (rcR c)=A51 (C15 (rKs u d n) ⟨1,rk (n+3),rs n⟩ (rcR c)) (rKs u d n).once (rcR c) 4:=by unfold B2U; rfl
  rw [e,C2B];exact h
noncomputable def xk(a b:LN):LN:=x25 (I5 a 32) (I5 b 32)
theorem C3W(c:Nat):∀ l,agS (rcR c) l=rcR c
  | []=>rfl
  | x::r=>C3W c r
theorem C3X(c:Nat):∀ l,agK (rcR c) l=l.map λ x=>xk x.1 x.2
  | []=>rfl
  | x::r=>by show xk x.1 x.2::agK (rcR c) r=_; rw [C3X c r]; rfl
def rSe(l:List (LN)):LN:=(C0A (A8S z32 l A1T 1) 1).getD 0 []
theorem seSR(c:Nat)(l:List (LN)):seS (rcR c) l=rcR c:=rfl
theorem seKR(c:Nat)(l:List (LN)):seK (rcR c) l=rSe l:=by unfold seK; rw [A6X rfl]; rfl
noncomputable def rL(a b c j:Nat):List (LN):=xk (rk (a+1)) (rb (b+3))::xk (rk (c+1)) (rb (b+1))::xk (rk (c+1)) (rb (b+3))::if 0 < j then [xk (rk (c+1)) (rb (b+3+j))] else []
noncomputable def A22(a b c j:Nat):LN:=rSe (rL a b c j)
noncomputable def rHe(a c j:Nat):He:=⟨rb (a+1),rg (a+2),rb (c+1),1,decide (0 < j),if 0 < j then j+1 else 0⟩
section
variable{u1 d1 u2 d2:Int}{a b c j x:Nat}
theorem idR:idS (rKs u1 d1 a) (rcR c)=rcR c∧idA (rKs u1 d1 a) (rcR c)=rb (a+1)∧idG (rKs u1 d1 a) (rcR c)=rg (a+2):=by unfold idS idA idG rKs;rw [C0H,C0H,A8k,skRK];exact ⟨E,E,E⟩
theorem stAR:stA (rk (a+1)) (rBn u2 d2 b j) (rcR c)=rcR (c+1):=by unfold stA;rw [A7s,C3W]
theorem stLR:stL (rk (a+1)) (rBn u2 d2 b j) (rcR c)=rL a b c j:=by
  unfold stL stP;rw [A7s,A6f,C3X];unfold rBn rL;dsimp only;by_cases h:0 < j
  . rw [decide_eq_true h,if_pos E,if_pos h,if_pos h]; rfl
  . rw [decide_eq_false h,if_neg (by decide:¬ (false=true)),if_neg h]; rfl
theorem stIR:stI (rKs u1 d1 a) (rBn u2 d2 b j) (rcR c)=rcR (c+1):=by unfold stI;rw [show (rKs u1 d1 a).agree=rk (a+1) from rfl,stAR,idR.1,C0H]
theorem C3Y:stS (rKs u1 d1 a) (rBn u2 d2 b j) (rcR c)=rcR (c+1):=by unfold stS;rw [stIR,seSR]
theorem stKR:stK (rKs u1 d1 a) (rBn u2 d2 b j) (rcR c)=A22 a b c j:=by unfold stK A22;rw [stIR,seKR,show (rKs u1 d1 a).agree=rk (a+1) from rfl,stLR]
theorem C3Z:stH (rKs u1 d1 a) (rBn u2 d2 b j) (rcR c)=rHe a c j:=by
  unfold stH;rw [show (rKs u1 d1 a).agree=rk (a+1) from rfl,stAR,idR.1,idR.2.1,idR.2.2,A6f,A8k];unfold rBn rHe;dsimp only;by_cases h:0 < j
  . rw [decide_eq_true h,if_pos rfl]
  . rw [decide_eq_false h,if_neg h,if_neg qD]
noncomputable def rWi(u1 d1:Int)(a:Nat)(u2 d2:Int)(b:Nat):LN:=B3a u1 d1 (rb (a+1)) (rg (a+2)) u2 d2 (rb (b+1)) (rg (b+2))
noncomputable def rNm(u1 d1:Int)(a:Nat)(u2 d2:Int)(b c j:Nat):List (LN):=[A6q,rWi u1 d1 a u2 d2 b,heW [] (rHe a c j)]
theorem sBR:sB (rKs u1 d1 a) (rBn u2 d2 b j) (rcR c)=rcR (c+1):=by unfold sB; rw [C3Y,idR.1]
theorem sWiR:sWi (rKs u1 d1 a) (rBn u2 d2 b j) (rcR c)=rWi u1 d1 a u2 d2 b:=by unfold sWi; rw [C3Y,idR.2.1,idR.2.2]; rfl
theorem sNmR:sNm (rKs u1 d1 a) (rBn u2 d2 b j) (rcR c)=rNm u1 d1 a u2 d2 b c j:=by unfold sNm; rw [sWiR,C3Z]; rfl
theorem sCR:sC (rKs u1 d1 a) (rBn u2 d2 b j) (rcR c)=rcR (c+1):=by unfold sC; rw [sBR]; rfl
noncomputable def rId(u1 d1:Int)(a:Nat)(u2 d2:Int)(b c j:Nat):LN:=X8 (Q2 (rNm u1 d1 a u2 d2 b c j))
noncomputable def rTr(root dh:LN):List (LN):=C0A (A8S root [dh] A7l 2) 2
theorem C30(root sec pub:LN):B6B (rcR c) root sec pub=rcR c:=rfl
theorem C2C(root sec pub:LN):C21 (rcR c) root sec pub=rTr root (xk sec pub):=by unfold C21; rw [A6X rfl]; rfl
noncomputable def rRt(a b c j:Nat):Rsd:=⟨rk (c+2),rb (b+3),(rTr (A22 a b c j) (xk (rk (c+2)) (rb (b+3)))).getD 0 [],(rTr (A22 a b c j) (xk (rk (c+2)) (rb (b+3)))).getD 1 [],0,[],0,0,[]⟩
theorem C31{sec:LN}:B9O (rcR (c+1)) (A22 a b c j) (rb (b+3))=rRt a b c j:=by unfold B9O B9M B9N rRt;rw [A7s,A6f,C2C]
theorem sXR:sX (rKs u1 d1 a) (rBn u2 d2 b j) (rcR c)=⟨rId u1 d1 a u2 d2 b c j,rWi u1 d1 a u2 d2 b,rHe a c j,true,rRt a b c j⟩:=by unfold sX;rw [sBR,sNmR,sWiR,C3Z,sCR,stKR,show (rBn u2 d2 b j).key=rb (b+3) from rfl,C31 (sec:=[]),A55 rfl];rfl
theorem sDR:sD (rKs u1 d1 a) (rBn u2 d2 b j) (rcR c)=rcR (c+2):=by unfold sD C3J;rw [sCR];rfl
def Cm(i j:Nat):Prop:=xk (rk i) (rb j)=xk (rk j) (rb i)
theorem anRR(hj:j < 5)(h1:Cm (a+1) (b+3))(h2:Cm (c+1) (b+1))(h3:Cm (c+1) (b+3))(h4:0 < j->Cm (c+1) (b+3+j)):anR (rKs u2 d2 b) (rHe a c j) (rcR x)=(some (A22 a b c j,rk (b+3)),rcR x):=by
  have g1:A4H (rKs u2 d2 b).signed (rHe a c j).signed=some (rk (b+3)):=A0c (i:=0) (x:=⟨1,rk (b+3),rs b⟩) E rfl
  have e:∀ ox,anE (rKs u2 d2 b).agree (rk (b+3)) ox (rHe a c j) (rcR x)=(some (rSe ((anP (rk (b+1)) (rk (b+3)) ox (rHe a c j)).map λ x=>xk x.1 x.2),rk (b+3)),rcR x):=λ ox=>by unfold anE;rw [show (rKs u2 d2 b).agree=rk (b+1) from rfl,C3W,C3X,seKR,seSR]
  unfold Cm at *;by_cases h:0 < j
  . have g2:A4H (rKs u2 d2 b).once (rHe a c j).once=some (rk (b+3+j)):=by
      rw [show (rHe a c j).once=j+1 from if_pos h];rcases (by omega:j=1∨j=2∨j=3∨j=4) with rfl | rfl | rfl | rfl
      . exact A0c (i:=0) (x:=⟨2,rk (b+4),[]⟩) E rfl
      . exact A0c (i:=1) (x:=⟨3,rk (b+5),[]⟩) E rfl
      . exact A0c (i:=2) (x:=⟨4,rk (b+6),[]⟩) E rfl
      . exact A0c (i:=3) (x:=⟨5,rk (b+7),[]⟩) E rfl
    rw [B2X g1 (decide_eq_true h) g2,e];unfold A22 rL;rw [if_pos h,h1,h2,h3,h4 h];rfl
  . rw [A9g g1 (decide_eq_false h),e];unfold A22 rL;rw [if_neg h,h1,h2,h3];rfl
end
section
variable{a b c j x y:Nat}{w t:LN}
theorem opBR(h:Cm (c+2) (b+3)):opB (rcR x) (A1U (A22 a b c j) (rk (b+3))) (rb (c+2)) 0=(rcR x,⟨rk (b+3),rb (c+2),(rRt a b c j).root,[],0,(rRt a b c j).sk,0,0,[]⟩):=by
  have e:A0R (A1U (A22 a b c j) (rk (b+3))) (rb (c+2))=true:=by unfold A0R; rw [show decide ((A1U (A22 a b c j) (rk (b+3))).tk=[])=true from rfl,Bool.or_true]
  unfold opB;rw [if_pos e];show C2t (rcR x,[],0,[]) _ _=_;unfold C2t B9M B9N;dsimp only;rw [C30,show (A1U (A22 a b c j) (rk (b+3))).root=A22 a b c j from rfl,show (A1U (A22 a b c j) (rk (b+3))).own=rk (b+3) from rfl,C2C,<- h];rfl
end

def ktL:List (Nat×Nat×Nat):=[(1,49648432504720260955043508100269141598121996876484469816063882278408016837409,43579952692473895249977853531276835309611853489501707562503312629126265737292),(3,113598984334543023808991019871956028227584166732994691169797568479549018510211,1568562892688422619241395377948670739017437203027659747596829349424255536705),(4,39117555172390166739169195557800039290637037836225363505726225315930432430023,56613351888025421265125888392184291405917282462082996420330890505237459859296),(5,96991125506150539548379486859026926197769688919075646883843506918157910203524,46143206728819871883695144060317165876551021910244103994618537761408101182011),(6,81946734711212919267572265519009735516737152737684065362243457255296711996801,11292419196848863776312551309724979194165100679611670774022308562452978989501),(7,102978774775870656459122893995467920178100755405239951597344852909527067642409,42341679334163095929436101628680526221536921676622507555104042475827251050647),(8,19797579613397667307196206659707403989444058426100842364027555693351873071225,42490295575167291544073724295060780977718951664086096098623949900089133858438),(10,14500192208073577922602148793390589717025359320289012319261772672291098708340,15277806078231658106835129138038169729841706824619479089343418336713776643073),(11,40904127468683819453815771905140976484699781247780023553314185969707283326814,50264333835289086851931107196478582963045805107595177137590584648893824902266),(12,29293061289068232213737734835171068377918534858727001331940895129256171844303,26733801538026758239274759775294760766416160200818066347703343864258473862204),(13,112709015950251864185482921359332030377058214017393418008876168792296812557072,54234645725133544775842776226981998549054836546715351656365856742718751247491),(14,104500552285895004546980501118396834290715107376785473855050197711065903729943,37572585573584688043474990216330437937877280113323961988567169114238918210946),(15,39446927653920170378987430905681352583270409999372688783672237949755118645526,14398205757495566844717034284021624659371672890649565486316934534586444739453),(16,12232174228135290042619352316198409023111468479706496131933350532749516616850,46171005788162507935279109975335599417777295979005697536911976755062922582414),(17,63164979387473800676055704009723994819290789398748133852724468463797382834239,15792571324079130177180592513572724843804425376612684421348640637849477546170),(18,71684430218185319150372279477406317482055319764920012263996135549634185492787,40461286659534624587406461957736322206498767015202906306694560252878870425030)]
theorem C32:(ktL.all λ e=>decide (C0F A6q e.1=Q9 e.2.1 32) && (dhG (Q9 e.2.1 32) 9 e.2.2 && decide (rdN (Q9 e.2.2 32)=e.2.2)))=true:=by decide +kernel
def cmL:List ((Nat×Nat×Nat)×(Nat×Nat×Nat)×Nat):=[(ktL.getD 0 (0,0,0),ktL.getD 7 (0,0,0),53223714868292767023364586847239686791542761237996514205441590922828564407267),(ktL.getD 12 (0,0,0),ktL.getD 6 (0,0,0),46484402803494269325585469854620694462216944433952655386585126189837153893134),(ktL.getD 12 (0,0,0),ktL.getD 7 (0,0,0),31953628441783627819627232783569746788303101374385861604423997821669952776635),(ktL.getD 12 (0,0,0),ktL.getD 8 (0,0,0),27634817521606537894254152957328406683991776835723790283880099222085538224579),(ktL.getD 12 (0,0,0),ktL.getD 9 (0,0,0),40859181681756903340533256621965850865652313541486388182120274446410510637224),(ktL.getD 12 (0,0,0),ktL.getD 10 (0,0,0),3345831793914472445055032423848725686928397167307257631725647463081939282131),(ktL.getD 12 (0,0,0),ktL.getD 11 (0,0,0),34088129190268514486832061034871389633911074569120394618390538838462212247011),(ktL.getD 13 (0,0,0),ktL.getD 7 (0,0,0),54660659605645299172095824760485157398313783747941905086842391481740302642204),(ktL.getD 6 (0,0,0),ktL.getD 1 (0,0,0),51514082227239969378273522157276181555393790248543772710742760372210013927303),(ktL.getD 14 (0,0,0),ktL.getD 0 (0,0,0),12910196441887492604787083451478277061743849953715592271508880818552667714985),(ktL.getD 14 (0,0,0),ktL.getD 1 (0,0,0),6910421807496865255547149489774479531163628349014577356318735057574231721842),(ktL.getD 14 (0,0,0),ktL.getD 2 (0,0,0),48136720145932987207583575881241284053188135512098611616892478880605657354591),(ktL.getD 14 (0,0,0),ktL.getD 3 (0,0,0),51758483457279098904155304237602872579745326092522648924292699019979421343710),(ktL.getD 14 (0,0,0),ktL.getD 4 (0,0,0),38723707090351101123414071698985119710503694698106073526754942691122346622106),(ktL.getD 14 (0,0,0),ktL.getD 5 (0,0,0),44780549771415369619442303776800533809069333228105322836719027491309831449603),(ktL.getD 15 (0,0,0),ktL.getD 1 (0,0,0),46106527345415975728447688877999226678332978061646486422088535009970764524788)]
theorem C33:(cmL.all λ e=>dhG (Q9 e.1.2.1 32) e.2.1.2.2 e.2.2 && dhG (Q9 e.2.1.2.1 32) e.1.2.2 e.2.2)=true:=by decide +kernel
theorem C2D{i x y:Nat}(h:(i,x,y)∈ktL):I5 (rk i) 32=Q9 x 32∧rb i=Q9 y 32∧rdN (Q9 y 32)=y:=by
  have h1:=List.all_eq_true.1 C32 _ h;rw [Bool.and_eq_true,Bool.and_eq_true,decide_eq_true_eq,decide_eq_true_eq] at h1;have e:I5 (rk i) 32=Q9 x 32:=by unfold rk; rw [A6e h1.1,C0G]
  refine ⟨e,?_,h1.2.2⟩;unfold rb;rw [e];exact A7q h1.2.1 (by decide +kernel)
theorem C34:(cmL.all λ e=>ktL.contains e.1 && ktL.contains e.2.1)=true:=by decide +kernel
theorem B7Y(n:Nat)(h:n < cmL.length):Cm cmL[n].1.1 cmL[n].2.1.1:=by have h1:=List.all_eq_true.1 C33 _ (List.getElem_mem h);have h2:=List.all_eq_true.1 C34 _ (List.getElem_mem h);rw [Bool.and_eq_true] at h1 h2;obtain ⟨a1,a2,a3⟩:=C2D (List.contains_iff_mem.1 h2.1);obtain ⟨b1,b2,b3⟩:=C2D (List.contains_iff_mem.1 h2.2);unfold Cm xk;rw [a1,a2,b1,b2,C0G,C0G,A7q h1.1 b3,A7q h1.2 a3]
theorem C0i:Cm 1 10:=B7Y 0 qD
theorem C0j:Cm 15 8:=B7Y 1 qD
theorem B6L:Cm 15 10:=B7Y 2 qD
theorem B6M:Cm 15 11:=B7Y 3 qD
theorem B6N:Cm 15 12:=B7Y 4 qD
theorem B6O:Cm 15 13:=B7Y 5 qD
theorem B6P:Cm 15 14:=B7Y 6 qD
theorem A9w:Cm 16 10:=B7Y 7 qD
theorem rbl(n:Nat):(rb n).length=32:=by unfold rb A4g; exact A4h _ _
theorem rgl(n:Nat):(rg n).length=32:=A5U _
theorem rg_B:rg 9=gBL:=by unfold rg rk; rw [kf_B,pu_B]
theorem rs_B:rs 7=rBL++Q9 sBL 32:=by unfold rs rb rk; rw [kf_B,pb_B,ms_B,sg_B]
theorem C35:A69 (rg 9) (A9b 1 (rb 10)) (rs 7)=true:=by rw [rg_B,rs_B];unfold rb rk;rw [pb_B,ms_B,ck_B]
class Fo(α:Type) where
  f:α->(α->Bool)->Bool
  e:∀ x k,f x k=k x
noncomputable instance:Fo Nat:=⟨L6,U9⟩
noncomputable instance:Fo Bool:=⟨λ b k=>Bool.rec (k false) (k true) b,λ b k=>by cases b <;> rfl⟩
noncomputable instance:Fo Int:=⟨λ i k=>Int.rec (λ n=>L6 n λ n=>k (Int.ofNat n)) (λ n=>L6 n λ n=>k (Int.negSucc n)) i,λ i k=>by cases i <;> exact U9 _ _⟩
theorem foL{α:Type}[Fo α](l:List α)(k:List α->Bool):(List.rec (motive:=λ _=>(List α->Bool)->Bool) (λ k=>k []) (λ x _ ih k=>Fo.f x λ y=>ih λ s=>k (y::s)) l:(List α->Bool)->Bool) k=k l:=by
  induction l generalizing k with
  | nil=>rfl
  | cons x r ih=>exact (Fo.e x _).trans (ih _)
noncomputable instance{α:Type}[Fo α]:Fo (List α):=⟨λ l k=>(List.rec (motive:=λ _=>(List α->Bool)->Bool) (λ k=>k []) (λ x _ ih k=>Fo.f x λ y=>ih λ s=>k (y::s)) l:(List α->Bool)->Bool) k,foL⟩
noncomputable instance{α β:Type}[Fo α][Fo β]:Fo (α×β):=⟨λ x k=>Prod.rec (λ a b=>Fo.f a λ a=>Fo.f b λ b=>k (a,b)) x,λ x k=>by cases x; exact (Fo.e _ _).trans (Fo.e _ _)⟩
noncomputable instance{α:Type}[Fo α]:Fo (Option α):=⟨λ x k=>Option.rec (k none) (λ a=>Fo.f a λ a=>k (some a)) x,λ x k=>by cases x; rfl; exact Fo.e _ _⟩
noncomputable instance:Fo Tm:=⟨λ x k=>Tm.rec (λ x0 x1 x2 x3=>Fo.f x0 λ x0=>Fo.f x1 λ x1=>Fo.f x2 λ x2=>Fo.f x3 λ x3=>k ⟨x0,x1,x2,x3⟩) x,λ x k=>by cases x; simp only [Fo.e]⟩
noncomputable instance:Fo Ps:=⟨λ x k=>Ps.rec (λ x0 x1 x2 x3=>Fo.f x0 λ x0=>Fo.f x1 λ x1=>Fo.f x2 λ x2=>Fo.f x3 λ x3=>k ⟨x0,x1,x2,x3⟩) x,λ x k=>by cases x; simp only [Fo.e]⟩
noncomputable instance:Fo Pr:=⟨λ x k=>Pr.rec (λ x0 x1 x2=>Fo.f x0 λ x0=>Fo.f x1 λ x1=>Fo.f x2 λ x2=>k ⟨x0,x1,x2⟩) x,λ x k=>by cases x; simp only [Fo.e]⟩
noncomputable instance:Fo Nm:=⟨λ x k=>Nm.rec (λ x0 x1=>Fo.f x0 λ x0=>Fo.f x1 λ x1=>k ⟨x0,x1⟩) x,λ x k=>by cases x; simp only [Fo.e]⟩
noncomputable instance:Fo Ks:=⟨λ x k=>Ks.rec (λ x0 x1 x2 x3 x4 x5 x6 x7=>Fo.f x0 λ x0=>Fo.f x1 λ x1=>Fo.f x2 λ x2=>Fo.f x3 λ x3=>Fo.f x4 λ x4=>Fo.f x5 λ x5=>Fo.f x6 λ x6=>Fo.f x7 λ x7=>k ⟨x0,x1,x2,x3,x4,x5,x6,x7⟩) x,λ x k=>by cases x; simp only [Fo.e]⟩
noncomputable instance:Fo Bn:=⟨λ x k=>Bn.rec (λ x0 x1 x2 x3 x4 x5 x6 x7 x8 x9=>Fo.f x0 λ x0=>Fo.f x1 λ x1=>Fo.f x2 λ x2=>Fo.f x3 λ x3=>Fo.f x4 λ x4=>Fo.f x5 λ x5=>Fo.f x6 λ x6=>Fo.f x7 λ x7=>Fo.f x8 λ x8=>Fo.f x9 λ x9=>k ⟨x0,x1,x2,x3,x4,x5,x6,x7,x8,x9⟩) x,λ x k=>by cases x; simp only [Fo.e]⟩
noncomputable instance:Fo He:=⟨λ x k=>He.rec (λ x0 x1 x2 x3 x4 x5=>Fo.f x0 λ x0=>Fo.f x1 λ x1=>Fo.f x2 λ x2=>Fo.f x3 λ x3=>Fo.f x4 λ x4=>Fo.f x5 λ x5=>k ⟨x0,x1,x2,x3,x4,x5⟩) x,λ x k=>by cases x; simp only [Fo.e]⟩
noncomputable instance:Fo Skp:=⟨λ x k=>Skp.rec (λ x0 x1 x2=>Fo.f x0 λ x0=>Fo.f x1 λ x1=>Fo.f x2 λ x2=>k ⟨x0,x1,x2⟩) x,λ x k=>by cases x; simp only [Fo.e]⟩
noncomputable instance:Fo Rsd:=⟨λ x k=>Rsd.rec (λ x0 x1 x2 x3 x4 x5 x6 x7 x8=>Fo.f x0 λ x0=>Fo.f x1 λ x1=>Fo.f x2 λ x2=>Fo.f x3 λ x3=>Fo.f x4 λ x4=>Fo.f x5 λ x5=>Fo.f x6 λ x6=>Fo.f x7 λ x7=>Fo.f x8 λ x8=>k ⟨x0,x1,x2,x3,x4,x5,x6,x7,x8⟩) x,λ x k=>by cases x; simp only [Fo.e]⟩
noncomputable instance:Fo Ses:=⟨λ x k=>Ses.rec (λ x0 x1 x2 x3 x4=>Fo.f x0 λ x0=>Fo.f x1 λ x1=>Fo.f x2 λ x2=>Fo.f x3 λ x3=>Fo.f x4 λ x4=>k ⟨x0,x1,x2,x3,x4⟩) x,λ x k=>by cases x; simp only [Fo.e]⟩
noncomputable instance:Fo Ev:=⟨λ x k=>Ev.rec (λ x0 x1 x2 x3 x4 x5 x6 x7 x8 x9 x10=>Fo.f x0 λ x0=>Fo.f x1 λ x1=>Fo.f x2 λ x2=>Fo.f x3 λ x3=>Fo.f x4 λ x4=>Fo.f x5 λ x5=>Fo.f x6 λ x6=>Fo.f x7 λ x7=>Fo.f x8 λ x8=>Fo.f x9 λ x9=>Fo.f x10 λ x10=>k ⟨x0,x1,x2,x3,x4,x5,x6,x7,x8,x9,x10⟩) x,λ x k=>by cases x; simp only [Fo.e]⟩

variable{ts:List Tm}
theorem A0E(L:List (LN×LN))(h:(ts.all λ t=>t.kind != 6 || (t.n == 0 && t.of.length == 1 && L.any λ ab=>t.text == mark ab.1++mark ab.2 && ab.2.all (· < 256) && decide (ab.2.length<=16777216)))=true):A3j ts:=by intro t ht hk;have h1:=List.all_eq_true.1 h t ht;simp only [Bool.or_eq_true,bne_iff_ne,ne_eq,hk,not_true_eq_false,false_or,Bool.and_eq_true,beq_iff_eq,List.any_eq_true,List.all_eq_true,decide_eq_true_eq] at h1;obtain ⟨⟨h2,h3⟩,ab,-,⟨h4,h5⟩,h6⟩:=h1;obtain ⟨k,of,tx,n⟩:=t;obtain ⟨x,rfl⟩:=List.length_eq_one_iff.1 h3;cases h2; cases hk; cases h4;exact ⟨x,ab.1,ab.2,E,h5,h6⟩
variable{s:Ps}
theorem A7t{w:LN}(h:((List.range s.ts.length).any λ i=>w == bts ((i:Nat):Int))=true):Kok s w:=by
  obtain ⟨i,h1,h2⟩:=List.any_eq_true.1 h
  exact λ _=>⟨i,List.mem_range.1 h1,eq_of_beq h2⟩
def tmB(t:Tm):Bool:=Nat.blt t.kind 256 && decide (-9223372036854775808<=t.n) && decide (t.n<=9223372036854775807) && (t.of.all λ i=>decide (-9223372036854775808<=i) && decide (i<=9223372036854775807)) && decide (t.of.length<=1048576) && (t.text.all (· < 256)) && decide (t.text.length<=1099511627776)
def C2E(ts:List Tm)(w wa wg t:LN):Bool:=wg.length == 32 && match plc wg ts.length,plc w ts.length with
  | some i,some j=>match ts[i]? with
    | some u=>u.kind == 6 && u.of == [((j:Nat):Int)] && u.text == mark wa++mark t && u.n == 0
    | none=>false
  | _,_=>false
theorem A6g{w wa wg t:LN}(h:C2E ts w wa wg t=true):A8g ts w wa wg t:=by
  unfold C2E at h;rw [Bool.and_eq_true] at h;refine ⟨eq_of_beq h.1,?_⟩;have h2:=h.2
  cases hi:plc wg ts.length with
  | none=>rw [hi] at h2; cases h2
  | some i =>
    cases hj:plc w ts.length with
    | none=>rw [hi,hj] at h2; cases h2
    | some j =>
      rw [hi,hj] at h2;dsimp only at h2
      cases hu:ts[i]? with
      | none=>rw [hu] at h2; cases h2
      | some u =>
        rw [hu] at h2;simp only [Bool.and_eq_true,beq_iff_eq] at h2;obtain ⟨k,of,tx,n⟩:=u;obtain ⟨⟨⟨rfl,rfl⟩,rfl⟩,rfl⟩:=h2;exact ⟨i,j,E,E,hu⟩
def tcd(t:Tm):Nat:=(t.of.foldl (λ a i=>a * 18446744073709551616+i.toNat) (t.text.foldl (λ a b=>a * 256+b) t.kind)) * 18446744073709551616+t.n.toNat
def ndC:LN->Bool
  | []=>true
  | x::r=>r.all (λ y=>!Nat.beq x y) && ndC r
theorem B7Z:∀ {l:LN},ndC l=true->l.Nodup
  | [],_=>List.nodup_nil
  | x::r,h=>by simp only [ndC,Bool.and_eq_true,List.all_eq_true] at h;refine List.nodup_cons.2 ⟨λ hm=>?_,B7Z h.2⟩;have:=h.1 x hm;simp at this
theorem A6h(h:(ts.all tmB && Fo.f (ts.map tcd) ndC)=true):Tok ts:=by rw [Fo.e] at h;simp only [Bool.and_eq_true,List.all_eq_true] at h;refine ⟨λ t ht=>?_,(List.pairwise_map.1 (B7Z h.2)).imp λ h e=>h (congrArg tcd e)⟩;have h1:=h.1 t ht;simp only [tmB,Bool.and_eq_true,decide_eq_true_eq,List.all_eq_true] at h1;obtain ⟨⟨⟨⟨⟨⟨a,b⟩,c⟩,d⟩,e⟩,f⟩,g⟩:=h1;exact ⟨P2 a,⟨b,c⟩,d,e,⟨f⟩,g⟩
def wiW(x:Ses)(h:He)(fu fd tu td:Int):LN:=x.wi++frW [] (A2d x h fu fd tu td)
noncomputable def evS(s:Ps)(x:Ses)(h:He)(fu fd tu td:Int)(tx:LN):Ev:=⟨fu,fd,tu,td,x.id,x.tell,h,P7 s x.r.own,x.r.prev,x.r.sn,A9t s x.r (wiW x h fu fd tu td) tx⟩
def KsF(k:Ks):Prop:=k.signed.length=1∧k.once.length<=10∧(k.once.map (·.n)).Pairwise (· < ·)
def C2F(k:Ks)(U:List Bn×Ps)(Y:Bn):Prop:=(U.1.length=5∧U.2.ts.length<=500∧U.2.n<=100)∧Ar U.2.ts∧ckB U.2 Y=true∧(stS k Y U.2).ts.length<=900∧(stS k Y U.2).n<=900∧(stH k Y U.2).ia.length<=1000∧(stH k Y U.2).ig.length<=1000∧(stH k Y U.2).key.length<=1000∧(idA k (stS k Y U.2)).length+(idG k (stS k Y U.2)).length+Y.ia.length+Y.ig.length<=1000000
def SnF(s:Ps)(x:Ses)(fu fd tu td:Int):Prop:=s.ts.length<=900∧x.tell=true∧0 < x.r.sk.length∧x.wi.length<=1000000∧x.id.length+x.he.ia.length+x.he.ig.length+x.he.key.length<=1000000∧(wiW x x.he fu fd tu td).length<=1000000
def AnD(k:Ks)(e:Ev)(s:Ps)(sec own:LN)(s2 sz:Ps)(rz:Rsd):Prop:=(s.ts.length<=900∧e.has=true∧s2.ts.length<=900)∧e.he.ia.length+e.he.ig.length+(idA k s2).length+(idG k s2).length<=1000000∧e.ses.length+e.he.ia.length+e.he.ig.length+e.he.key.length<=1000000∧A2K (idS k s2) (aNm k e s2)=e.ses∧((aC k e s2).ts.length<=900∧(aC k e s2).n<=900)∧(aX k e s2 sec own).wi.length<=1000000∧((aX k e s2 sec own).wi++frW [] e).length+e.hk.length<=1000000∧e.g.length<=10000000∧(sz.ts.length<=900∧sz.n<=900)∧0 < rz.own.length
structure AnF(k:Ks)(e:Ev)(s:Ps)(tx sec own:LN)(s2 sz:Ps)(rz:Rsd):Prop where
  an:anR k e.he s=(some (sec,own),s2)
  d:AnD k e s sec own s2 sz rz
  oh:OpnH (aC k e s2) (aX k e s2 sec own).r e.hk e.hp e.hn
  op:U7 (aC k e s2) (aX k e s2 sec own).r ((aX k e s2 sec own).wi++frW [] e) e.hk e.hp e.hn e.g=(sz,rz,0,tx)
instance{k:Ks}:Decidable (KsF k):=by unfold KsF; infer_instance
noncomputable instance{k:Ks}{U:List Bn×Ps}{Y:Bn}:Decidable (C2F k U Y):=by unfold C2F Ar; infer_instance
noncomputable instance{s:Ps}{x:Ses}{fu fd tu td:Int}:Decidable (SnF s x fu fd tu td):=by unfold SnF; infer_instance
noncomputable def A6i(k:Ks)(e:Ev)(s:Ps):LN:=((anR k e.he s).1.getD ([],[])).1
noncomputable def A6j(k:Ks)(e:Ev)(s:Ps):LN:=((anR k e.he s).1.getD ([],[])).2
noncomputable def anF(k:Ks)(e:Ev)(s:Ps):Ps:=aC k e (anR k e.he s).2
noncomputable def anX(k:Ks)(e:Ev)(s:Ps):Ses:=aX k e (anR k e.he s).2 (A6i k e s) (A6j k e s)
noncomputable def anC(k:Ks)(e:Ev)(s:Ps):Ps×Rsd:=opB (anF k e s) (anX k e s).r e.hk e.hp
noncomputable def anO(k:Ks)(e:Ev)(s:Ps):Ps×Rsd:=opZ (A0R (anX k e s).r e.hk) (opD (anC k e s) e.hn) (opG (anX k e s).r (anC k e s) e.hn)
def A7u(L:List (LN×LN))(ts:List Tm):Bool:=ts.all λ t=>t.kind != 6 || (t.n == 0 && t.of.length == 1 && L.any λ ab=>t.text == mark ab.1++mark ab.2 && ab.2.all (· < 256) && decide (ab.2.length<=16777216))
noncomputable def anT(L:List (LN×LN))(e:Ev)(tx:LN)(N:Option (LN×LN)×Ps)(F:Ps)(X:Ses)(C:Ps×Rsd)(D:Ps)(K:LN):Bool:=N.1.isSome && (!D.real && (decide (A3f X.r.sks e.hk e.hn=none) && (decide (B0l X.r e.hp=0) && (decide (ahE C.2.tn e.hn=0) && ((D.ts.all tmB && Fo.f (D.ts.map tcd) ndC) && (C2E D.ts K (alW (X.wi++frW [] e) e.hk e.hp e.hn) e.g tx && (A7u L F.ts && (A7u L D.ts && ((List.range D.ts.length).any λ i=>K == bts ((i:Nat):Int))))))))))
noncomputable def AnB(L:List (LN×LN))(k:Ks)(e:Ev)(s:Ps)(tx:LN):Prop:=anT L e tx (anR k e.he s) (anF k e s) (anX k e s) (anC k e s) (opD (anC k e s) e.hn) (A4y (anC k e s) e.hn)=true∧AnD k e s (A6i k e s) (A6j k e s) (anR k e.he s).2 (anO k e s).1 (anO k e s).2
variable{L:List (LN×LN)}{e:Ev}{tx:LN}
theorem B70{N:Option (LN×LN)×Ps}{F:Ps}{X:Ses}(h:anT L e tx N F X (opB F X.r e.hk e.hp) (opD (opB F X.r e.hk e.hp) e.hn) (A4y (opB F X.r e.hk e.hp) e.hn)=true):N.1.isSome=true∧OpnH F X.r e.hk e.hp e.hn∧U7 F X.r (X.wi++frW [] e) e.hk e.hp e.hn e.g=((opZ (A0R X.r e.hk) (opD (opB F X.r e.hk e.hp) e.hn) (opG X.r (opB F X.r e.hk e.hp) e.hn)).1,(opZ (A0R X.r e.hk) (opD (opB F X.r e.hk e.hp) e.hn) (opG X.r (opB F X.r e.hk e.hp) e.hn)).2,0,tx):=by unfold anT at h;simp only [Bool.and_eq_true,decide_eq_true_eq,Bool.not_eq_true'] at h;obtain ⟨h1,h2,h3,h4,h5,h6,h7,h8,h9,h10⟩:=h;exact ⟨h1,⟨A0E L h8,λ z hz=>absurd (hz.symm.trans h3) qM,A0E L h9,A7t h10⟩,A5f h3 E (λ _=>h4) h5 ((A2Q h2 _ _ _).trans (A2O (A6h (by rw [Bool.and_eq_true]; exact h6)) (A6g h7)))⟩
theorem B71{k:Ks}(h:AnB L k e s tx):AnF k e s tx (A6i k e s) (A6j k e s) (anR k e.he s).2 (anO k e s).1 (anO k e s).2:=by
  obtain ⟨h1,h2,h3⟩:=B70 h.1;refine ⟨?_,h.2,h2,h3⟩;unfold A6i A6j
  cases hq:(anR k e.he s).1 with
  | none=>rw [hq] at h1; cases h1
  | some q=>exact Prod.ext hq rfl

def rcO:Bn:=⟨0,0,[],[],0,[],[],false,0,[]⟩
def rc0(m:Nat):Ps:=⟨m % 2 == 0,A6q,0,[]⟩
noncomputable def rcA(m:Nat):Ks×Ps:=B0v 0 1 (rc0 m)
noncomputable def rcB(m:Nat):Ks×Ps:=B0v 1 1 (rcA m).2
noncomputable def rcU(m:Nat):List Bn×Ps:=B2U (rcB m).1 (rcB m).2
noncomputable def rcY(m j:Nat):Bn:=(rcU m).1.getD j rcO
noncomputable def rcX(m j:Nat):Ses:=sX (rcA m).1 (rcY m j) (rcU m).2
noncomputable def rcD(m j:Nat):Ps:=sD (rcA m).1 (rcY m j) (rcU m).2
def OpF(m j:Nat):Prop:=KsF (rcA m).1∧KsF (rcB m).1∧C2F (rcA m).1 (rcU m) (rcY m j)
noncomputable instance{k:Ks}{e:Ev}{s:Ps}{sec own:LN}{s2 sz:Ps}{rz:Rsd}:Decidable (AnD k e s sec own s2 sz rz):=by unfold AnD; infer_instance
noncomputable def nmB(ts:List Tm)(w g:LN):Bool:=(List.range ts.length).any λ i=>g == bts ((i:Nat):Int) && match ts[i]? with
  | some u=>u.kind == (B46 []).kind && u.of == [] && u.text == w && u.n == 0
  | none=>false
theorem C2G{ws:List (LN)}{g:LN}(hr:s.real=false)(ht:Tok s.ts)(h:nmB s.ts (Q2 ws) g=true):A2a s ws=s∧A2K s ws=g:=by
  obtain ⟨i,-,h1⟩:=List.any_eq_true.1 h;rw [Bool.and_eq_true,beq_iff_eq] at h1;obtain ⟨h1,h2⟩:=h1
  cases hu:s.ts[i]? with
  | none=>rw [hu] at h2; cases h2
  | some u =>
    rw [hu] at h2;simp only [Bool.and_eq_true,beq_iff_eq] at h2;obtain ⟨k,of,tx,n⟩:=u;obtain ⟨⟨⟨rfl,rfl⟩,rfl⟩,rfl⟩:=h2;obtain ⟨e1,e2⟩:=B6s (ws:=ws) hr ht hu;exact ⟨e1,e2.trans h1.symm⟩
def AnE(k:Ks)(e:Ev)(s F:Ps)(X:Ses)(s2 sz:Ps)(rz:Rsd):Prop:=(s.ts.length<=900∧e.has=true∧s2.ts.length<=900)∧e.he.ia.length+e.he.ig.length+(idA k s2).length+(idG k s2).length<=1000000∧e.ses.length+e.he.ia.length+e.he.ig.length+e.he.key.length<=1000000∧(F.ts.length<=900∧F.n<=900)∧X.wi.length<=1000000∧(X.wi++frW [] e).length+e.hk.length<=1000000∧e.g.length<=10000000∧(sz.ts.length<=900∧sz.n<=900)∧0 < rz.own.length
noncomputable instance{k:Ks}{e:Ev}{s F:Ps}{X:Ses}{s2 sz:Ps}{rz:Rsd}:Decidable (AnE k e s F X s2 sz rz):=by unfold AnE; infer_instance
noncomputable def C2H(L:List (LN×LN))(k:Ks)(e:Ev)(s:Ps)(tx:LN)(c:Ses->Ps×Rsd->Bool):Bool :=
  Fo.f (anR k e.he s) λ N=>Fo.f (idS k N.2) λ F=>Fo.f (⟨e.ses,aWi k e N.2,he0,false,A1U (N.1.getD ([],[])).1 (N.1.getD ([],[])).2⟩:Ses) λ X=>Fo.f (opB F X.r e.hk e.hp) λ C=>Fo.f (opD C e.hn) λ D=>Fo.f (A4y C e.hn) λ K=>Fo.f (opZ (A0R X.r e.hk) D (opG X.r C e.hn)) λ O =>
    (Fo.f (Q2 (aNm k e N.2)) λ w=>nmB F.ts w e.ses) && (!F.real && ((F.ts.all tmB && Fo.f (F.ts.map tcd) ndC) && (anT L e tx N F X C D K && (decide (AnE k e s F X N.2 O.1 O.2) && c X O))))
theorem B3Y{k:Ks}{c:Ses->Ps×Rsd->Bool}(h:C2H L k e s tx c=true):AnB L k e s tx∧c (anX k e s) (anO k e s)=true:=by
  unfold C2H at h;simp only [Fo.e,Bool.and_eq_true,decide_eq_true_eq,Bool.not_eq_true'] at h;obtain ⟨h1,h2,h3,h4,h5,h6⟩:=h;obtain ⟨e1,e2⟩:=C2G h2 (A6h (by rw [Bool.and_eq_true,Fo.e]; exact h3)) h1;have hF:anF k e s=idS k (anR k e.he s).2:=e1
  have hX:anX k e s=⟨e.ses,aWi k e (anR k e.he s).2,he0,false,A1U (A6i k e s) (A6j k e s)⟩:=by unfold anX aX;rw [e2]
  obtain ⟨d1,d2,d3,d4,d5⟩:=h5;rw [<- hF] at d4 h4 h6 d5;change anT L e tx _ _ ⟨e.ses,aWi k e (anR k e.he s).2,he0,false,A1U (A6i k e s) (A6j k e s)⟩ _ _ _=true at h4;change c ⟨e.ses,aWi k e (anR k e.he s).2,he0,false,A1U (A6i k e s) (A6j k e s)⟩ _=true at h6;rw [<- hX] at h4 h6;refine ⟨⟨h4,d1,d2,d3,e2,d4,?_⟩,h6⟩;rw [show aX k e (anR k e.he s).2 (A6i k e s) (A6j k e s)=_ from hX];unfold anO anC;rw [hX];exact d5
def a5(f:Nat->Bool):Bool:=f 0 && (f 1 && (f 2 && (f 3 && f 4)))
section
variable{m n j i:Nat}(h:rc0 m=rc0 n)
include h
theorem B6Q:rcA m=rcA n:=by unfold rcA; rw [h]
theorem C0k:rcB m=rcB n:=by unfold rcB; rw [B6Q h]
theorem B6R:rcU m=rcU n:=by unfold rcU; rw [C0k h]
theorem C0l:rcY m j=rcY n j:=by unfold rcY; rw [B6R h]
theorem C36:rcX m j=rcX n j:=by unfold rcX; rw [B6Q h,C0l h,B6R h]
theorem C37:rcD m j=rcD n j:=by unfold rcD; rw [B6Q h,C0l h,B6R h]
theorem C38:OpF m j=OpF n j:=by unfold OpF; rw [B6Q h,C0k h,B6R h,C0l h]
end

theorem C2I{m j:Nat}(h:(rcU m).1.length=5)(hj:j < 5):(rcU m).1[j]? = some (rcY m j):=by unfold rcY;rw [Aj,Ab qO]; rfl
theorem mdS(m:Nat):((m % 2:Nat):Int)=md (m % 2 == 0):=by rcases Nat.mod_two_eq_zero_or_one m with h | h <;> rw [h] <;> rfl
def T1(R:Mem)(tb pb ka kb:Nat)(s:Ps)(x0:Ses)(M:Mem):Prop:=∃ vi vw p0 r0 u0 vo vt vr vk0 vl vst MP,M=(tb,blk ((vP pb)::(vP ka)::(vP kb)::.int .i64 0::.int .i64 1::.int .i64 1::.int .i64 1::vi::vw::p0::r0::u0::(vU x0.he.signed)::.bool x0.he.has::(vU x0.he.once)::.bool x0.tell::vo::vt::vr::vk0::(vU x0.r.sn)::vl::(vU x0.r.tn)::(vU x0.r.prev)::vst::vS::vS::vS::vS::vS::.int .u32 0::.bool false::.int .u32 0::.bool false::vS::vS::vS::vS::.int .u32 0::vS::.int .u32 0::.int .u32 0::.pointer none::.bool true::[]) 59)::MP∧SeR R x0 vi vw p0 r0 u0 vo vt vr vk0 vl vst∧Prm pb s MP
def T2(R:Mem)(tb pb ka kb:Nat)(s:Ps)(x0 x1:Ses)(M:Mem):Prop:=∃ vi vw p0 r0 u0 vo vt vr vk0 vl vst wi ww p1 r1 u1 wo wt wr wk0 wl wst MP,M=(tb,blk ((vP pb)::(vP ka)::(vP kb)::.int .i64 0::.int .i64 1::.int .i64 1::.int .i64 1::vi::vw::p0::r0::u0::(vU x0.he.signed)::.bool x0.he.has::(vU x0.he.once)::.bool x0.tell::vo::vt::vr::vk0::(vU x0.r.sn)::vl::(vU x0.r.tn)::(vU x0.r.prev)::vst::wi::ww::p1::r1::u1::(vU x1.he.signed)::.bool x1.he.has::(vU x1.he.once)::.bool x1.tell::wo::wt::wr::wk0::(vU x1.r.sn)::wl::(vU x1.r.tn)::(vU x1.r.prev)::wst::.bool true::[]) 59)::MP∧SeR R x0 vi vw p0 r0 u0 vo vt vr vk0 vl vst∧SeR R x1 wi ww p1 r1 u1 wo wt wr wk0 wl wst∧Prm pb s MP
def KyE(R:Mem)(kb:Nat)(k:Ks):Prop:=∃ va vg vq vo vm rs ro rm,KyR R kb k va vg vq vo vm rs ro rm
set_option maxHeartbeats 1000000 in
theorem A9x(m p:Nat)(A:Mem)(hm:m < 256)(hp:p < 256)(hF:OpF m (p % 5))(hG:Glb A):FnX Tryz.prog 6 [.int .u8 ((m:Nat):Int),.int .u8 ((p:Nat):Int)] [] A λ q M J=>∃ tb pb ka kb,q=(vP tb)∧T1 (J++A) tb pb ka kb (rcD m (p % 5)) (rcX m (p % 5)) M∧KyE (J++A) ka (rcA m).1∧KyE (J++A) kb (rcB m).1:=by
 refine Cl (N:=79) Tryz.func6 E E E λ w_=>?_;refine A9 (D2 0 1) (A1 (as_ (A0 (D2 0 1) (A1 (mv_ ?_)))));refine A2 (T8 (a:=m) (b:=2) E E E E qD) E ?_;rw [mdS m];refine A3 E (C5 (e:=5) (sz:=1) (z:=[zu8,zu8,zu8,zu8,zu8,zu8,zu8]) kR (eS E (eS E (eS E (eS E (eS E (eS E (eS E e0))))))) (bdS 0 1 E qR (bdS 1 1 E qR (bdS 2 1 E qR (bdS 3 1 E qR (bdS 4 1 E qR (bdS 5 1 E qR (bdS 6 1 E qR bd0))))))) E λ b13=>?_);refine A3 E (A3N E kR Cs E ?_);refine A3Z (B:=[_]) (PickC.sing).perm ?_;refine C7 (aS E (aS E a0)) kR (B1v (m % 2 == 0) _ [115,101,115,115,105,111,110] _ ⟨Co (n:=7) (Cc) qR,by decide,by decide⟩) E ?_;rintro v15 MP J15 ⟨pb,rfl,hP⟩;change Prm pb (rc0 m) MP at hP;have q1:=B2T 0 1 (rc0 m);change (rcA m).2.ts.length<=11∧(rcA m).2.n<=7∧_ at q1;have q2:=B2T 1 1 (rcA m).2;change (rcB m).2.ts.length<=_∧(rcB m).2.n<=_∧_ at q2;refine mv_ ?_;refine A2 (Y8 E) E ?_;refine A2 (Y4 E) E ?_;refine as_ (as_ (A0 (D6 1 5 6) (A4 (A1 (mv_ ?_)))));refine A2 (F5 false E E (neF E)) E ?_;refine A0 (D6 1 5 19) ?_;refine C9 E ?_;refine A6 (nx (D2 1 5) (A1 (mv_ ?_)));refine A2 (F1 (place:=λ x=>#[(0,1),(1,1)][x]?) (z:=[.int .i64 0,.int .i64 0]) (λ _=>by kernel_rfl) (eS E (eS E e0)) (bdS 0 1 E qR (bdS 1 1 E qR bd0))) E ?_;refine A2 (F1 (place:=λ x=>#[(0,1),(1,1)][x]?) (z:=[.int .i64 0,.int .i64 0]) (λ _=>by kernel_rfl) (eS E (eS E e0)) (bdS 0 1 E qR (bdS 1 1 E qR bd0))) E ?_;refine A2 (F1 (place:=λ i=>some (i * 2,2)) (z:=[P5,P5,P5,P5]) (λ _=>by kernel_rfl) (eS E (eS E e0)) (bdS 0 2 E qR (bdS 2 2 E qR bd0))) E ?_;refine A2 (F1 (place:=λ x=>#[(0,1),(1,2),(3,4),(7,36),(43,1)][x]?) (z:=(.pointer none::.pointer none::.pointer none::.int .i64 0::.int .i64 0::.int .i64 0::.int .i64 0::vS::vS::vS::vS::vS::.int .u32 0::.bool false::.int .u32 0::.bool false::vS::vS::vS::vS::.int .u32 0::vS::.int .u32 0::.int .u32 0::.pointer none::vS::vS::vS::vS::vS::.int .u32 0::.bool false::.int .u32 0::.bool false::vS::vS::vS::vS::.int .u32 0::vS::.int .u32 0::.int .u32 0::.pointer none::.bool false::[])) (λ _=>by kernel_rfl) (eS E (eS E e0)) (bdS 0 1 E qR (bdS 3 4 E qR bd0))) E ?_;refine A3 E (bx_ λ b25=>?_);refine as_ (A0 (D6 1 5 7) (A4 (A1 (as_ (A0 (D8 1 5 7 8) (A8 ?_))))));refine Y0 3 ?_;refine I4 ?_;refine A4 (A1 (mv_ ?_));refine A2 (F5 true E E (ltT qD)) E ?_;refine A0 (E8 1 5 7 8 27) ?_;refine E1 E ?_;refine A6 (nx (D8 1 5 7 8) (A4 (A8 ?_)));refine H7 [0,1,2,3,4,5,6,7,8,10,11,12] [(0,0),(1,0),(2,0),(3,0),(4,0),(5,0),(6,0),(7,0),(8,1),(10,0),(11,0),(9,2),(12,0),(13,2)] kR kR λ hs=>?_;refine fm_ hs ?_;refine fm_ hs ?_;refine fm_ hs ?_;refine fm_ hs ?_;refine fm_ hs ?_;refine C8 hs E (E7 E) E ?_;refine C8 hs E (qf_ 3 3) E ?_;refine C8 hs E (E0 (e:=27) (n:=2) (sz:=2) (i:=0) 3 E E kR kR E qD E) E ?_;refine F9 hs E (F4 (n:=2) (vs:=[.int .i64 0,.int .i64 1]) E kR Cc E (D4 [(vP pb),.pointer none,.pointer none] [.int .i64 0,.int .i64 1] (.int .i64 1::.int .i64 1::vS::vS::vS::vS::vS::.int .u32 0::.bool false::.int .u32 0::.bool false::vS::vS::vS::vS::.int .u32 0::vS::.int .u32 0::.int .u32 0::.pointer none::vS::vS::vS::vS::vS::.int .u32 0::.bool false::.int .u32 0::.bool false::vS::vS::vS::vS::.int .u32 0::vS::.int .u32 0::.int .u32 0::.pointer none::.bool false::[]))) E ?_;refine C8 hs E (E7 E) E ?_;refine C8 hs E (qf_ 1 1) E ?_;refine G1 E E E (D0 (Mc:=MP) (R:=_) (aS E (aS E (a0))) kR qP (Cj qS (C16 0 1 pb (rc0 m) MP A hP (show 0+200<=1048576 by decide) (show 0+100 < 1000000000 by decide) hG)) E ?_)
 rintro v39 M39 J39 ⟨ka,MA,MP2,rfl,rfl,hKa,hP2⟩;change Kys _ ka (rcA m).1 MA at hKa;change Prm pb (rcA m).2 MP2 at hP2;refine C8 hs E (E0 (e:=54) (n:=2) (sz:=1) (i:=0) 1 E E kR kR E qD E) E ?_;refine G1 E E E (E4 E E E kR Cq Cs ?_);refine R9 (nb (nx (D8 1 5 7 8) (C2 (mv_ ?_))));refine A2 (D7 (1:Int) E E (F7 qD qD qD)) E ?_;refine as_ (C6 ?_);refine un (D8 1 5 7 8) ?_;refine I4 ?_;refine A4 (A1 (mv_ ?_));refine A2 (F5 true E E (ltT qD)) E ?_;refine A0 (E8 1 5 7 8 27) ?_;refine E1 E ?_;refine A6 (nx (D8 1 5 7 8) (A4 (A8 ?_)));refine H7 [0,1,2,3,4,5,6,7,8,10,11,12] [(0,0),(1,0),(2,0),(3,0),(4,0),(5,0),(6,0),(7,0),(8,1),(10,0),(11,0),(9,2),(12,0),(13,2)] kR kR λ hs=>?_;refine fm_ hs ?_;refine fm_ hs ?_;refine fm_ hs ?_;refine fm_ hs ?_;refine fm_ hs ?_;refine C8 hs E (E7 E) E ?_;refine C8 hs E (qf_ 3 3) E ?_;refine C8 hs E (E0 (e:=27) (n:=2) (sz:=2) (i:=1) 5 E E kR kR E qD E) E ?_;refine F9 hs E (F4 (n:=2) (vs:=[.int .i64 1,.int .i64 1]) E kR Cc E (D4 [(vP pb),(vP ka),.pointer none,.int .i64 0,.int .i64 1] [.int .i64 1,.int .i64 1] (vS::vS::vS::vS::vS::.int .u32 0::.bool false::.int .u32 0::.bool false::vS::vS::vS::vS::.int .u32 0::vS::.int .u32 0::.int .u32 0::.pointer none::vS::vS::vS::vS::vS::.int .u32 0::.bool false::.int .u32 0::.bool false::vS::vS::vS::vS::.int .u32 0::vS::.int .u32 0::.int .u32 0::.pointer none::.bool false::[]))) E ?_;refine C8 hs E (E7 E) E ?_;refine C8 hs E (qf_ 1 1) E ?_;refine G1 E E E (D0 (Mc:=MP2) (R:=_) (aS E (aS E (a0))) kR qP (Cj qS (C16 1 1 pb (rcA m).2 MP2 (J39++A) hP2 qO qO (hG.sub qS))) E ?_);rintro v139 M139 J139 ⟨kb,MB,MP3,rfl,rfl,hKb,hP3⟩;change Kys _ kb (rcB m).1 MB at hKb;change Prm pb (rcB m).2 MP3 at hP3;refine C8 hs E (E0 (e:=54) (n:=2) (sz:=1) (i:=1) 2 E E kR kR E qD E) E ?_;refine G1 E E E (E4 E E E kR Cq Cs ?_);refine R9 (nb (nx (D8 1 5 7 8) (C2 (mv_ ?_))));refine A2 (D7 (2:Int) E E (F7 qD qD qD)) E ?_;refine as_ (C6 ?_);refine un (D8 1 5 7 8) ?_;refine I4 ?_;refine A4 (A1 (mv_ ?_));refine A2 (F5 false E E (ltF qD)) E ?_;refine A0 (E8 1 5 7 8 27) ?_;refine C9 E ?_;refine D9 (te (ue (be E (nx (D6 1 5 7) ?_))));refine Y5 (B:=MA) qP ?_;refine Y5 (B:=MB) qP ?_;obtain ⟨va,vg,vq,vo,vm,rs,ro,rm,hra⟩:=hKa.r;obtain ⟨ua,ug,uq,uo,um,ss,so,sm,hrb⟩:=hKb.r;obtain ⟨-,⟨f1,f2,-⟩,⟨f3,f5,f6⟩,f7,f8,f9⟩:=hF;obtain ⟨x,hsg⟩:=List.length_eq_one_iff.1 f1;refine A1 (mv_ ?_);refine A2 (E7 E) E ?_;refine A2 (qf_ 1 1) E ?_;refine A2 (E0 (e:=54) (n:=2) (sz:=1) (i:=1) 2 E E kR kR E qD E) E ?_;refine A2 ql_ E ?_;refine mv_ ?_;refine A3 E (D0 (Mc:=MP3) (R:=_) (aS E (aS E (a0))) kR qP (Cj qS (B2V pb (rcB m).2 kb (rcB m).1 ua ug uq uo um ss so sm x [] MP3 (MB++(MA++(J139++(J39++A)))) (hrb _ qS qS) hsg hP3 qO qO (hG.sub qS))) E ?_);rintro v49 M49 J49 ⟨hP49,rows,hrd,hrw⟩;haveI:=hrd.cel;change Prm pb (rcU m).2 M49 at hP49;change Rd _ 10 _ (rcU m).1.length _ at hrd;change RwL bnR _ rows (rcU m).1 at hrw;obtain ⟨r0,hr0,w1,w2,w3,w4,w5,rfl,gw1,gw2,gw3,gw4,gw5,gws,gwo⟩:=hrw.get (p % 5) (rcY m (p % 5)) (C2I f3 (Ad p qD));haveI:=gw1.cel;haveI:=gw2.cel;haveI:=gw3.cel;haveI:=gw4.cel;haveI:=gw5.cel;refine as_ (A0 (D8 1 5 7 9) (A4 (A1 (mv_ ?_))));refine A2 (G6 (sz:=10) E kR hrd) E ?_;rw [f3];refine A2 (F5 false E E (neF qR)) E ?_;refine A0 (E8 1 5 7 9 52) ?_;refine C9 E ?_;refine A6 (nx (D8 1 5 7 9) ?_)
 refine D1 [0,1,2,3,4,5,6,7,8,9,10,11,12,14,15,16,17,18,19,21] [(0,0),(1,0),(2,0),(3,0),(4,0),(5,0),(6,1),(7,0),(8,0),(9,0),(10,0),(11,0),(12,1),(17,0),(18,0),(13,2),(14,0),(15,0),(16,0),(19,0),(20,2),(21,0)] kR kR λ hs=>?_;refine fm_ hs ?_;refine fm_ hs ?_;refine fm_ hs ?_;refine C8 hs E (E7 E) E ?_;refine C8 hs E (qf_ 1 1) E ?_;refine C8 hs E (E0 (e:=54) (n:=2) (sz:=1) (i:=0) 1 E E kR kR E qD E) E ?_;refine F9 hs E ql_ E ?_;refine fm_ hs ?_;refine fm_ hs ?_;refine C8 hs E (A0l (k':=.i64) ((p:Nat):Int) E kR (A0S qO qO)) E ?_;refine C8 hs E (T8 (a:=p) (b:=5) E E E E qD) E ?_;refine C8 hs E (H4 (sz:=10) (a:=p % 5) E E kR E hrd (by rw [f3]; exact Ad p qD)) E ?_;refine F9 hs E (A0K E kR (hrd.mono qS) (hrw.lens bnT) qD hr0) E ?_;refine C8 hs E (E7 E) E ?_;refine C8 hs E (qf_ 7 7) E ?_;refine G1 E E E (D0 (Mc:=M49) (R:=_) (aS E (aS E (aS E (a0)))) kR qP (Cj qS (B6K pb (rcU m).2 ka (rcA m).1 va vg vq vo vm rs ro rm (rcY m (p % 5)) w1 w2 w3 w4 w5 M49 (J49++(MB++(MA++(J139++(J39++A))))) (hra _ qS qS) hP49 f7 qO qO (gw1.mono qS) (gw2.mono qS) (gw3.mono qS) (gw4.mono qS) (gw5.mono qS) gws gwo f8 ⟨by omega,by omega,by omega,by omega,by omega,f9.2.2.2.2.2⟩ (hG.sub qS))) E ?_);rintro v67 M67 J67 ⟨vi,vw,p_,r,u,xo,xt,xr,xk,xl,xq,rfl,hP67,hx⟩;change SeR _ (rcX m (p % 5)) vi vw p_ r u xo xt xr xk xl xq at hx;change Prm pb (rcD m (p % 5)) M67 at hP67;rw [show sX (rcA m).1 (rcY m (p % 5)) (rcU m).2=(rcX m (p % 5)) from rfl];haveI:=hx.id.cel;haveI:=hx.wi.cel;haveI:=hx.he.ia.cel;haveI:=hx.he.ig.cel;haveI:=hx.he.key.cel;haveI:=hx.r.own.cel;haveI:=hx.r.their.cel;haveI:=hx.r.root.cel;haveI:=hx.r.sk.cel;haveI:=hx.r.tk.cel;haveI:=hx.r.st.cel;unfold seC;refine fm_ hs ?_;refine C8 hs E (Y8 E) E ?_;refine C8 hs E (Y4 E) E ?_;refine C8 hs E (E0 (e:=50) (n:=2) (sz:=18) (i:=0) 7 E E kR kR E qD E) E ?_;refine G1 E E E (K9 (vs:=[vi,vw,p_,r,u,.int .u32 (((rcX m (p % 5)).he.signed:Nat):Int),.bool (rcX m (p % 5)).he.has,.int .u32 (((rcX m (p % 5)).he.once:Nat):Int),.bool (rcX m (p % 5)).tell,xo,xt,xr,xk,.int .u32 (((rcX m (p % 5)).r.sn:Nat):Int),xl,.int .u32 (((rcX m (p % 5)).r.tn:Nat):Int),.int .u32 (((rcX m (p % 5)).r.prev:Nat):Int),xq]) (cs':=((vP pb)::(vP ka)::(vP kb)::.int .i64 0::.int .i64 1::.int .i64 1::.int .i64 1::vi::vw::p_::r::u::.int .u32 (((rcX m (p % 5)).he.signed:Nat):Int)::.bool (rcX m (p % 5)).he.has::.int .u32 (((rcX m (p % 5)).he.once:Nat):Int)::.bool (rcX m (p % 5)).tell::xo::xt::xr::xk::.int .u32 (((rcX m (p % 5)).r.sn:Nat):Int)::xl::.int .u32 (((rcX m (p % 5)).r.tn:Nat):Int)::.int .u32 (((rcX m (p % 5)).r.prev:Nat):Int)::xq::vS::vS::vS::vS::vS::.int .u32 0::.bool false::.int .u32 0::.bool false::vS::vS::vS::vS::.int .u32 0::vS::.int .u32 0::.int .u32 0::.pointer none::.bool false::[])) E E E kR (by exact (show 7+18<=44 by decide)) (A5 hx.id.one (A5 hx.wi.one (A5 hx.he.ia.one (A5 hx.he.ig.one (A5 hx.he.key.one (A5 E (A5 E (A5 E (A5 E (A5 hx.r.own.one (A5 hx.r.their.one (A5 hx.r.root.one (A5 hx.r.sk.one (A5 E (A5 hx.r.tk.one (A5 E (A5 E (A5 hx.r.st.one I7)))))))))))))))))) E Cs ?_);refine fa_ hs ?_;refine E3 (D2 6 7) (A1 (mv_ (mv_ ?_)));refine A2 (F5 true E E (eqT E)) E ?_;refine A2 (E7 E) E ?_;refine A2 (qf_ 43 43) E ?_;refine A3 E (E4 E E E kR Cq Cs ?_);refine A0 (D5 7) (A1 (mv_ (as_ (A0 (D5 4) (C0 ?_)))))
 exact ⟨_,(b25,blk ((vP pb)::(vP ka)::(vP kb)::.int .i64 0::.int .i64 1::.int .i64 1::.int .i64 1::vi::vw::p_::r::u::.int .u32 (((rcX m (p % 5)).he.signed:Nat):Int)::.bool (rcX m (p % 5)).he.has::.int .u32 (((rcX m (p % 5)).he.once:Nat):Int)::.bool (rcX m (p % 5)).tell::xo::xt::xr::xk::.int .u32 (((rcX m (p % 5)).r.sn:Nat):Int)::xl::.int .u32 (((rcX m (p % 5)).r.tn:Nat):Int)::.int .u32 (((rcX m (p % 5)).r.prev:Nat):Int)::xq::vS::vS::vS::vS::vS::.int .u32 0::.bool false::.int .u32 0::.bool false::vS::vS::vS::vS::.int .u32 0::vS::.int .u32 0::.int .u32 0::.pointer none::.bool true::[]) 59)::M67,[],I0 E E,Cg (Ch (B:=[_]) qP (Cf qP)),b25,pb,ka,kb,E,⟨vi,vw,p_,r,u,xo,xt,xr,xk,xl,xq,M67,E,hx.mono qS,hP67⟩,⟨va,vg,vq,vo,vm,rs,ro,rm,hra _ qS qS⟩,ua,ug,uq,uo,um,ss,so,sm,hrb _ qS qS⟩

end Go.Proofs.YtjkpfgjfpbihaaaGreatDoor
namespace Go.Px
theorem St.frzInto{C:Cx}{w:World}:∀ (M J:Mem),St C M J w->∃ J2,(∀ x,x∈M++J->x∈J2)∧St C [] J2 w
  | [],J,h=>⟨J,λ x hx=>hx,h⟩
  | y::M,J,h=>by
    obtain ⟨J2,h1,h2⟩:=St.frzInto M (y::J) h.freeze;refine ⟨J2,λ x hx=>h1 x ?_,h2⟩;simp only [List.cons_append,List.mem_cons,List.mem_append] at hx ⊢;rcases hx with hx | hx | hx
    . exact .inr (.inl hx)
    . exact .inl hx
    . exact .inr (.inr hx)
theorem OpL.frzAll{C:Cx}{o:Oper}{l:Env}{M J:Mem}{K:Env->Mem->Mem->Prop}(h:OpL C o l M J λ l' M' J'=>∀ J2,(∀ x,x∈M'++J'->x∈J2)->K l' [] J2):OpL C o l M J K:=λ Qp a w ha hw =>
  Oper.wp_mono (λ a' w' ⟨l',M',J',h1,h2,h3⟩=>by
    obtain ⟨J2,g1,g2⟩:=St.frzInto M' J' h2
    exact ⟨l',[],J2,h1,g2,h3 J2 g1⟩) (h Qp a w ha hw)
end Go.Px

