/- The card of the law AgreeGoes: it returns true for every input; each argument reads behind the call as it read before; the listed package variables are tied to the program's text. No further condition. -/
import Derived.Test.YthbhpfefdnffaaaGreatDoorB19
import Derived.Lib.LaidTab
import Derived.Stop.LaidErr
import Derived.MakeChecks
import Derived.Test.YthbhpfefdnffaaaGreatDoorCards
import Derived.Test.YthbhpfefdnffaaaGreatDoorTie
import Derived.Deep.DeepHandedRow
import Derived.Deep.DeepWitnessRowRef
import Derived.Lay
import Derived.LaidMore
set_option linter.unusedVariables false
set_option linter.unusedSimpArgs false
set_option maxRecDepth 100000
namespace Go.Proofs.YthbhpfefdnffaaaGreatDoor
open Go.Px
def sdA : List Nat := [97, 103, 114, 101, 101]
noncomputable def keyA (i : Nat) : List Nat := A1D (A1D [] sdA) (([107, 101, 121] ++ B3c i) ++ [1])
def tabA : List (Nat × Nat × Nat) := [(1, 56722311458232289444196767794320634234435979443916237146261142897005524588059, 18604504845630933696578929165391706614587660968349122345232695995604200600286), (8, 73225103137493260016673490345147484683891729122439976747753874440939068852373, 56971221283058880868664871319779091216898354412400481136237592932457769930677), (10, 115293218532529378827916250761532590476792242174949885352625456389103768704591, 51751602291729706956845583875837815115092016562555736050949961279202307548967), (11, 76761489642389892954777366007343235379422772616754323149087340322539488178839, 48147685611634092866982342842054235619488526660518053080586528919582192059053), (12, 29472437034682436986451586228267745964860528531455759154477957459076614928862, 54737045156992024094622853451422198075637536356144102658426857480557927175986), (13, 46770917818140737638682400233945784757991979659151426204677533817332989598273, 31399170323323291119175755079760078507620100661338027812705919354776962170720), (14, 115741422183009787238364909492970274665844619994899721161794685940931238109629, 19287779464644006170591719397038607713897824275427765842443456045570874266403), (15, 17640984890409245988036262756745853969857007960838437220795181880810095152906, 38748618576221799329345267297762138061535840633903841880451214950358937255910), (16, 15363714764261551297916475217064871201192038788617657590087469398075103860816, 44229856883042295849009422961831972629096587084214752572476883949409838906879), (17, 77881824254768964280169149206301195321014904464426864370560485982019469631666, 45117214538519511045877422887806090061678428886723981591737139238557738486152), (18, 38325721016791334288617549234923961528312048316323001789189367465456812708137, 37050185130057238316115734401519276520356870923024167658775245576878988816724), (19, 39744653679345544188785324210731071709877702520900036459588884012328342800017, 37243385556540296028579363437349009555608084005176758655358309799638389944120), (20, 101582826945529394574252429928121696265559105270720410083205164171994529187160, 6192040477177201051678558193156281784100737791330044209506117399192985833202), (21, 48889610994267262634379468326262604790418705278942539636859896278207429987833, 41894602930745253161787258797180228037594401197473591232155640740139166787041), (22, 53966244732401377240361229775376548111193644799463803960162962246429958271868, 285327023672764135998718976678330425396261889435975701331368211637741431116)]
def tabX : List ((Nat × Nat) × Nat) := [((1, 10), 22129505577081986445497652078088881068068467984419031591611772444125268885060), ((15, 8), 56217226795182780192928115245663432130353097157661931063098097215843973028542), ((15, 10), 15975679222785200221263729086527118723398536420247193622488371327602605575242), ((15, 11), 10167401098688060825038807086114117277524867915452127471911190248736445175830), ((15, 12), 13912086762350253140775586441023007109812338222087726489607903761099018318565), ((15, 13), 36960290741124525289611799982713978432662233248126462921857067736862054391409), ((15, 14), 40777321945749747076610488949377663642294492913436683368533553355633767177317), ((16, 8), 42683190940001936647975608151003296491180103744128336413016402182890834489742), ((16, 10), 27373210145593413787901891243882821656163730098821450031188647354310006619502), ((16, 11), 22699058059544731630085102129252567086567115419666269422292913092648426515880), ((16, 12), 18995831065048608945888522500219380634938233639928812284175539421934801063880), ((16, 13), 14746566351115783084233580851106200802208930664617133996458162554408497066499), ((16, 14), 34375069081644338970864143696454038617776240520136099314876929973568181057171), ((17, 8), 11223402392833070292460084976350042866867467277544717611728496519878888259414), ((17, 10), 31953553816843935386847315910879862846241907908311169139009695099395989236080), ((17, 11), 56829488678091583101838842885195590961713549475761898692317716881602627766306), ((17, 12), 55321721456903639646025041297423141366129261931443971829361096157513766156228), ((17, 13), 20595970549420527343730909770558384642205336866371553724561723276529936938751), ((17, 14), 48289826730569343079222755354830675092883146911079575006062206785525903134761), ((18, 1), 51028519937530348799347610714490038027804371484256623696033849551790883515169), ((10, 1), 22129505577081986445497652078088881068068467984419031591611772444125268885060), ((16, 15), 57146549245091826934792598200782714548530410986309783810426994079497668330923), ((18, 15), 55604432393778260409247109732302689171455710309298985168003552263636682197001), ((19, 15), 27426919388232014371701738444046061391309632700302369487421560607213281930573), ((20, 15), 36714765713218354673983985989900390389483816354394515660084017802773339661640), ((21, 15), 2248562519341071712786061973629416739645734348748333385834888973287899809126), ((22, 15), 50706720525616759608259597374959922958924669406583398555584548094923007700290), ((8, 16), 42683190940001936647975608151003296491180103744128336413016402182890834489742), ((10, 16), 27373210145593413787901891243882821656163730098821450031188647354310006619502), ((11, 16), 22699058059544731630085102129252567086567115419666269422292913092648426515880), ((12, 16), 18995831065048608945888522500219380634938233639928812284175539421934801063880), ((13, 16), 14746566351115783084233580851106200802208930664617133996458162554408497066499), ((14, 16), 34375069081644338970864143696454038617776240520136099314876929973568181057171), ((8, 15), 56217226795182780192928115245663432130353097157661931063098097215843973028542), ((10, 15), 15975679222785200221263729086527118723398536420247193622488371327602605575242), ((11, 15), 10167401098688060825038807086114117277524867915452127471911190248736445175830), ((12, 15), 13912086762350253140775586441023007109812338222087726489607903761099018318565), ((13, 15), 36960290741124525289611799982713978432662233248126462921857067736862054391409), ((14, 15), 40777321945749747076610488949377663642294492913436683368533553355633767177317)]
def kyA (i : Nat) : Nat × Nat := (tabA.lookup i).getD (0, 0)
def xA (a b : Nat) : Nat := (tabX.lookup (a, b)).getD 0
noncomputable def okK (x : Nat × Nat × Nat) : Bool := decide (keyA x.1 = T6 x.2.1 32) && dhF (T6 x.2.1 32) 9 x.2.2
noncomputable def okX (x : (Nat × Nat) × Nat) : Bool := dhF (T6 (kyA x.1.1).1 32) (kyA x.1.2).2 x.2
theorem B7T : tabA.all okK = true := by decide +kernel
theorem B7U : tabX.all okX = true := by decide +kernel
theorem A5D {α β : Type} [BEq α] [LawfulBEq α] {a : α} {v : β} : ∀ {l : List (α × β)}, l.lookup a = some v → (a, v) ∈ l
  | [], h => by cases h
  | (b, w) :: l, h => by
    rw [List.lookup_cons] at h
    split at h
    · rename_i e
      rw [eq_of_beq e]
      cases h
      exact List.mem_cons_self
    · exact List.mem_cons_of_mem _ (A5D h)
noncomputable def pbA (i : Nat) : List Nat := W3 (Q4 (A0M sdA i) 32)
def inA (q : Nat × Nat) : Bool := (tabX.lookup q).isSome && ((tabA.lookup q.1).isSome && (tabA.lookup q.2).isSome)
theorem B2h {i : Nat} (h : (tabA.lookup i).isSome = true) : A0M sdA i = T6 (kyA i).1 32 ∧ pbA i = T6 (kyA i).2 32 ∧ rdN (Q4 (pbA i) 32) = (kyA i).2 := by
  obtain ⟨⟨k, B⟩, hk⟩ := Option.isSome_iff_exists.1 h
  have h1 := List.all_eq_true.1 B7T _ (A5D hk)
  unfold okK at h1
  rw [Bool.and_eq_true] at h1
  have h2 : A0M sdA i = T6 k 32 := by rw [B7G]; exact of_decide_eq_true h1.1
  have e : kyA i = (k, B) := by unfold kyA; rw [hk]; rfl
  have e2 : ∀ x, Q4 (T6 x 32) 32 = T6 x 32 := fun x => by unfold Q4; rw [List.take_of_length_le (by rw [K6]; decide), K6]; simp
  obtain ⟨h3, h4⟩ := B5L h1.2
  have h5 : pbA i = T6 B 32 := by unfold pbA W3; rw [h2, e2]; exact h3 _ (by decide +kernel)
  rw [e, h5, e2]
  exact ⟨h2, rfl, h4⟩
theorem C0Y {q : Nat × Nat} (h : inA q = true) : x25 (Q4 (A0M sdA q.1) 32) (Q4 (pbA q.2) 32) = T6 (xA q.1 q.2) 32 := by
  unfold inA at h
  rw [Bool.and_eq_true, Bool.and_eq_true] at h
  obtain ⟨h0, h1, h2⟩ := h
  obtain ⟨v, hv⟩ := Option.isSome_iff_exists.1 h0
  have h3 := List.all_eq_true.1 B7U _ (A5D hv)
  have e : xA q.1 q.2 = v := by unfold xA; rw [hv]; rfl
  have e2 : ∀ x, Q4 (T6 x 32) 32 = T6 x 32 := fun x => by unfold Q4; rw [List.take_of_length_le (by rw [K6]; decide), K6]; simp
  obtain ⟨k1, -, -⟩ := B2h h1
  obtain ⟨-, -, k3⟩ := B2h h2
  rw [k1, e2, e]
  exact (B5L h3).1 _ k3
noncomputable def seA (l : List (Nat × Nat)) : List Nat := A1D (A1D (Q4 z32 32) (A6N (l.map fun q => T6 (xA q.1 q.2) 32))) (A0g ++ [1])
theorem B4B {s : Ps} (hr : s.real = true) (l : List (Nat × Nat)) : seK s (l.map fun q => T6 (xA q.1 q.2) 32) = seA l := by
  unfold seK A8i seA
  rw [if_pos hr]
  have e : B2l z32 (l.map fun q => T6 (xA q.1 q.2) 32) A0g 1 = A1D (A1D (Q4 z32 32) (A6N (l.map fun q => T6 (xA q.1 q.2) 32))) (A0g ++ [1]) := by
    unfold B2l
    rw [← A2Y]
    exact A8F _ _
  rw [e]
  have hl : (A1D (A1D (Q4 z32 32) (A6N (l.map fun q => T6 (xA q.1 q.2) 32))) (A0g ++ [1])).length = 32 := by rw [A2Y]; exact A06 _
  generalize A1D (A1D (Q4 z32 32) (A6N (l.map fun q => T6 (xA q.1 q.2) 32))) (A0g ++ [1]) = w at *
  show (w.take 32).drop 0 = w
  rw [List.drop_zero, List.take_of_length_le (by omega)]
theorem A80 : ∀ (l : List (Nat × Nat)) {s : Ps}, s.real = true → (∀ q ∈ l, inA q = true) → agK s (l.map fun q => (A0M sdA q.1, pbA q.2)) = l.map (fun q => T6 (xA q.1 q.2) 32) ∧ (agS s (l.map fun q => (A0M sdA q.1, pbA q.2))).real = true
  | [], s, h, _ => ⟨rfl, h⟩
  | q :: l, s, h, hq => by
    have h1 : (L5 s (A0M sdA q.1) (pbA q.2)).real = true := (B1N s _ _).p.real.trans h
    obtain ⟨i1, i2⟩ := A80 l h1 fun z hz => hq z (by simp [hz])
    refine ⟨?_, i2⟩
    show A2n s _ _ :: agK (L5 s _ _) _ = _
    rw [i1, List.map_cons]
    congr 1
    unfold A2n
    rw [if_pos h]
    exact C0Y (hq q (by simp))
theorem B7V {k : Ks} {y : Bn} {s : Ps} {o : Nat} (hr : s.real = true) (hs : s.seed = sdA) (h1 : k.agree = A0M sdA 1) (h2 : y.key = pbA 10) (h3 : y.ia = pbA 8) (h4 : y.has = true → y.oncek = pbA o) (hi : ∀ q ∈ (1, 10) :: (s.n + 1, 8) :: (s.n + 1, 10) :: (if y.has then [(s.n + 1, o)] else []), inA q = true) :
    stK k y s = seA ((1, 10) :: (s.n + 1, 8) :: (s.n + 1, 10) :: if y.has then [(s.n + 1, o)] else []) := by
  have e : stP k.agree (E1 s) y = ((1, 10) :: (s.n + 1, 8) :: (s.n + 1, 10) :: if y.has then [(s.n + 1, o)] else []).map fun q => (A0M sdA q.1, pbA q.2) := by
    unfold stP
    rw [h1, h2, h3, A1Z hr, hs]
    cases hh : y.has with
    | false => rfl
    | true => rw [h4 hh]; rfl
  have hf : (D3 s).real = true := (V5 s).p.real.trans hr
  obtain ⟨g1, g2⟩ := A80 _ hf hi
  rw [← e] at g1 g2
  have hI : (stI k y s).real = true := by
    unfold stI
    rw [(U2 _ _).p.real]
    unfold idS
    rw [(U2 _ _).p.real, (U2 _ _).p.real]
    exact g2
  show seK (stI k y s) (agK (D3 s) (stP k.agree (E1 s) y)) = _
  rw [g1]
  exact B4B hI _
def RA (n : Nat) : Ps := ⟨true, sdA, n, []⟩
theorem rFS (n : Nat) : D3 (RA n) = RA (n + 1) := rfl
theorem rFK (n : Nat) : E1 (RA n) = A0M sdA (n + 1) := A1Z rfl
theorem rPS (n : Nat) (w : List Nat) : I0 (RA n) w = RA n := rfl
theorem rPK (n : Nat) (w : List Nat) : L8 (RA n) w = W3 (Q4 w 32) := if_pos rfl
structure NwR (n : Nat) (k : Ks) : Prop where
  agree : k.agree = A0M sdA (n + 1)
  sg : ∃ g, k.signed = [⟨1, A0M sdA (n + 3), g⟩]
  once : k.once = [⟨2, A0M sdA (n + 4), []⟩, ⟨3, A0M sdA (n + 5), []⟩, ⟨4, A0M sdA (n + 6), []⟩, ⟨5, A0M sdA (n + 7), []⟩]
theorem A81 (u d : Int) (n : Nat) : NwR n (A4E u d (RA n)).1 ∧ (A4E u d (RA n)).2 = RA (n + 7) := by
  have e : (T5 (k0N u d (RA n)) (D3 (D3 (RA n)))).2 = RA (n + 3) := rfl
  have e0 : (T5 (k0N u d (RA n)) (D3 (D3 (RA n)))).1.agree = A0M sdA (n + 1) := rFK n
  have e1 : (T5 (k0N u d (RA n)) (D3 (D3 (RA n)))).1.signed = [turnP (k0N u d (RA n)) (RA (n + 2))] := rfl
  have e2 : (turnP (k0N u d (RA n)) (RA (n + 2))).sec = A0M sdA (n + 3) := rFK (n + 2)
  have e3 : (T5 (k0N u d (RA n)) (D3 (D3 (RA n)))).1.once = [] := rfl
  have e4 : (T5 (k0N u d (RA n)) (D3 (D3 (RA n)))).1.next = 2 := rfl
  have e5 : turnP (k0N u d (RA n)) (RA (n + 2)) = ⟨1, (turnP (k0N u d (RA n)) (RA (n + 2))).sec, (turnP (k0N u d (RA n)) (RA (n + 2))).sig⟩ := rfl
  unfold A4E A1G
  rw [e, e3]
  generalize (T5 (k0N u d (RA n)) (D3 (D3 (RA n)))).1 = k at *
  show NwR n (fillI k (RA (n + 3)) 4).1 ∧ (fillI k (RA (n + 3)) 4).2 = _
  simp only [fillI, rFS, rFK, e3, e4, List.nil_append, List.cons_append]
  exact ⟨⟨e0, ⟨_, by rw [e1, e5, e2]⟩, rfl⟩, trivial⟩
theorem B4C {k : Ks} {n s0 : Nat} (h : NwR n k) : (L0 k (RA s0)).2 = RA s0 ∧ ∀ j < 5, ∀ y, (L0 k (RA s0)).1[j]? = some y → y.key = pbA (n + 3) ∧ y.ia = pbA (n + 1) ∧ y.has = Nat.blt 0 j ∧ (y.has = true → y.oncek = pbA (n + 3 + j)) ∧ y.signed = 1 ∧ (y.has = true → y.once = j + 1) := by
  obtain ⟨h1, ⟨g, h2⟩, h3⟩ := h
  have e : L0 k (RA s0) = A0v (A5z k ⟨1, A0M sdA (n + 3), g⟩ (RA s0)) k.once (I0 (idS k (RA s0)) (A0M sdA (n + 3))) k.once.length := by unfold L0; rw [h2]
  have e1 : (A5z k ⟨1, A0M sdA (n + 3), g⟩ (RA s0)).key = pbA (n + 3) := rPK s0 _
  have e2 : (A5z k ⟨1, A0M sdA (n + 3), g⟩ (RA s0)).ia = pbA (n + 1) := by show L8 (RA s0) k.agree = _; rw [h1]; exact rPK s0 _
  have e3 : (A5z k ⟨1, A0M sdA (n + 3), g⟩ (RA s0)).has = false := rfl
  have e4 : (A5z k ⟨1, A0M sdA (n + 3), g⟩ (RA s0)).signed = 1 := rfl
  rw [e, h3, show I0 (idS k (RA s0)) (A0M sdA (n + 3)) = RA s0 from rfl]
  generalize A5z k ⟨1, A0M sdA (n + 3), g⟩ (RA s0) = b at *
  show (A0v b _ (RA s0) 4).2 = _ ∧ ∀ j < 5, ∀ y, (A0v b _ (RA s0) 4).1[j]? = some y → _
  simp only [A0v, List.getElem?_cons_zero, List.getElem?_cons_succ, rPS, rPK, List.cons_append, List.nil_append]
  refine ⟨trivial, fun j hj y hy => ?_⟩
  match j, hj with
  | 0, _ => cases hy; exact ⟨e1, e2, e3, fun h => (by rw [e3] at h; cases h), e4, fun h => (by rw [e3] at h; cases h)⟩
  | 1, _ => cases hy; exact ⟨e1, e2, rfl, fun _ => rfl, e4, fun _ => rfl⟩
  | 2, _ => cases hy; exact ⟨e1, e2, rfl, fun _ => rfl, e4, fun _ => rfl⟩
  | 3, _ => cases hy; exact ⟨e1, e2, rfl, fun _ => rfl, e4, fun _ => rfl⟩
  | 4, _ => cases hy; exact ⟨e1, e2, rfl, fun _ => rfl, e4, fun _ => rfl⟩
  | j + 5, h => omega
theorem B2i : NwR 0 (oA 0).1 ∧ (oA 0).2 = RA 7 := A81 0 1 0
theorem A5E : NwR 7 (oB 0).1 ∧ (oB 0).2 = RA 14 := by
  unfold oB
  rw [B2i.2]
  exact A81 1 1 7
theorem B2j : (L0 (oB 0).1 (oB 0).2).2 = RA 14 ∧ ∀ j < 5, ∀ y, (L0 (oB 0).1 (oB 0).2).1[j]? = some y → y.key = pbA 10 ∧ y.ia = pbA 8 ∧ y.has = Nat.blt 0 j ∧ (y.has = true → y.oncek = pbA (10 + j)) ∧ y.signed = 1 ∧ (y.has = true → y.once = j + 1) := by
  rw [A5E.2]
  exact B4C A5E.1

noncomputable def A7M (m j : Nat) : Bn := (L0 (oB m).1 (oB m).2).1.getD j ⟨0, 0, [], [], 0, [], [], false, 0, []⟩
noncomputable def goS (m : Nat) (tn : Bool) : Ps := if tn then (T5 (oB m).1 (L0 (oB m).1 (oB m).2).2).2 else (L0 (oB m).1 (oB m).2).2
theorem B5M (m : Nat) : oA m = oA (m % 2) := by unfold oA ag0; rw [Nat.mod_mod]
theorem B5N (m : Nat) : oB m = oB (m % 2) := by unfold oB; rw [B5M m]
theorem B7W (m j : Nat) : A7M m j = A7M (m % 2) j := by unfold A7M; rw [B5N m]
theorem B7X (m : Nat) (tn : Bool) : goS m tn = goS (m % 2) tn := by unfold goS; rw [B5N m]
theorem C0Z (tn : Bool) : goS 0 tn = RA (bif tn then 15 else 14) := by
  unfold goS
  rw [B2j.1]
  cases tn <;> rfl
def lsA (e j : Nat) : List (Nat × Nat) := (1, 10) :: (e, 8) :: (e, 10) :: if Nat.blt 0 j then [(e, 10 + j)] else []
theorem B9L : ((List.range 5).all fun j => [15, 16, 17].all fun e => (lsA e j).all inA) = true := by decide +kernel
theorem B9M : ((List.range 5).all fun j => !decide (seA (lsA 15 j) = seA (lsA 16 j)) && !decide (seA (lsA 16 j) = seA (lsA 17 j))) = true := by decide +kernel
theorem B9N {j : Nat} (hj : j < 5) : (L0 (oB 0).1 (oB 0).2).1[j]? = some (A7M 0 j) := by
  obtain ⟨g, hg⟩ := A5E.1.sg
  have h := (A1f (s := (oB 0).2) hg).1
  rw [A5E.1.once] at h
  unfold A7M
  rw [List.getD_eq_getElem?_getD, List.getElem?_eq_getElem (by rw [h]; exact hj)]
  rfl
theorem A82 {j : Nat} {s : Ps} (hj : j < 5) (hr : s.real = true) (hs : s.seed = sdA) (hn : s.n + 1 ∈ [15, 16, 17]) : stK (oA 0).1 (A7M 0 j) s = seA (lsA (s.n + 1) j) := by
  obtain ⟨h1, h2, h3, h4, -, -⟩ := B2j.2 j hj _ (B9N hj)
  have hi := List.all_eq_true.1 (List.all_eq_true.1 (List.all_eq_true.1 B9L j (List.mem_range.2 hj)) _ hn)
  unfold lsA at hi ⊢
  rw [← h3] at hi ⊢
  exact B7V hr hs B2i.1.agree h1 h2 h4 hi
theorem B9O : ((List.range 5).all fun j => [false, true].all fun tn => !decide (stK (oA 1).1 (A7M 1 j) (goS 1 tn) = stK (oA 1).1 (A7M 1 j) (stS (oA 1).1 (A7M 1 j) (goS 1 tn)))) = true := by decide +kernel
theorem B7Y (m : Nat) {j : Nat} (tn : Bool) {y : Bn} (hj : j < 5) (hy : (L0 (oB m).1 (oB m).2).1[j]? = some y) : stK (oA m).1 y (goS m tn) ≠ stK (oA m).1 y (stS (oA m).1 y (goS m tn)) := by
  have e : y = A7M m j := by unfold A7M; rw [List.getD_eq_getElem?_getD, hy]; rfl
  rw [e, B7W, B7X, B5M]
  have hm := Nat.mod_lt m (by decide : 0 < 2)
  generalize m % 2 = q at *
  match q, hm with
  | 1, _ =>
    have := List.all_eq_true.1 (List.all_eq_true.1 B9O j (List.mem_range.2 hj)) tn (by cases tn <;> simp)
    simpa using this
  | 0, _ =>
    have g0 := C0Z tn
    have g1 : (goS 0 tn).real = true := by rw [g0]; rfl
    have g2 : (goS 0 tn).seed = sdA := by rw [g0]; rfl
    have g3 : (goS 0 tn).n = bif tn then 15 else 14 := by rw [g0]; rfl
    have g4 := (A1I (oA 0).1 (A7M 0 j) (goS 0 tn)).2.2.2.1
    have ex : (stS (oA 0).1 (A7M 0 j) (goS 0 tn)).real = true ∧ (stS (oA 0).1 (A7M 0 j) (goS 0 tn)).seed = sdA := by
      unfold stS seS stI idS stA
      rw [(A0Y _ _ _ _ _).1, (A0Y _ _ _ _ _).2.2]
      have a1 := V5 (goS 0 tn)
      have a2 := A8V (stP (oA 0).1.agree (E1 (goS 0 tn)) (A7M 0 j)) (D3 (goS 0 tn))
      rw [(U2 _ _).p.real, (U2 _ _).p.real, (U2 _ _).p.real, (U2 _ _).seed, (U2 _ _).seed, (U2 _ _).seed, a2.p.real, a2.seed, a1.p.real, a1.seed]
      exact ⟨g1, g2⟩
    have hne := List.all_eq_true.1 B9M j (List.mem_range.2 hj)
    rw [Bool.and_eq_true] at hne
    cases tn
    · have g5 : (goS 0 false).n = 14 := g3
      rw [A82 hj g1 g2 (by rw [g5]; decide), A82 hj ex.1 ex.2 (by rw [g4, g5]; decide), g4, g5]
      simpa using hne.1
    · have g5 : (goS 0 true).n = 15 := g3
      rw [A82 hj g1 g2 (by rw [g5]; decide), A82 hj ex.1 ex.2 (by rw [g4, g5]; decide), g4, g5]
      simpa using hne.2
  | q + 2, h => omega

theorem A7N (m p0 : Nat) (tn : Bool) (A : Mem) (hm : m < 256) (hp : p0 < 256) (hG : Glb A) : FnV Tryz.prog 6 [.int .u8 ((m : Nat) : Int), .int .u8 ((p0 : Nat) : Int), .bool tn] A (.bool true) := by
 refine FnX.enter (N := 175) Tryz.func6 rfl rfl rfl fun w_ => ?_
 refine C4 (E0 0 1 2) (A3 (as_ (A0 (E0 0 1 2) (A5 (A3 ?_)))))
 refine F6 a0 kR (B2e _ hG.up) rfl ?_
 refine A4 (A0i rfl) rfl ?_
 refine A0 (E7 0 1 2 20) ?_
 refine D5 rfl ?_
 refine A9 (nx (E0 0 1 2) (A3 (mv_ ?_)))
 refine C9 (aS rfl a0) kR (A8Z m _ hm hG.up) rfl ?_
 rintro v22 M22 J22 ⟨tb, pb, ka, kb, MA, MB, MP, rfl, rfl, hKa, hKb, hP⟩
 have hGo := fun (y : Bn) (hy : (L0 (oB m).1 (oB m).2).1[p0 % 5]? = some y) => B7Y m tn (y := y) (Nat.mod_lt p0 (by decide)) hy
 unfold goS at hGo
 have hF := A8Y (m)
 generalize (oA (m)).1 = ak at *
 generalize (oB (m)).1 = bk at *
 generalize (oB (m)).2 = s at *
 obtain ⟨x, hsg, hxn, hxl⟩ := hF.sg
 have hol := B5G bk
 rw [hF.on] at hol
 change 4 = _ at hol
 have hts := hF.ts
 have hsn := hF.n
 have hrise : B4l bk.once := B1Y (by rw [show bk.once.map (·.n) = onN bk from rfl, hF.on]; decide)
 refine as_ (A0 (E0 1 2 7) ?_)
 refine Z8 (B := [(tb, blk [.pointer (some ⟨pb, 0, none⟩), .pointer (some ⟨ka, 0, none⟩), .pointer (some ⟨kb, 0, none⟩)] 37)]) PickC.perm ?_
 refine Z8 (B := MA) PickC.perm ?_
 obtain ⟨va, vg, vq, vo, vm, rs, ro, rm, hra⟩ := hKa.r
 obtain ⟨ua, ug, uq, uo, um, ss, so, sm, hrb⟩ := hKb.r
 have hla := (hra _ (fun _ h => List.mem_append_left MA h) (fun _ h => List.mem_append_right _ h)).lt
 have hlb := (hrb _ (fun _ h => List.mem_append_left MB h) (fun _ h => List.mem_append_right _ h)).lt
 obtain ⟨hbl, -, -, hbt⟩ := A1f (s := s) hsg
 rw [← hol] at hbl
 obtain ⟨y, xo, hy, -, -, y3, y4, y5, y6, y7, y8, y9, y10⟩ := B2d (s := s) hsg (j := p0 % 5) (by rw [← hol]; exact Nat.mod_lt _ (by decide))
 obtain ⟨hb1, hb2, -⟩ := hF.bb.bundles hsg (by omega) (by omega)
 have hbn : (L0 bk s).2.n = s.n := B5J
 have ha2 := hF.ba.ext hb2 hb1.tok hb1.ar
 obtain ⟨hck, hag, hbi, hex, -, hpx⟩ := A2b hF.bb hsg (by omega) (by omega) (Pext.refl _) ha2 hla hlb (by omega) (by omega) y3 y4 y5 y6 y7 y8 y9
 have hst := A1I ak y (L0 bk s).2
 have hans := hag.ans (kb := bk) hbi.tok (by omega) (by rw [hsg]; show A1q [x] (stH ak y (L0 bk s).2).signed = _; rw [show (stH ak y (L0 bk s).2).signed = x.n from y5]; exact A3S) y8 (fun hh => by
  change y.has = true at hh
  rw [y8] at hh
  obtain ⟨o, rfl⟩ := Option.isSome_iff_exists.1 hh
  obtain ⟨q, q0, q1, q2, q3, -⟩ := y9 o rfl
  rw [show (stH ak y (L0 bk s).2).once = y.once from if_pos (y8.trans rfl), q3, q2]
  exact A7I hrise q1)
 have hKl := (A3T (stI ak y (L0 bk s).2) (stL ak.agree y (L0 bk s).2)).2
 change (stK ak y (L0 bk s).2).length = 32 at hKl
 have h2k := hex.n
 clear hck hag hbi hex hst hans hKl h2k hpx
 refine G9 (MB ++ MP) (_) true (.range 15) [(0, 0), (1, 0), (2, 0), (3, 1), (4, 0), (5, 0), (6, 0), (7, 1), (9, 0), (10, 0), (11, 0), (8, 3), (12, 3), (13, 3), (14, 4), (15, 2)] kR kR PickC.perm fun hs K n0 hKm hKs hKn => ?_
 refine km_ hs ?_
 refine H6 hs rfl (F4 rfl) rfl ?_
 refine H6 hs rfl (qf_ 2 2) rfl ?_
 refine P4 hs rfl hKs ql_ ?_
 refine km_ hs ?_
 refine H6 hs rfl (F4 rfl) rfl ?_
 refine H6 hs rfl (qf_ 0 0) rfl ?_
 refine P4 hs rfl hKs ql_ ?_
 refine km_ hs ?_
 refine H6 hs rfl (A2t (k' := .i64) rfl kR (by show _ < 9223372036854775808; omega)) rfl ?_
 refine H6 hs rfl (A1X (a := p0) (b := 5) rfl rfl rfl rfl (by decide)) rfl ?_
 refine A0s [⟨8, 31, none, MB ++ MP, fun v B R => ∃ MP2, B = MB ++ MP2 ∧ Prm pb (L0 bk s).2 MP2 ∧ ∃ rows, Rd R 10 v (L0 bk s).1.length rows.flatten ∧ RwL bnR R rows (L0 bk s).1⟩, ⟨12, 35, none, [], fun v B R => B = [] ∧ ∃ u rows, v = vAt 10 (p0 % 5) u ∧ Rd R 10 u (L0 bk s).1.length rows.flatten ∧ RwL bnR R rows (L0 bk s).1⟩, ⟨13, 36, none, [], fun v B R => B = [] ∧ ∃ r, v = .agg r.toArray ∧ bnR R y r⟩, ⟨14, 8, none, [], fun v B _ => ∃ b, v = .pointer (some ⟨b, 0, none⟩) ∧ B = [(b, blk [.int .i64 0, .int .i64 0, .slice none 0 0, .slice none 0 0, .int .u32 0, .slice none 0 0, .slice none 0 0, .bool false, .int .u32 0, .slice none 0 0] 32)]⟩] (_) (fun bs => [bs 8, bs 12, bs 13, bs 14]) (hKn rfl) (List.Perm.refl _) (show ∀ m ∈ ([MB ++ MP, [], [], []] : List Mem), ∀ x ∈ m, K x.1 from C0 (hKm) (C0 (fun _ h => by cases h) (C0 (fun _ h => by cases h) (C0 (fun _ h => by cases h) (I3))))) kR (fun _ => by first | rfl | kernel_rfl)
  (C0 (fun _ _ _ _ h hp => by obtain ⟨MP2, e, p1, rows, p2, p3⟩ := hp; exact ⟨MP2, e, p1, rows, p2.mono h, p3.mono bnT h⟩) (C0 (fun _ _ _ _ h hp => by obtain ⟨e, u, rows, e2, p2, p3⟩ := hp; exact ⟨e, u, rows, e2, p2.mono h, p3.mono bnT h⟩) (C0 (fun _ _ _ _ h hp => by obtain ⟨e, r, e2, p2⟩ := hp; exact ⟨e, r, e2, bnT.mono _ _ _ _ h p2⟩) (C0 (fun _ _ _ _ _ h => h) (I3))))) (show List.Nodup [31, 35, 36, 8] by decide) (show List.Nodup [8, 12, 13, 14] by decide) (C0 (C6 rfl) (C0 (C6 rfl) (C0 (C6 rfl) (C0 (C6 rfl) (I3)))))
  (C0 ⟨_, rfl, fun vs bs R Rj wG hb hj hjr ha => ⟨.inl rfl, ?_⟩⟩ (C0 ⟨_, rfl, fun vs bs R Rj wG hb hj hjr ha => ⟨.inl rfl, ?_⟩⟩ (C0 ⟨_, rfl, fun vs bs R Rj wG hb hj hjr ha => ⟨.inl rfl, ?_⟩⟩ (C0 ⟨_, rfl, fun vs bs R Rj wG hb hj hjr ha => ⟨.inl rfl, ?_⟩⟩ (I3))))) ?_
 ·
  dsimp only [Gc.inp]
  refine D9 (Mc := MB ++ MP) (R := []) (aS rfl (aS rfl (a0))) kR (by simp) (FnX.amb (A := Rj) (fun x hx => by have := hjr x hx; simp [this]) (B2f pb kb s bk x [] MB MP Rj (hKb.mono (fun x hx => hj x (SubC.sub x hx))) hsg hP (by omega) (by omega) (hG.sub (fun x hx => hj x (SubC.sub x hx))))) rfl ?_
  rintro v25 M25 J25 ⟨MP2, rfl, hP2, rows, k1, k2⟩
  exact ⟨_, rfl, MP2, by simp, hP2, rows, k1.mono SubC.sub, k2.mono bnT SubC.sub⟩
 ·
  dsimp only [Gc.inp]
  have g8 := ha _ (List.mem_of_getElem? (i := 0) rfl) kR
  replace g8 : (fun v B R => ∃ MP2, B = MB ++ MP2 ∧ Prm pb (L0 bk s).2 MP2 ∧ ∃ rows, Rd R 10 v (L0 bk s).1.length rows.flatten ∧ RwL bnR R rows (L0 bk s).1) (vs 8) (bs 8) Rj := g8
  dsimp only at g8
  obtain ⟨-, -, -, rows, k1, k2⟩ := g8
  exact OpQ.opL (I7 (sz := 10) (a := p0 % 5) rfl rfl kR rfl k1 (by rw [hbl]; exact Nat.mod_lt _ (by decide))) rfl ⟨_, rfl, rfl, _, rows, rfl, k1, k2⟩
 ·
  dsimp only [Gc.inp]
  have g12 := ha _ (List.mem_of_getElem? (i := 1) rfl) kR
  replace g12 : (fun v B R => B = [] ∧ ∃ u rows, v = vAt 10 (p0 % 5) u ∧ Rd R 10 u (L0 bk s).1.length rows.flatten ∧ RwL bnR R rows (L0 bk s).1) (vs 12) (bs 12) Rj := g12
  dsimp only at g12
  obtain ⟨-, u, rows, e, k1, k2⟩ := g12
  obtain ⟨r, hr, hbn_⟩ := k2.get (p0 % 5) y hy
  exact OpQ.opL (A0I (rows := rows) (by rw [← e]; rfl) kR (k1.mono (fun x hx => by have := hjr x hx; simp [this])) (k2.lens bnT) (by decide) hr) rfl ⟨_, rfl, rfl, r, rfl, hbn_⟩
 ·
  dsimp only [Gc.inp]
  exact C5 (cs := [A2H, A2H, .slice none 0 0, .slice none 0 0, G6, .slice none 0 0, .slice none 0 0, .bool false, G6, .slice none 0 0]) kR rfl fun b => ⟨_, rfl, b, rfl, rfl⟩
 intro vs bs Jn0 hφ hKK
 have kk8 := hKK _ (List.mem_of_getElem? (i := 0) rfl)
 dsimp only at kk8
 have kk12 := hKK _ (List.mem_of_getElem? (i := 1) rfl)
 dsimp only at kk12
 have kk13 := hKK _ (List.mem_of_getElem? (i := 2) rfl)
 dsimp only at kk13
 have kk14 := hKK _ (List.mem_of_getElem? (i := 3) rfl)
 dsimp only at kk14
 clear hKK
 have g8 := ofH hφ
 dsimp only at g8
 replace hφ := ofT hφ
 have g12 := ofH hφ
 dsimp only at g12
 replace hφ := ofT hφ
 have g13 := ofH hφ
 dsimp only at g13
 replace hφ := ofT hφ
 have g14 := ofH hφ
 dsimp only at g14
 clear hφ
 dsimp only [R7, Y8, List.foldr, List.map, List.cons_append, List.nil_append]
 generalize bs 8 = B31 at *
 generalize bs 12 = B35 at *
 generalize bs 13 = B36 at *
 generalize bs 14 = B8 at *
 generalize vs 8 = u31 at *
 generalize vs 12 = u35 at *
 generalize vs 13 = u36 at *
 generalize vs 14 = u8 at *
 obtain ⟨MP2, rfl, hP27, -⟩ := g8
 obtain ⟨rfl, -⟩ := g12
 obtain ⟨rfl, r0, rfl, w1, w2, w3, w4, w5, rfl, gw1, gw2, gw3, gw4, gw5, gws, gwo⟩ := g13
 obtain ⟨b8, rfl, rfl⟩ := g14
 haveI := gw1.cel
 haveI := gw2.cel
 haveI := gw3.cel
 haveI := gw4.cel
 haveI := gw5.cel
 refine N6 rfl rfl rfl (A8 (vs := [.int .i64 y.user, .int .i64 y.dev, w1, w2, .int .u32 ((y.signed : Nat) : Int), w3, w4, .bool y.has, .int .u32 ((y.once : Nat) : Int), w5]) rfl rfl rfl kR (by rfl) (C0 rfl (C0 rfl (C0 gw1.one (C0 gw2.one (C0 rfl (C0 gw3.one (C0 gw4.one (C0 rfl (C0 rfl (C0 gw5.one I3)))))))))) UpC.upd ?_)
 refine L4 (E0 2 7 8) ?_
 refine A0h (α := Nat × Ks × Ps × Mem × Mem × Mem) (fun z => [(7, .pointer (some ⟨tb, 0, none⟩)), (8, .pointer (some ⟨b8, 0, none⟩))]) (fun z => z.2.2.2.1 ++ z.2.2.2.2.1) (fun z => z.2.2.2.2.2) (fun z => z.1 ≤ 1 ∧ GnI (L0 bk s).2 x bk z.1 z.2.1 z.2.2.1 ∧ Kys (z.2.2.2.2.2 ++ A) kb z.2.1 z.2.2.2.1 ∧ Prm pb z.2.2.1 z.2.2.2.2.1 ∧ z.2.2.1 = (if tn then (T5 bk (L0 bk s).2).2 else (L0 bk s).2) ∧ (tb, blk [.pointer (some ⟨pb, 0, none⟩), .pointer (some ⟨ka, 0, none⟩), .pointer (some ⟨kb, 0, none⟩)] 37) ∈ z.2.2.2.2.2 ∧ (b8, blk [.int .i64 y.user, .int .i64 y.dev, w1, w2, .int .u32 ((y.signed : Nat) : Int), w3, w4, .bool y.has, .int .u32 ((y.once : Nat) : Int), w5] 32) ∈ z.2.2.2.2.2 ∧ KyR (z.2.2.2.2.2 ++ A) ka ak va vg vq vo vm rs ro rm ∧ By (z.2.2.2.2.2 ++ A) w1 y.ia ∧ By (z.2.2.2.2.2 ++ A) w2 y.ig ∧ By (z.2.2.2.2.2 ++ A) w3 y.key ∧ By (z.2.2.2.2.2 ++ A) w4 y.sig ∧ By (z.2.2.2.2.2 ++ A) w5 y.oncek) ?_ ?_
 ·
  refine Z8 (B := [(b8, blk [.int .i64 y.user, .int .i64 y.dev, w1, w2, .int .u32 ((y.signed : Nat) : Int), w3, w4, .bool y.has, .int .u32 ((y.once : Nat) : Int), w5] 32)]) PickC.perm ?_
  have hG0 : GnI (L0 bk s).2 x bk 0 bk (L0 bk s).2 := ⟨hb1, rfl, rfl, .inl ⟨rfl, hsg⟩, hF.nx, by omega, by omega, Pext.refl _⟩
  refine A3 (mv_ (A0 (E0 7 8 37) ?_))
  refine C8 rfl (fun hc => ?_) (fun hc => ?_)
  ·
   refine I2 (.range 8) (zp 0 [0, 0, 0, 1, 0, 0, 0, 1, 2]) kR kR fun hs => ?_
   refine fm_ hs ?_
   refine D1 hs rfl (F4 rfl) rfl ?_
   refine D1 hs rfl (qf_ 2 2) rfl ?_
   refine F7 hs rfl ql_ rfl ?_
   refine fm_ hs ?_
   refine D1 hs rfl (F4 rfl) rfl ?_
   refine D1 hs rfl (qf_ 0 0) rfl ?_
   refine F7 hs rfl ql_ rfl ?_
   refine G5 rfl rfl rfl (D9 (Mc := MB ++ MP2) (R := _) (aS rfl (aS rfl (a0))) kR PickC.perm (B5F kb pb bk (L0 bk s).2 MB MP2 _ (hKb.mono SubC.sub) hP27 (by omega) (by omega) (by have := hF.nx; omega) hG.up) rfl ?_)
   rintro v46 M46 J46 ⟨MK2, MP3, rfl, hK2, hP3⟩
   refine U9 ?_
   exact jn (1, (T5 bk (L0 bk s).2).1, (T5 bk (L0 bk s).2).2, MK2, MP3, _) ⟨Nat.le_refl _, hG0.turn (by decide), by dsimp only; exact hK2.mono SubC.sub, hP3, by rw [hc]; rfl, by simp, by simp, hra _ SubC.sub SubC.sub, gw1.mono SubC.sub, gw2.mono SubC.sub, gw3.mono SubC.sub, gw4.mono SubC.sub, gw5.mono SubC.sub⟩ (D4 7 8) (Fit.pick PickC.perm (Fit.last PickC.perm)) (fun _ h => h)
  ·
   refine A9 ?_
   exact jn (0, bk, (L0 bk s).2, MB, MP2, _) ⟨Nat.zero_le _, hG0, hKb.mono SubC.sub, hP27, by rw [hc]; rfl, by simp, by simp, hra _ SubC.sub SubC.sub, gw1.mono SubC.sub, gw2.mono SubC.sub, gw3.mono SubC.sub, gw4.mono SubC.sub, gw5.mono SubC.sub⟩ (D4 7 8) (Fit.pick PickC.perm (Fit.last PickC.perm)) (fun _ h => h)
 ·
  rintro ⟨i, k, S0, MK, MPj, Jj⟩ ⟨hi, hGn, hK, hPj, hS0, hTW, hB8, hra2, gx1, gx2, gx3, gx4, gx5⟩
  dsimp only at hi hGn hK hPj hS0 hTW hB8 hra2 gx1 gx2 gx3 gx4 gx5 ⊢
  haveI := gx1.cel
  haveI := gx2.cel
  haveI := gx3.cel
  haveI := gx4.cel
  haveI := gx5.cel
  have hne := hGo y hy
  rw [← hS0] at hne
  obtain ⟨gt1, -⟩ := hGn.get hxn
  have g1 := hGn.nx
  have g2 := hGn.ts
  have g3 := hGn.n
  have ha3 := ha2.ext hGn.ext hGn.bi.tok hGn.bi.ar
  have hrk : B4l k.once := hGn.once ▸ hrise
  obtain ⟨hck, hag, hbi, hex, hsk, hpx⟩ := A2b hF.bb hsg (by omega) (by omega) (hGn.ext) (ha3) hla hlb (by omega) (by omega) y3 y4 y5 y6 y7 y8 y9
  have hst := A1I ak y S0
  have hans : anR k (stH ak y S0) (stS ak y S0) = (some (stK ak y S0, x.sec), stS ak y S0) := by
   have h2 := hag
   rw [← hGn.agree] at h2
   exact h2.ans hbi.tok (by omega) (by show A1q k.signed y.signed = _; rw [y5, hxn]; exact gt1 (by omega)) y8 (fun hh => by
    change y.has = true at hh
    have hh2 := hh
    rw [y8] at hh
    obtain ⟨o, rfl⟩ := Option.isSome_iff_exists.1 hh
    obtain ⟨q, q0, q1, q2, q3, -⟩ := y9 o rfl
    rw [show (stH ak y S0).once = y.once from if_pos hh2, hGn.once, q3, q2]
    exact A7I hrise q1)
  obtain ⟨ta, tg, tq, to_, tm, ts_, to2, tm2, hr⟩ := hK.r
  have hKl : (stK ak y S0).length = 32 := (A3T (stI ak y S0) (stL ak.agree y S0)).2
  refine Z8 (B := MK) PickC.perm ?_
  refine G9 (MPj) (_) true [0, 1, 2, 3, 4, 5, 6, 7, 8, 9, 10, 11, 12, 13, 14, 15, 17] [(0, 0), (1, 0), (2, 0), (3, 1), (4, 0), (5, 0), (6, 0), (7, 1), (8, 1), (9, 8), (10, 8), (11, 8), (14, 8), (12, 9), (13, 10), (15, 0), (16, 2), (17, 0)] kR kR PickC.perm fun hs K n0 hKm hKs hKn => ?_
  refine km_ hs ?_
  refine H6 hs rfl (F4 rfl) rfl ?_
  refine H6 hs rfl (qf_ 0 0) rfl ?_
  refine P4 hs rfl hKs (F9 rfl kR (SubC.sub _ hTW) (by rfl)) ?_
  refine km_ hs ?_
  refine H6 hs rfl (F4 rfl) rfl ?_
  refine H6 hs rfl (qf_ 1 1) rfl ?_
  refine P4 hs rfl hKs (F9 rfl kR (SubC.sub _ hTW) (by rfl)) ?_
  refine P4 hs rfl hKs (H2 (n := 10) rfl kR (SubC.sub _ hB8) (by rfl)) ?_
  refine A0Z [⟨9, 57, none, MPj, fun v B R => Prm pb (stS ak y S0) B ∧ StV R v (stK ak y S0) (stH ak y S0)⟩, ⟨10, 47, none, [], fun v B R => B = [] ∧ StV R v (stK ak y S0) (stH ak y S0)⟩, ⟨11, 58, none, [], fun v B R => B = [] ∧ By R v (stK ak y S0)⟩, ⟨14, 10, none, [], fun v B _ => ∃ b, v = .pointer (some ⟨b, 0, none⟩) ∧ B = [(b, blk [.slice none 0 0, .slice none 0 0, .slice none 0 0, .int .u32 0, .bool false, .int .u32 0] 43)]⟩] [⟨12, 59, none, [], fun v B R => B = [] ∧ ∃ p r u, v = .agg (heC p r u (stH ak y S0)).toArray ∧ HeR R (stH ak y S0) p r u⟩, ⟨13, 60, none, [], fun v B R => B = [] ∧ v = .int .i64 0⟩] ([]) (fun bs => [bs 9, bs 10, bs 11, bs 14, bs 12, bs 13]) (hKn rfl) (by simp [Y8, A1j]) (show ∀ m ∈ ([MPj, [], [], [], [], []] : List Mem), ∀ x ∈ m, K x.1 from C0 (hKm) (C0 (fun _ h => by cases h) (C0 (fun _ h => by cases h) (C0 (fun _ h => by cases h) (C0 (fun _ h => by cases h) (C0 (fun _ h => by cases h) (I3))))))) kR (fun _ => by first | rfl | kernel_rfl)
   (C0 (fun _ _ _ _ h ⟨p1, p2⟩ => ⟨p1, p2.mono h⟩) (C0 (fun _ _ _ _ h ⟨p1, p2⟩ => ⟨p1, p2.mono h⟩) (C0 (fun _ _ _ _ h ⟨p1, p2⟩ => ⟨p1, p2.mono h⟩) (C0 (fun _ _ _ _ _ h => h) (C0 (fun _ _ _ _ h ⟨p1, p, r, u, e, p2⟩ => ⟨p1, p, r, u, e, p2.mono h⟩) (C0 (fun _ _ _ _ _ h => h) (I3))))))) (show List.Nodup [57, 47, 58, 10, 59, 60] by decide) (show List.Nodup [9, 10, 11, 14, 12, 13] by decide) (C0 (C6 rfl) (C0 (C6 rfl) (C0 (C6 rfl) (C0 (C6 rfl) (C0 (C6 rfl) (C0 (C6 rfl) (I3)))))))
   hs (List.cons_ne_nil _ _) (C0 ⟨_, rfl, fun vs bs R Rj wG hb hj hjr ha => ⟨.inl rfl, ?_⟩⟩ (C0 ⟨_, rfl, fun vs bs R Rj wG hb hj hjr ha => ⟨.inl rfl, ?_⟩⟩ (C0 ⟨_, rfl, fun vs bs R Rj wG hb hj hjr ha => ⟨.inl rfl, ?_⟩⟩ (C0 ⟨_, rfl, fun vs bs R Rj wG hb hj hjr ha => ⟨.inl rfl, ?_⟩⟩ (I3))))) (C0 ⟨rfl, rfl, _, _, _, _, rfl, fun vs bs Rj hj ha => ?_⟩ (C0 ⟨rfl, rfl, _, _, _, _, rfl, fun vs bs Rj hj ha => ?_⟩ (I3))) ?_
  ·
   dsimp only [Gc.inp]
   refine D9 (Mc := MPj) (R := []) (aS rfl (aS rfl (aS rfl (a0)))) kR (by simp) (FnX.amb (A := Rj) (fun x hx => by have := hjr x hx; simp [this]) (A7L pb S0 ka ak va vg vq vo vm rs ro rm y w1 w2 w3 w4 w5 MPj Rj (hra2.mono (fun x hx => hj x (SubC.sub x hx))) hPj hGn.bi.ar (by omega) (by omega) (gx1.mono (fun x hx => hj x (SubC.sub x hx))) (gx2.mono (fun x hx => hj x (SubC.sub x hx))) (gx3.mono (fun x hx => hj x (SubC.sub x hx))) (gx4.mono (fun x hx => hj x (SubC.sub x hx))) (gx5.mono (fun x hx => hj x (SubC.sub x hx))) gws gwo (hG.sub (fun x hx => hj x (SubC.sub x hx))))) rfl ?_
   rintro v25 M25 J25 ⟨hh, -⟩
   obtain ⟨x, p, r, u, rfl, hP25, h25, hH25⟩ := hh hck
   exact ⟨_, rfl, by simpa using hP25, x, p, r, u, rfl, h25.mono fun x hx => by simp [hx], hH25.mono fun x hx => by simp [hx]⟩
  ·
   dsimp only [Gc.inp]
   have g9 := ha _ (List.mem_of_getElem? (i := 0) rfl) kR
   replace g9 : (fun v B R => Prm pb (stS ak y S0) B ∧ StV R v (stK ak y S0) (stH ak y S0)) (vs 9) (bs 9) Rj := g9
   dsimp only at g9
   obtain ⟨-, k⟩ := g9
   exact OpQ.opL qm_ rfl ⟨_, rfl, rfl, k⟩
  ·
   dsimp only [Gc.inp]
   have g10 := ha _ (List.mem_of_getElem? (i := 1) rfl) kR
   replace g10 : (fun v B R => B = [] ∧ StV R v (stK ak y S0) (stH ak y S0)) (vs 10) (bs 10) Rj := g10
   dsimp only at g10
   obtain ⟨-, x, p, r, u, e, k1, k2⟩ := g10
   exact OpQ.opL (K2 (vs := #[x, .agg (heC p r u (stH ak y S0)).toArray, .int .i64 0]) (by rw [← e]; rfl) rfl) rfl ⟨_, rfl, rfl, k1⟩
  ·
   dsimp only [Gc.inp]
   exact C5 (cs := [.slice none 0 0, .slice none 0 0, .slice none 0 0, .int .u32 0, .bool false, .int .u32 0]) kR rfl fun b => ⟨_, rfl, b, rfl, rfl⟩
  ·
   have g10 := ha _ (List.mem_of_getElem? (i := 1) rfl) kR
   replace g10 : (fun v B R => B = [] ∧ StV R v (stK ak y S0) (stH ak y S0)) (vs 10) (bs 10) Rj := g10
   dsimp only at g10
   obtain ⟨-, x, p, r, u, e, k1, k2⟩ := g10
   exact ⟨_, K2 (vs := #[x, .agg (heC p r u (stH ak y S0)).toArray, .int .i64 0]) (by rw [← e]; rfl) rfl, rfl, p, r, u, rfl, k2⟩
  ·
   have g10 := ha _ (List.mem_of_getElem? (i := 1) rfl) kR
   replace g10 : (fun v B R => B = [] ∧ StV R v (stK ak y S0) (stH ak y S0)) (vs 10) (bs 10) Rj := g10
   dsimp only at g10
   obtain ⟨-, x, p, r, u, e, k1, k2⟩ := g10
   exact ⟨_, K2 (vs := #[x, .agg (heC p r u (stH ak y S0)).toArray, .int .i64 0]) (by rw [← e]; rfl) rfl, rfl, rfl⟩
  intro vs bs Jn0 hφ hKK
  have kk9 := hKK _ (List.mem_of_getElem? (i := 0) rfl)
  dsimp only at kk9
  have kk10 := hKK _ (List.mem_of_getElem? (i := 1) rfl)
  dsimp only at kk10
  have kk11 := hKK _ (List.mem_of_getElem? (i := 2) rfl)
  dsimp only at kk11
  have kk14 := hKK _ (List.mem_of_getElem? (i := 3) rfl)
  dsimp only at kk14
  have kk12 := hKK _ (List.mem_of_getElem? (i := 4) rfl)
  dsimp only at kk12
  have kk13 := hKK _ (List.mem_of_getElem? (i := 5) rfl)
  dsimp only at kk13
  clear hKK
  have g9 := ofH hφ
  dsimp only at g9
  replace hφ := ofT hφ
  have g10 := ofH hφ
  dsimp only at g10
  replace hφ := ofT hφ
  have g11 := ofH hφ
  dsimp only at g11
  replace hφ := ofT hφ
  have g14 := ofH hφ
  dsimp only at g14
  replace hφ := ofT hφ
  have g12 := ofH hφ
  dsimp only at g12
  replace hφ := ofT hφ
  have g13 := ofH hφ
  dsimp only at g13
  clear hφ
  dsimp only [R7, Y8, List.foldr, List.map, List.cons_append, List.nil_append]
  generalize bs 9 = B57 at *
  generalize bs 10 = B47 at *
  generalize bs 11 = B58 at *
  generalize bs 14 = B10 at *
  generalize bs 12 = B59 at *
  generalize bs 13 = B60 at *
  generalize vs 9 = u57 at *
  generalize vs 10 = u47 at *
  generalize vs 11 = u58 at *
  generalize vs 14 = u10 at *
  generalize vs 12 = u59 at *
  generalize vs 13 = u60 at *
  obtain ⟨hP43, -⟩ := g9
  obtain ⟨rfl, -⟩ := g10
  obtain ⟨rfl, hK43⟩ := g11
  obtain ⟨rfl, p, r, u, rfl, hHe⟩ := g12
  obtain ⟨rfl, rfl⟩ := g13
  obtain ⟨b10, rfl, rfl⟩ := g14
  haveI := hK43.cel
  haveI := hHe.ia.cel
  haveI := hHe.ig.cel
  haveI := hHe.key.cel
  obtain ⟨H, hH⟩ : ∃ z, stH ak y S0 = z := ⟨_, rfl⟩
  obtain ⟨Kx, hK⟩ : ∃ z, stK ak y S0 = z := ⟨_, rfl⟩
  obtain ⟨s3, hs3⟩ : ∃ z, stS ak y S0 = z := ⟨_, rfl⟩
  rw [hH] at hHe hag hans
  rw [hK] at hK43 hag hans hKl
  rw [hs3] at hP43 hag hbi hex hst hans
  rw [hH]
  dsimp only [heC]
  rw [hK, hs3] at hne
  have hyo : H.has = y.has := by rw [← hH]; rfl
  have hyS : H.signed = y.signed := by rw [← hH]; rfl
  have hyo2 : y.has = true → H.once = y.once := fun hh => by rw [← hH]; exact if_pos hh
  rw [hH, hs3] at hsk
  refine H6 hs rfl (G8 rfl) rfl ?_
  refine N6 rfl rfl rfl (A8 (vs := [p, r, u, .int .u32 ((H.signed : Nat) : Int), .bool H.has, .int .u32 ((H.once : Nat) : Int)]) rfl rfl rfl kR (by rfl) (C0 hHe.ia.one (C0 hHe.ig.one (C0 hHe.key.one al3))) UpC.upd ?_)
  refine H6 hs rfl (G8 rfl) rfl ?_
  refine L4 (F8 7 8 9 10 11) ?_
  refine Z8 (B := [(b10, blk [p, r, u, .int .u32 ((H.signed : Nat) : Int), .bool H.has, .int .u32 ((H.once : Nat) : Int)] 43)]) PickC.perm ?_
  refine D2 [0, 1, 2, 3, 4, 5, 6, 7, 8, 10, 11, 12, 13, 14, 15, 16] (zp 0 [0, 0, 0, 1, 0, 0, 0, 1, 1, 2, 0, 0, 0, 0, 0, 0, 0]) kR kR fun hs => ?_
  refine fm_ hs ?_
  refine D1 hs rfl (F4 rfl) rfl ?_
  refine D1 hs rfl (qf_ 0 0) rfl ?_
  refine F7 hs rfl (F9 rfl kR (SubC.sub _ hTW) (by rfl)) rfl ?_
  refine fm_ hs ?_
  refine D1 hs rfl (F4 rfl) rfl ?_
  refine D1 hs rfl (qf_ 2 2) rfl ?_
  refine F7 hs rfl (F9 rfl kR (SubC.sub _ hTW) (by rfl)) rfl ?_
  refine F7 hs rfl (qw_ 6) rfl ?_
  refine G5 rfl rfl rfl (D9 (Mc := B57) (R := _) (aS rfl (aS rfl (aS rfl (a0)))) kR PickC.perm (A8X pb s3 kb k ta tg tq to_ tm ts_ to2 tm2 H p r u B57 _ (hr _ SubC.sub SubC.sub) hrk hP43 (by omega) (hHe.mono SubC.sub) hG.up) rfl ?_)
  rintro v71 M71 J71 ⟨o1, o2, rfl, hP71, ho1, ho2⟩
  rw [hans] at hP71 ho1 ho2 ⊢
  change Prm pb s3 M71 at hP71
  change By _ o1 Kx at ho1
  change By _ o2 x.sec at ho2
  haveI := ho1.cel
  haveI := ho2.cel
  have h2k := hex.n
  obtain ⟨hck2, hag2, hbi2, hex2, hsk2, hpx2⟩ := A2b hF.bb hsg (by omega) (by omega) (hGn.ext.trans hex.p) (hbi) hla hlb (by omega) (by omega) y3 y4 y5 y6 y7 y8 y9
  have hst2 := A1I ak y s3
  have h3k := hex2.n
  refine fm_ hs ?_
  refine D1 hs rfl (A3W rfl) rfl ?_
  refine D1 hs rfl (A3j rfl) rfl ?_
  refine D1 hs rfl (B9Q rfl) rfl ?_
  refine fa_ hs ?_
  refine fa_ hs ?_
  refine fa_ hs ?_
  refine E4 (A1N 7 8 9 10 11 12 13 14) ?_
  refine G9 (M71) (_) true [0, 1, 2, 3, 4, 5, 6, 7, 8, 9, 10, 11, 12, 13, 14, 15, 17] [(0, 0), (1, 0), (2, 0), (3, 1), (4, 0), (5, 0), (6, 0), (7, 1), (8, 1), (9, 8), (10, 8), (11, 8), (14, 8), (12, 9), (13, 10), (15, 0), (16, 2), (17, 0)] kR kR PickC.perm fun hs K n0 hKm hKs hKn => ?_
  refine km_ hs ?_
  refine H6 hs rfl (F4 rfl) rfl ?_
  refine H6 hs rfl (qf_ 0 0) rfl ?_
  refine P4 hs rfl hKs (F9 rfl kR (SubC.sub _ hTW) (by rfl)) ?_
  refine km_ hs ?_
  refine H6 hs rfl (F4 rfl) rfl ?_
  refine H6 hs rfl (qf_ 1 1) rfl ?_
  refine P4 hs rfl hKs (F9 rfl kR (SubC.sub _ hTW) (by rfl)) ?_
  refine P4 hs rfl hKs (H2 (n := 10) rfl kR (SubC.sub _ hB8) (by rfl)) ?_
  refine A0Z [⟨9, 85, none, M71, fun v B R => Prm pb (stS ak y s3) B ∧ StV R v (stK ak y s3) (stH ak y s3)⟩, ⟨10, 75, none, [], fun v B R => B = [] ∧ StV R v (stK ak y s3) (stH ak y s3)⟩, ⟨11, 86, none, [], fun v B R => B = [] ∧ By R v (stK ak y s3)⟩, ⟨14, 16, none, [], fun v B _ => ∃ b, v = .pointer (some ⟨b, 0, none⟩) ∧ B = [(b, blk [.slice none 0 0, .slice none 0 0, .slice none 0 0, .int .u32 0, .bool false, .int .u32 0] 43)]⟩] [⟨12, 87, none, [], fun v B R => B = [] ∧ ∃ p r u, v = .agg (heC p r u (stH ak y s3)).toArray ∧ HeR R (stH ak y s3) p r u⟩, ⟨13, 88, none, [], fun v B R => B = [] ∧ v = .int .i64 0⟩] ([]) (fun bs => [bs 9, bs 10, bs 11, bs 14, bs 12, bs 13]) (hKn rfl) (by simp [Y8, A1j]) (show ∀ m ∈ ([M71, [], [], [], [], []] : List Mem), ∀ x ∈ m, K x.1 from C0 (hKm) (C0 (fun _ h => by cases h) (C0 (fun _ h => by cases h) (C0 (fun _ h => by cases h) (C0 (fun _ h => by cases h) (C0 (fun _ h => by cases h) (I3))))))) kR (fun _ => by first | rfl | kernel_rfl)
   (C0 (fun _ _ _ _ h ⟨p1, p2⟩ => ⟨p1, p2.mono h⟩) (C0 (fun _ _ _ _ h ⟨p1, p2⟩ => ⟨p1, p2.mono h⟩) (C0 (fun _ _ _ _ h ⟨p1, p2⟩ => ⟨p1, p2.mono h⟩) (C0 (fun _ _ _ _ _ h => h) (C0 (fun _ _ _ _ h ⟨p1, p, r, u, e, p2⟩ => ⟨p1, p, r, u, e, p2.mono h⟩) (C0 (fun _ _ _ _ _ h => h) (I3))))))) (show List.Nodup [85, 75, 86, 16, 87, 88] by decide) (show List.Nodup [9, 10, 11, 14, 12, 13] by decide) (C0 (C6 rfl) (C0 (C6 rfl) (C0 (C6 rfl) (C0 (C6 rfl) (C0 (C6 rfl) (C0 (C6 rfl) (I3)))))))
   hs (List.cons_ne_nil _ _) (C0 ⟨_, rfl, fun vs bs R Rj wG hb hj hjr ha => ⟨.inl rfl, ?_⟩⟩ (C0 ⟨_, rfl, fun vs bs R Rj wG hb hj hjr ha => ⟨.inl rfl, ?_⟩⟩ (C0 ⟨_, rfl, fun vs bs R Rj wG hb hj hjr ha => ⟨.inl rfl, ?_⟩⟩ (C0 ⟨_, rfl, fun vs bs R Rj wG hb hj hjr ha => ⟨.inl rfl, ?_⟩⟩ (I3))))) (C0 ⟨rfl, rfl, _, _, _, _, rfl, fun vs bs Rj hj ha => ?_⟩ (C0 ⟨rfl, rfl, _, _, _, _, rfl, fun vs bs Rj hj ha => ?_⟩ (I3))) ?_
  ·
   dsimp only [Gc.inp]
   refine D9 (Mc := M71) (R := []) (aS rfl (aS rfl (aS rfl (a0)))) kR (by simp) (FnX.amb (A := Rj) (fun x hx => by have := hjr x hx; simp [this]) (A7L pb s3 ka ak va vg vq vo vm rs ro rm y w1 w2 w3 w4 w5 M71 Rj (hra2.mono (fun x hx => hj x (SubC.sub x hx))) hP71 hbi.ar (by omega) (by omega) (gx1.mono (fun x hx => hj x (SubC.sub x hx))) (gx2.mono (fun x hx => hj x (SubC.sub x hx))) (gx3.mono (fun x hx => hj x (SubC.sub x hx))) (gx4.mono (fun x hx => hj x (SubC.sub x hx))) (gx5.mono (fun x hx => hj x (SubC.sub x hx))) gws gwo (hG.sub (fun x hx => hj x (SubC.sub x hx))))) rfl ?_
   rintro v25 M25 J25 ⟨hh, -⟩
   obtain ⟨x, p, r, u, rfl, hP25, h25, hH25⟩ := hh hck2
   exact ⟨_, rfl, by simpa using hP25, x, p, r, u, rfl, h25.mono fun x hx => by simp [hx], hH25.mono fun x hx => by simp [hx]⟩
  ·
   dsimp only [Gc.inp]
   have g9 := ha _ (List.mem_of_getElem? (i := 0) rfl) kR
   replace g9 : (fun v B R => Prm pb (stS ak y s3) B ∧ StV R v (stK ak y s3) (stH ak y s3)) (vs 9) (bs 9) Rj := g9
   dsimp only at g9
   obtain ⟨-, k⟩ := g9
   exact OpQ.opL qm_ rfl ⟨_, rfl, rfl, k⟩
  ·
   dsimp only [Gc.inp]
   have g10 := ha _ (List.mem_of_getElem? (i := 1) rfl) kR
   replace g10 : (fun v B R => B = [] ∧ StV R v (stK ak y s3) (stH ak y s3)) (vs 10) (bs 10) Rj := g10
   dsimp only at g10
   obtain ⟨-, x, p, r, u, e, k1, k2⟩ := g10
   exact OpQ.opL (K2 (vs := #[x, .agg (heC p r u (stH ak y s3)).toArray, .int .i64 0]) (by rw [← e]; rfl) rfl) rfl ⟨_, rfl, rfl, k1⟩
  ·
   dsimp only [Gc.inp]
   exact C5 (cs := [.slice none 0 0, .slice none 0 0, .slice none 0 0, .int .u32 0, .bool false, .int .u32 0]) kR rfl fun b => ⟨_, rfl, b, rfl, rfl⟩
  ·
   have g10 := ha _ (List.mem_of_getElem? (i := 1) rfl) kR
   replace g10 : (fun v B R => B = [] ∧ StV R v (stK ak y s3) (stH ak y s3)) (vs 10) (bs 10) Rj := g10
   dsimp only at g10
   obtain ⟨-, x, p, r, u, e, k1, k2⟩ := g10
   exact ⟨_, K2 (vs := #[x, .agg (heC p r u (stH ak y s3)).toArray, .int .i64 0]) (by rw [← e]; rfl) rfl, rfl, p, r, u, rfl, k2⟩
  ·
   have g10 := ha _ (List.mem_of_getElem? (i := 1) rfl) kR
   replace g10 : (fun v B R => B = [] ∧ StV R v (stK ak y s3) (stH ak y s3)) (vs 10) (bs 10) Rj := g10
   dsimp only at g10
   obtain ⟨-, x, p, r, u, e, k1, k2⟩ := g10
   exact ⟨_, K2 (vs := #[x, .agg (heC p r u (stH ak y s3)).toArray, .int .i64 0]) (by rw [← e]; rfl) rfl, rfl, rfl⟩
  intro vs bs Jn0 hφ hKK
  have kk9 := hKK _ (List.mem_of_getElem? (i := 0) rfl)
  dsimp only at kk9
  have kk10 := hKK _ (List.mem_of_getElem? (i := 1) rfl)
  dsimp only at kk10
  have kk11 := hKK _ (List.mem_of_getElem? (i := 2) rfl)
  dsimp only at kk11
  have kk14 := hKK _ (List.mem_of_getElem? (i := 3) rfl)
  dsimp only at kk14
  have kk12 := hKK _ (List.mem_of_getElem? (i := 4) rfl)
  dsimp only at kk12
  have kk13 := hKK _ (List.mem_of_getElem? (i := 5) rfl)
  dsimp only at kk13
  clear hKK
  have g9 := ofH hφ
  dsimp only at g9
  replace hφ := ofT hφ
  have g10 := ofH hφ
  dsimp only at g10
  replace hφ := ofT hφ
  have g11 := ofH hφ
  dsimp only at g11
  replace hφ := ofT hφ
  have g14 := ofH hφ
  dsimp only at g14
  replace hφ := ofT hφ
  have g12 := ofH hφ
  dsimp only at g12
  replace hφ := ofT hφ
  have g13 := ofH hφ
  dsimp only at g13
  clear hφ
  dsimp only [R7, Y8, List.foldr, List.map, List.cons_append, List.nil_append]
  generalize bs 9 = B85 at *
  generalize bs 10 = B75 at *
  generalize bs 11 = B86 at *
  generalize bs 14 = B16 at *
  generalize bs 12 = B87 at *
  generalize bs 13 = B88 at *
  generalize vs 9 = u85 at *
  generalize vs 10 = u75 at *
  generalize vs 11 = u86 at *
  generalize vs 14 = u16 at *
  generalize vs 12 = u87 at *
  generalize vs 13 = u88 at *
  obtain ⟨hP93, -⟩ := g9
  obtain ⟨rfl, -⟩ := g10
  obtain ⟨rfl, hK93⟩ := g11
  obtain ⟨rfl, p2, r2, u2, rfl, hHe2⟩ := g12
  obtain ⟨rfl, rfl⟩ := g13
  obtain ⟨b16, rfl, rfl⟩ := g14
  haveI := hK93.cel
  haveI := hHe2.ia.cel
  haveI := hHe2.ig.cel
  haveI := hHe2.key.cel
  dsimp only [heC]
  refine H6 hs rfl (G8 rfl) rfl ?_
  refine N6 rfl rfl rfl (A8 (vs := [p2, r2, u2, .int .u32 (((stH ak y s3).signed : Nat) : Int), .bool (stH ak y s3).has, .int .u32 (((stH ak y s3).once : Nat) : Int)]) rfl rfl rfl kR (by rfl) (C0 hHe2.ia.one (C0 hHe2.ig.one (C0 hHe2.key.one al3))) UpC.upd ?_)
  refine H6 hs rfl (G8 rfl) rfl ?_
  refine L4 (kq 7 (A5N 8 9 10 11 12 13 14 15 17)) ?_
  refine Z8 (B := [(b16, blk [p2, r2, u2, .int .u32 (((stH ak y s3).signed : Nat) : Int), .bool (stH ak y s3).has, .int .u32 (((stH ak y s3).once : Nat) : Int)] 43)]) PickC.perm ?_
  obtain ⟨s4, hs4⟩ : ∃ z, stS ak y s3 = z := ⟨_, rfl⟩
  rw [hs4] at hP93 hag2 hbi2 hex2 hst2
  obtain ⟨i1, i2, i3⟩ := B7N hbi2.tok (by omega) (hag.pia.ext hex2.p) (hsk.ext hex2.p)
  obtain ⟨hck3, -, -, -, -, -⟩ := A2b hF.bb hsg (by omega) (by omega) ((hGn.ext.trans hex.p).trans hex2.p) hbi2 hla hlb (by omega) (by omega) y3 y4 y5 y6 y7 y8 y9
  have hpx3 := hpx.ext (hex.p.trans hex2.p)
  refine G9 (B85) (_) true (.range 10) (zp 0 [0, 0, 0, 1, 0, 0, 0, 1, 3, 4, 2]) kR kR PickC.perm fun hs K n0 hKm hKs hKn => ?_
  refine km_ hs ?_
  refine H6 hs rfl (F4 rfl) rfl ?_
  refine H6 hs rfl (qf_ 1 1) rfl ?_
  refine P4 hs rfl hKs (F9 rfl kR (SubC.sub _ hTW) (by rfl)) ?_
  refine km_ hs ?_
  refine H6 hs rfl (F4 rfl) rfl ?_
  refine H6 hs rfl (qf_ 0 0) rfl ?_
  refine P4 hs rfl hKs (F9 rfl kR (SubC.sub _ hTW) (by rfl)) ?_
  refine A0s [⟨8, 97, none, B85, fun v B R => Prm pb (idS ak s4) B ∧ ∃ p q, v = .agg #[p, q] ∧ By R p (idA ak s4) ∧ By R q (idG ak s4)⟩, ⟨9, 18, none, [], fun v B _ => ∃ b, v = .pointer (some ⟨b, 0, none⟩) ∧ B = [(b, blk [.slice none 0 0, .slice none 0 0] 29)]⟩] ([]) (fun bs => [bs 8, bs 9]) (hKn rfl) (by simp [Y8, A1j]) (show ∀ m ∈ ([B85, []] : List Mem), ∀ x ∈ m, K x.1 from C0 (hKm) (C0 (fun _ h => by cases h) (I3))) kR (fun _ => by first | rfl | kernel_rfl)
   (C0 (fun _ _ _ _ h ⟨p1, p, q, e, p2, p3⟩ => ⟨p1, p, q, e, p2.mono h, p3.mono h⟩) (C0 (fun _ _ _ _ _ h => h) (I3))) (show List.Nodup [97, 18] by decide) (show List.Nodup [8, 9] by decide) (C0 (C6 rfl) (C0 (C6 rfl) (I3)))
   (C0 ⟨_, rfl, fun vs bs R Rj wG hb hj hjr ha => ⟨.inl rfl, ?_⟩⟩ (C0 ⟨_, rfl, fun vs bs R Rj wG hb hj hjr ha => ⟨.inl rfl, ?_⟩⟩ (I3))) ?_
  ·
   dsimp only [Gc.inp]
   refine D9 (Mc := B85) (R := []) (aS rfl (aS rfl (a0))) kR (by simp) (A5A pb s4 ka ak va vg vq vo vm rs ro rm B85 _ (hra2.mono (fun x hx => by have := hb x (by simp [hx]); simp [this])) hP93 (by omega) (hG.sub (fun x hx => by have := hb x (by simp [hx]); simp [this]))) rfl ?_
   rintro v25 M25 J25 ⟨hP25, p, q, rfl, hp, hq⟩
   exact ⟨_, rfl, by simpa using hP25, p, q, rfl, hp.mono fun x hx => by simp [hx], hq.mono fun x hx => by simp [hx]⟩
  ·
   dsimp only [Gc.inp]
   exact C5 (cs := [.slice none 0 0, .slice none 0 0]) kR rfl fun b => ⟨_, rfl, b, rfl, rfl⟩
  intro vs bs Jn0 hφ hKK
  have kk8 := hKK _ (List.mem_of_getElem? (i := 0) rfl)
  dsimp only at kk8
  have kk9 := hKK _ (List.mem_of_getElem? (i := 1) rfl)
  dsimp only at kk9
  clear hKK
  have g8 := ofH hφ
  dsimp only at g8
  replace hφ := ofT hφ
  have g9 := ofH hφ
  dsimp only at g9
  clear hφ
  dsimp only [R7, Y8, List.foldr, List.map, List.cons_append, List.nil_append]
  generalize bs 8 = B97 at *
  generalize bs 9 = B18 at *
  generalize vs 8 = u97 at *
  generalize vs 9 = u18 at *
  obtain ⟨hP97, q1, q2, rfl, hq1, hq2⟩ := g8
  obtain ⟨b18, rfl, rfl⟩ := g9
  haveI := hq1.cel
  haveI := hq2.cel
  rw [i1] at hP97
  rw [i2] at hq1
  rw [i3] at hq2
  refine N6 rfl rfl rfl (A8 (vs := [q1, q2]) rfl rfl rfl kR (by rfl) (C0 hq1.one (C0 hq2.one I3)) UpC.upd ?_)
  refine L4 (kq 7 (kq 8 (A5N 9 10 11 12 13 14 15 17 18))) ?_
  refine Z8 (B := [(b18, blk [q1, q2] 29)]) PickC.perm ?_
  refine G9 (B97) (_) true (.range 78) [(0, 0), (1, 0), (2, 0), (3, 0), (4, 0), (5, 0), (6, 0), (7, 0), (8, 0), (9, 0), (10, 0), (11, 0), (12, 1), (13, 0), (14, 1), (15, 0), (16, 0), (17, 0), (18, 0), (19, 1), (20, 0), (21, 1), (22, 0), (23, 0), (24, 0), (25, 0), (26, 0), (27, 0), (28, 1), (29, 0), (32, 0), (33, 1), (34, 1), (30, 2), (31, 2), (35, 0), (36, 0), (37, 0), (38, 0), (39, 1), (40, 0), (41, 1), (42, 0), (43, 0), (44, 0), (45, 0), (46, 1), (47, 0), (48, 0), (49, 0), (50, 1), (51, 0), (52, 1), (53, 0), (54, 0), (55, 0), (56, 0), (57, 0), (58, 1), (59, 0), (60, 1), (61, 0), (62, 0), (63, 0), (64, 0), (65, 1), (66, 1), (67, 2), (68, 0), (69, 0), (70, 0), (71, 0), (72, 0), (73, 1), (74, 1), (75, 2), (76, 0), (77, 0)] kR kR PickC.perm fun hs K n0 hKm hKs hKn => ?_
  refine km_ hs ?_
  refine H6 hs rfl (G3 true rfl rfl (eqT rfl)) rfl ?_
  refine km_ hs ?_
  refine N5 hs rfl rfl rfl rfl qm_ rfl ?_
  refine N5 hs rfl rfl rfl rfl (G3 true rfl rfl (eqT rfl)) rfl ?_
  refine H6 hs rfl (F5 rfl rfl) rfl ?_
  refine km_ hs ?_
  refine N5 hs rfl rfl rfl rfl qm_ rfl ?_
  refine N5 hs rfl rfl rfl rfl (G3 true rfl rfl (eqT rfl)) rfl ?_
  refine H6 hs rfl (F5 rfl rfl) rfl ?_
  refine km_ hs ?_
  refine N5 hs rfl rfl rfl rfl qm_ rfl ?_
  refine W1 hs rfl rfl rfl rfl (by first | exact fun x hx => by rw [List.append_assoc]; exact List.mem_append_right _ hx | exact SubC.sub) hKs (P0 rfl kR (hK43.rd.mono SubC.sub)) rfl ?_
  refine N5 hs rfl rfl rfl rfl qm_ rfl ?_
  refine W1 hs rfl rfl rfl rfl (by first | exact fun x hx => by rw [List.append_assoc]; exact List.mem_append_right _ hx | exact SubC.sub) hKs (P0 rfl kR (ho1.rd.mono SubC.sub)) rfl ?_
  refine N5 hs rfl rfl rfl rfl ((show (decide (Kx = Kx)) = true by simp) ▸ B0f rfl rfl rfl rfl hK43.lt ho1.lt) rfl ?_
  refine H6 hs rfl (F5 rfl rfl) rfl ?_
  refine km_ hs ?_
  refine N5 hs rfl rfl rfl rfl qm_ rfl ?_
  refine W1 hs rfl rfl rfl rfl (by first | exact fun x hx => by rw [List.append_assoc]; exact List.mem_append_right _ hx | exact SubC.sub) hKs (P0 rfl kR (hK43.rd.mono SubC.sub)) rfl ?_
  refine N5 hs rfl rfl rfl rfl qm_ rfl ?_
  refine W1 hs rfl rfl rfl rfl (by first | exact fun x hx => by rw [List.append_assoc]; exact List.mem_append_right _ hx | exact SubC.sub) hKs (P0 rfl kR (hK93.rd.mono SubC.sub)) rfl ?_
  refine N5 hs rfl rfl rfl rfl ((show (!decide (Kx = stK ak y s3)) = true by simp [hne]) ▸ B8r rfl rfl rfl rfl hK43.lt hK93.lt) rfl ?_
  refine H6 hs rfl (F5 rfl rfl) rfl ?_
  refine km_ hs ?_
  refine N5 hs rfl rfl rfl rfl qm_ rfl ?_
  refine N5 hs rfl rfl rfl rfl (F4 rfl) rfl ?_
  refine N5 hs rfl rfl rfl rfl (qf_ 0 0) rfl ?_
  refine W1 hs rfl rfl rfl rfl (by first | exact fun x hx => by rw [List.append_assoc]; exact List.mem_append_right _ hx | exact SubC.sub) hKs (F9 rfl kR (SubC.sub _ hTW) (by rfl)) rfl ?_
  refine N5 hs rfl rfl rfl rfl qm_ rfl ?_
  refine N5 hs rfl rfl rfl rfl (qf_ 5 5) rfl ?_
  refine W1 hs rfl rfl rfl rfl (by first | exact fun x hx => by rw [List.append_assoc]; exact List.mem_append_right _ hx | exact SubC.sub) hKs (F9 rfl kR (SubC.sub _ hB8) (by rfl)) rfl ?_
  refine W1 hs rfl rfl rfl rfl (by first | exact fun x hx => by rw [List.append_assoc]; exact List.mem_append_right _ hx | exact SubC.sub) hKs (P0 rfl kR (gx3.rd.mono SubC.sub)) rfl ?_
  refine A64 _ _ rfl rfl rfl rfl (List.Perm.refl _) hKm fun w0 => (D9 (Mc := B97) (R := _) (aS rfl (aS rfl (a0))) kR PickC.perm (A0e pb s4 o2 x.sec B97 _ hP97 (by omega) (ho2.mono SubC.sub) hG.up) rfl ?_)
  rintro v128 M128 J128 ⟨hP128, h128⟩ hKx128
  haveI := h128.cel
  rw [(hpx3.eq hbi2.tok (by omega)).1] at hP128
  rw [(hpx3.eq hbi2.tok (by omega)).2] at h128
  refine A64 [] _ rfl rfl rfl rfl (List.Perm.refl _) (fun _ h => by cases h) fun w0 => (OpQ.opL (P0 rfl kR (h128.rd.mono SubC.sub)) rfl ?_)
  intro _
  refine N5 hs rfl rfl rfl rfl ((show (decide (y.key = y.key)) = true by simp) ▸ B0f rfl rfl rfl rfl h128.lt gx3.lt) rfl ?_
  refine H6 hs rfl (F5 rfl rfl) rfl ?_
  refine km_ hs ?_
  refine N5 hs rfl rfl rfl rfl (qf_ 4 4) rfl ?_
  refine W1 hs rfl rfl rfl rfl (by first | exact fun x hx => by rw [List.append_assoc]; exact List.mem_append_right _ hx | exact SubC.sub) hKs ql_ rfl ?_
  refine N5 hs rfl rfl rfl rfl (qf_ 7 7) rfl ?_
  refine W1 hs rfl rfl rfl rfl (by first | exact fun x hx => by rw [List.append_assoc]; exact List.mem_append_right _ hx | exact SubC.sub) hKs (F9 rfl kR (SubC.sub _ hB8) (by rfl)) rfl ?_
  refine N5 hs rfl rfl rfl rfl (A9Q true rfl rfl kR (by rw [hyo]; simp)) rfl ?_
  refine H6 hs rfl (F5 rfl rfl) rfl ?_
  refine km_ hs ?_
  refine N5 hs rfl rfl rfl rfl (qf_ 7 7) rfl ?_
  refine W1 hs rfl rfl rfl rfl (by first | exact fun x hx => by rw [List.append_assoc]; exact List.mem_append_right _ hx | exact SubC.sub) hKs (F9 rfl kR (SubC.sub _ hB8) (by rfl)) rfl ?_
  refine N5 hs rfl rfl rfl rfl (A0i rfl) rfl ?_
  refine N5 hs rfl rfl rfl rfl qm_ rfl ?_
  refine A70 (t := 146) rfl (fun hb => ?_) (fun hb => ?_)
  ·
   have hy0 : y.has = false := by simpa using hb
   refine B2J hs rfl rfl rfl rfl rfl rfl ?_
   refine B6d hs rfl rfl rfl rfl rfl rfl ?_
   refine B2J hs rfl rfl rfl rfl rfl rfl ?_
   refine B6d hs rfl rfl rfl rfl rfl rfl ?_
   refine B2J hs rfl rfl rfl rfl rfl rfl ?_
   refine N5 hs rfl rfl rfl rfl (F5 rfl rfl) rfl ?_
   refine H6 hs rfl (F5 rfl rfl) rfl ?_
   refine km_ hs ?_
   refine N5 hs rfl rfl rfl rfl (qf_ 3 3) rfl ?_
   refine W1 hs rfl rfl rfl rfl (by first | exact fun x hx => by rw [List.append_assoc]; exact List.mem_append_right _ hx | exact SubC.sub) hKs ql_ rfl ?_
   refine N5 hs rfl rfl rfl rfl (qf_ 4 4) rfl ?_
   refine W1 hs rfl rfl rfl rfl (by first | exact fun x hx => by rw [List.append_assoc]; exact List.mem_append_right _ hx | exact SubC.sub) hKs (F9 rfl kR (SubC.sub _ hB8) (by rfl)) rfl ?_
   refine N5 hs rfl rfl rfl rfl (G3 true rfl rfl (eqT (by rw [hyS]))) rfl ?_
   refine H6 hs rfl (F5 rfl rfl) rfl ?_
   refine km_ hs ?_
   refine N5 hs rfl rfl rfl rfl (qf_ 0 0) rfl ?_
   refine W1 hs rfl rfl rfl rfl (by first | exact fun x hx => by rw [List.append_assoc]; exact List.mem_append_right _ hx | exact SubC.sub) hKs (G7 (n := 2) rfl kR (by first | exact At.mem | exact mA (by assumption)) TakeC.take) rfl ?_
   refine W1 hs rfl rfl rfl rfl (by first | exact fun x hx => by rw [List.append_assoc]; exact List.mem_append_right _ hx | exact SubC.sub) hKs (qw_ 2) rfl ?_
   refine A64 [] _ rfl rfl rfl rfl (List.Perm.refl _) (fun _ h => by cases h) fun w0 => (R6 (aS rfl (aS rfl a0)) kR (B5H p r q1 q2 H.ia H.ig H.ia H.ig _ (hHe.ia.mono SubC.sub) ((hHe.ig.by hq2.len).mono SubC.sub) (hq1.mono SubC.sub) (hq2.mono SubC.sub)) rfl fun _ => ?_)
   dsimp only [List.nil_append, List.append_eq]
   rw [show (decide (H.ia = H.ia) && decide (H.ig = H.ig)) = true by simp]
   refine H6 hs rfl (F5 rfl rfl) rfl ?_
   refine km_ hs ?_
   refine N5 hs rfl rfl rfl rfl qm_ rfl ?_
   refine N5 hs rfl rfl rfl rfl (F4 rfl) rfl ?_
   refine N5 hs rfl rfl rfl rfl (qf_ 0 0) rfl ?_
   refine W1 hs rfl rfl rfl rfl (by first | exact fun x hx => by rw [List.append_assoc]; exact List.mem_append_right _ hx | exact SubC.sub) hKs (F9 rfl kR (SubC.sub _ hTW) (by rfl)) rfl ?_
   refine W1 hs rfl rfl rfl rfl (by first | exact fun x hx => by rw [List.append_assoc]; exact List.mem_append_right _ hx | exact SubC.sub) hKs (H2 (n := 10) rfl kR (SubC.sub _ hB8) (by rfl)) rfl ?_
   refine A64 [] _ rfl rfl rfl rfl (List.Perm.refl _) (fun _ h => by cases h) fun w0 => (R6 (aS rfl (aS rfl a0)) kR (A3V pb s4 y w1 w2 w3 w4 w5 M128 _ hP128 (by intro z hz; simp [hz]) hbi2.ar (by omega) (gx1.mono SubC.sub) (gx2.mono SubC.sub) (gx3.mono SubC.sub) (gx4.mono SubC.sub) (gx5.mono SubC.sub) gws hG.up) rfl fun _ => ?_)
   dsimp only [List.nil_append, List.append_eq]
   rw [show (decide (y.key.length = 32) && A9O s4 y.ig (A4y y.signed y.key) y.sig) = true from hck3]
   refine H6 hs rfl (F5 rfl rfl) rfl ?_
   refine H6 hs rfl (G8 rfl) rfl ?_
   refine L4 (D7 6) (C2 ?_)
   exact ⟨_, [], [], I4 rfl rfl, List.nil_sublist _, by simp, rfl, rfl, rfl⟩
  ·
   have hy1 : y.has = true := by simpa using hb
   refine N5 hs rfl rfl rfl rfl (qf_ 5 5) rfl ?_
   refine W1 hs rfl rfl rfl rfl (by first | exact fun x hx => by rw [List.append_assoc]; exact List.mem_append_right _ hx | exact SubC.sub) hKs ql_ rfl ?_
   refine N5 hs rfl rfl rfl rfl (qf_ 8 8) rfl ?_
   refine W1 hs rfl rfl rfl rfl (by first | exact fun x hx => by rw [List.append_assoc]; exact List.mem_append_right _ hx | exact SubC.sub) hKs (F9 rfl kR (SubC.sub _ hB8) (by rfl)) rfl ?_
   refine N5 hs rfl rfl rfl rfl (G3 true rfl rfl (eqT (by rw [hyo2 hy1]))) rfl ?_
   refine N5 hs rfl rfl rfl rfl (E8 rfl rfl) rfl ?_
   refine H6 hs rfl (F5 rfl rfl) rfl ?_
   refine km_ hs ?_
   refine N5 hs rfl rfl rfl rfl (qf_ 3 3) rfl ?_
   refine W1 hs rfl rfl rfl rfl (by first | exact fun x hx => by rw [List.append_assoc]; exact List.mem_append_right _ hx | exact SubC.sub) hKs ql_ rfl ?_
   refine N5 hs rfl rfl rfl rfl (qf_ 4 4) rfl ?_
   refine W1 hs rfl rfl rfl rfl (by first | exact fun x hx => by rw [List.append_assoc]; exact List.mem_append_right _ hx | exact SubC.sub) hKs (F9 rfl kR (SubC.sub _ hB8) (by rfl)) rfl ?_
   refine N5 hs rfl rfl rfl rfl (G3 true rfl rfl (eqT (by rw [hyS]))) rfl ?_
   refine H6 hs rfl (F5 rfl rfl) rfl ?_
   refine km_ hs ?_
   refine N5 hs rfl rfl rfl rfl (qf_ 0 0) rfl ?_
   refine W1 hs rfl rfl rfl rfl (by first | exact fun x hx => by rw [List.append_assoc]; exact List.mem_append_right _ hx | exact SubC.sub) hKs (G7 (n := 2) rfl kR (by first | exact At.mem | exact mA (by assumption)) TakeC.take) rfl ?_
   refine W1 hs rfl rfl rfl rfl (by first | exact fun x hx => by rw [List.append_assoc]; exact List.mem_append_right _ hx | exact SubC.sub) hKs (qw_ 2) rfl ?_
   refine A64 [] _ rfl rfl rfl rfl (List.Perm.refl _) (fun _ h => by cases h) fun w0 => (R6 (aS rfl (aS rfl a0)) kR (B5H p r q1 q2 H.ia H.ig H.ia H.ig _ (hHe.ia.mono SubC.sub) ((hHe.ig.by hq2.len).mono SubC.sub) (hq1.mono SubC.sub) (hq2.mono SubC.sub)) rfl fun _ => ?_)
   dsimp only [List.nil_append, List.append_eq]
   rw [show (decide (H.ia = H.ia) && decide (H.ig = H.ig)) = true by simp]
   refine H6 hs rfl (F5 rfl rfl) rfl ?_
   refine km_ hs ?_
   refine N5 hs rfl rfl rfl rfl qm_ rfl ?_
   refine N5 hs rfl rfl rfl rfl (F4 rfl) rfl ?_
   refine N5 hs rfl rfl rfl rfl (qf_ 0 0) rfl ?_
   refine W1 hs rfl rfl rfl rfl (by first | exact fun x hx => by rw [List.append_assoc]; exact List.mem_append_right _ hx | exact SubC.sub) hKs (F9 rfl kR (SubC.sub _ hTW) (by rfl)) rfl ?_
   refine W1 hs rfl rfl rfl rfl (by first | exact fun x hx => by rw [List.append_assoc]; exact List.mem_append_right _ hx | exact SubC.sub) hKs (H2 (n := 10) rfl kR (SubC.sub _ hB8) (by rfl)) rfl ?_
   refine A64 [] _ rfl rfl rfl rfl (List.Perm.refl _) (fun _ h => by cases h) fun w0 => (R6 (aS rfl (aS rfl a0)) kR (A3V pb s4 y w1 w2 w3 w4 w5 M128 _ hP128 (by intro z hz; simp [hz]) hbi2.ar (by omega) (gx1.mono SubC.sub) (gx2.mono SubC.sub) (gx3.mono SubC.sub) (gx4.mono SubC.sub) (gx5.mono SubC.sub) gws hG.up) rfl fun _ => ?_)
   dsimp only [List.nil_append, List.append_eq]
   rw [show (decide (y.key.length = 32) && A9O s4 y.ig (A4y y.signed y.key) y.sig) = true from hck3]
   refine H6 hs rfl (F5 rfl rfl) rfl ?_
   refine H6 hs rfl (G8 rfl) rfl ?_
   refine L4 (D7 6) (C2 ?_)
   exact ⟨_, [], [], I4 rfl rfl, List.nil_sublist _, by simp, rfl, rfl, rfl⟩

section
variable {H : Type} {enc : TypeId × Value → H} {P : Program} {w : World} {spare : Nat → Bool} {held : Bool} {fuel : Nat} {t e : TypeId} {cs : List Value} {x : DataW H × List MemPlace} {v : Value} {d : DataW H} {p : List MemPlace} {r : Reach} {base : Nat} {k : IntKind}
end
theorem A5F {P : Program} {W : World} {name : String} {g : Nat} {cs : Array Value} (hg : P.globalNamed name = some g) (h : W.var? P name = some cs) : ∃ e fr, W.heap[g]? = some (.cells cs e fr) := by
  unfold World.var? at h
  rw [hg] at h
  simp only [Option.bind_some] at h
  split at h
  · rename_i c e fr hh
    cases h
    exact ⟨e, fr, hh⟩
  · cases h
def B2k (ws : List Nat) : List Int := ws.map fun n : Nat => (n : Int)
theorem A4F (k : IntKind) (ws : List Nat) : ((B2k ws).map fun z => Value.int k z).toArray = (nums k ws).toArray := by simp [B2k, nums]
theorem B7Z {W : World} {a b : String × DataW Unit} {rest : List (String × DataW Unit)} (h : laidMet Tryz.prog (a :: b :: ("internal/strconv.uint64pow10", Rows.laid_internal_strconv_uint64pow10) :: rest) W) : ∃ e fr, W.heap[2]? = some (Obj.cells (nums .u64 A0J).toArray e fr) := by
  have h' : laidMet Tryz.prog (("internal/strconv.uint64pow10", Lib.tabData .u64 (B2k A0J)) :: rest) W := h.tail.tail
  have h1 := Lib.tabIs_of_head (g := 2) (t := 305) (e := 143) (n := 20) (by kernel_rfl) (by kernel_rfl) (by kernel_rfl) (by kernel_rfl) (by kernel_rfl) (by kernel_rfl) h'
  obtain ⟨ek, fk, h3⟩ := A5F (g := 2) (by kernel_rfl) h1
  rw [A4F] at h3
  exact ⟨ek, fk, h3⟩
end Go.Proofs.YthbhpfefdnffaaaGreatDoor

namespace Go.Proofs.YthbhpfefdnffaaaGreatDoor
open Go.Px
theorem B9P {W : World} {a b : String × DataW Unit} {rest : List (String × DataW Unit)} (h : laidMet Tryz.prog (a :: b :: ("internal/strconv.uint64pow10", Rows.laid_internal_strconv_uint64pow10) :: ("pawl/sha.round", Rows.laid_pawl_sha_round) :: ("pawl/sha.first", Rows.laid_pawl_sha_first) :: rest) W) : Glb (B3b W) := by
  obtain ⟨e4, f4, h4⟩ := B7Z h
  have h' : laidMet Tryz.prog (("pawl/sha.round", Lib.tabData .u32 (B2k A1J)) :: ("pawl/sha.first", Lib.tabData .u32 (B2k A2u.list)) :: rest) W := h.tail.tail.tail
  have h1 := Lib.tabIs_of_head (g := 1) (t := 265) (e := 30) (n := 64) (by kernel_rfl) (by kernel_rfl) (by kernel_rfl) (by kernel_rfl) (by kernel_rfl) (by kernel_rfl) h'
  have h2 := Lib.tabIs_of_head (g := 0) (t := 222) (e := 30) (n := 8) (by kernel_rfl) (by kernel_rfl) (by kernel_rfl) (by kernel_rfl) (by kernel_rfl) (by kernel_rfl) h'.tail
  obtain ⟨ek, fk, h3⟩ := A5F (g := 1) (by kernel_rfl) h1
  obtain ⟨ef, ff, h5⟩ := A5F (g := 0) (by kernel_rfl) h2
  rw [A4F] at h3 h5
  exact ⟨⟨ef, ff, A1Y.2 h5⟩, ⟨ek, fk, A1Y.2 h3⟩, ⟨e4, f4, A1Y.2 h4⟩⟩
end Go.Proofs.YthbhpfefdnffaaaGreatDoor

namespace Go.Proofs.YthbhpfefdnffaaaGreatDoor.agreeGoes
open Go.ChangeShapes Go.WideShapes Go.ChangeAt Go.RowKit
theorem own : ownKnob Tryz.prog.godebug = none := by kernel_rfl
theorem laidOut : laidOutB Tryz.prog = true := by kernel_rfl
noncomputable def laidWorld (os : Os) : World := World.laidAll Tryz.prog os Rows.agreeGoesRow.laid
theorem laid_met (os : Os) : laidMetH Tryz.prog Rows.agreeGoesRow.laid ((laidWorld os).forCall (fun _ _ => 0) ⟨#[], #[.int .u8 0, .int .u8 0, .bool false], []⟩).memory := by
  rw [MakeChecks.laidMetH_plain _ _ _ (by kernel_rfl)]; exact laidMet_laidAll _ (by kernel_rfl) (by kernel_rfl)
theorem reads (os : Os) {H : Type} (enc : TypeId × Value → H) : ∃ places, DataW.whole enc Tryz.prog ((laidWorld os).forCall (fun _ _ => 0) ⟨#[], #[.int .u8 0, .int .u8 0, .bool false], []⟩).memory Tryz.f6.params.toList Rows.agreeGoesSpec.vars false (#[.int .u8 0, .int .u8 0, .bool false] : Array Value).toList 8 = some ([.lit (.int .u8 0), .lit (.int .u8 0), .lit (.bool false)], [], places) :=
  ⟨[], by kernel_rfl⟩
theorem lifted (os : Os) (started : os.Started) (H : Type) (enc : TypeId × Value → H) (F : Stop.Interp) :
    ReturnsInHanded {} Tryz.checked os 6 .any ((OpenSpec.ofChange Rows.agreeGoesSpec).preRow enc Tryz.prog Tryz.f6 Rows.agreeGoesRow.domain false Rows.agreeGoesRow.laid) (((OpenSpec.ofChange Rows.agreeGoesSpec).at F).post enc Tryz.prog Tryz.f6 false true false false) := by
  obtain ⟨places, hx⟩ := reads os enc
  refine returnsInHanded_of_row (C := Tryz.checked) (s := (OpenSpec.ofChange Rows.agreeGoesSpec)) own started (by kernel_rfl) Tryz.func6
    (witness_row_at (enc := enc) (C := Tryz.checked) false (laidWorld os) #[.int .u8 0, .int .u8 0, .bool false] (World.laidAll_os _ _ _) (by kernel_rfl) (by kernel_rfl) (by kernel_rfl)
      (OpenSpec.preRow_of_cond 8 hx (by kernel_rfl) (fun k hk => by cases hk) (by kernel_rfl) (laid_met os))) ?_
  intro W base args ds gs before hval0 hW _ _ _ hL _ _
  have hval : ∀ (j : Nat) t v, Tryz.f6.params[j]? = some t → args[j]? = some v → Value.okWide Tryz.prog W .any base t v := hval0
  have hW' := hW
  obtain ⟨p, q, hA0, hV, rfl, hfz, hnd⟩ := hW
  have hA : DataW.TrodAll enc Tryz.prog W 0 (fun _ => true) true Tryz.f6.params.toList args.toList ds p := hA0
  rw [Tryz.params6] at hA hval
  obtain ⟨v0, vs0, d0, ds0, p0, q0, hargs, rfl, rfl, k0, r0_⟩ := trodAll_cons hA
  obtain ⟨v1, vs1, d1, ds1, p1, q1, rfl, rfl, rfl, k1, r1_⟩ := trodAll_cons r0_
  obtain ⟨v2, vs2, d2, ds2, p2, q2, rfl, rfl, rfl, k2, r2_⟩ := trodAll_cons r1_
  obtain ⟨rfl, rfl, rfl⟩ := trodAll_nil r2_
  obtain rfl : args = #[v0, v1, v2] := by cases args; simp_all
  obtain ⟨rfl, rfl⟩ := trodVars_none hV
  have lt0 : ∀ x ∈ p0, x.block < W.heap.size := by obtain ⟨m, hm⟩ := k0; exact DataW.trod_lt m _ _ _ hm
  have lt1 : ∀ x ∈ p1, x.block < W.heap.size := by obtain ⟨m, hm⟩ := k1; exact DataW.trod_lt m _ _ _ hm
  have lt2 : ∀ x ∈ p2, x.block < W.heap.size := by obtain ⟨m, hm⟩ := k2; exact DataW.trod_lt m _ _ _ hm
  obtain ⟨x0, rfl, hx0⟩ := Px.inU Tryz.underlying5 rfl (hval 0 5 v0 rfl rfl) k0
  obtain ⟨x1, rfl, hx1⟩ := Px.inU Tryz.underlying5 rfl (hval 1 5 v1 rfl rfl) k1
  obtain ⟨x2, rfl⟩ := Px.inB Tryz.underlying4 (hval 2 4 v2 rfl rfl)
  clear hA0 hval0
  rw [MakeChecks.laidMetH_plain _ _ _ (by kernel_rfl)] at hL
  have hG := B9P hL
  refine Calls.mono ((A7N x0 x1 x2 _ hx0 hx1 hG).calls (Px.heapA_fx W)) fun e W' ⟨he, bel⟩ => ?_
  subst he
  exact ⟨_, rfl, _, _, _, [], _, [], hW', trodAll_mk1 (shut_bool Tryz.underlying4 _), (trodAll_cons_mk (Below.trod laidOut (by kernel_rfl) (of_decide_eq_true (by kernel_rfl)) k0 bel lt0) (trodAll_cons_mk (Below.trod laidOut (by kernel_rfl) (of_decide_eq_true (by kernel_rfl)) k1 bel lt1) (trodAll_cons_mk (Below.trod laidOut (by kernel_rfl) (of_decide_eq_true (by kernel_rfl)) k2 bel lt2) trodAll_mk0))), rfl, bel.frame _, fun h => by cases h⟩
theorem said : Rows.AgreeGoesSaid :=
  OpenClaim.holds_of_cond 6 Tryz.f6 rfl rfl rfl rfl rfl rfl rfl ⟨rfl, rfl, rfl, rfl, rfl⟩ rfl rfl rfl rfl rfl (by kernel_rfl) Tryz.func6 (by kernel_rfl)
    (of_decide_eq_true (by kernel_rfl)) (by unfold Func.isWrapper; first | (rw [if_pos (by decide +kernel)]; kernel_rfl) | (rw [if_neg (by decide +kernel)]; exact ⟨rfl, rfl⟩))
    (fun os started H enc _ F => by rw [OpenClaim.pre_eq_preRow]; exact lifted os started H enc F)
theorem plain (f : FuncId) (fn : Func) (hf : Tryz.pinned.checked.prog.funcNamed "pawl/pawllaw13.AgreeGoes" = some f) (hfn : Tryz.pinned.checked.prog.funcs[f]? = some fn) :
    true = Tryz.pinned.checked.prog.looks [] ∧ ∀ (j : Nat) t, fn.params[j]? = some t → Tryz.pinned.checked.prog.wantsStandIn t = false := by
  obtain rfl : f = 6 := Option.some.inj ((show Tryz.prog.funcNamed "pawl/pawllaw13.AgreeGoes" = some 6 by kernel_rfl).symm.trans hf) |>.symm
  obtain rfl : fn = Tryz.f6 := (Option.some.inj (Tryz.func6.symm.trans hfn)).symm
  refine ⟨by kernel_rfl, fun j t ht => ?_⟩
  rw [Tryz.params6] at ht
  have hm := Array.mem_of_getElem? ht
  simp only [List.mem_toArray, List.mem_cons, List.not_mem_nil, or_false] at hm
  rcases hm with rfl | rfl | rfl
  · exact (show Tryz.prog.wantsStandIn 5 = false by kernel_rfl)
  · exact (show Tryz.prog.wantsStandIn 5 = false by kernel_rfl)
  · exact (show Tryz.prog.wantsStandIn 4 = false by kernel_rfl)
theorem proved : Rows.AgreeGoesCardSaid :=
  Claim7.holds_tied_plain_at .later [] _ _ _ _ said (fun _ h => by cases h) (by kernel_rfl) (fun _ h => by cases h) agreeGoes_row_tie rfl ⟨rfl, rfl⟩ (by kernel_rfl) rfl plain (by kernel_rfl)
#print axioms proved
end Go.Proofs.YthbhpfefdnffaaaGreatDoor.agreeGoes

