/- The card of the law AgreeOthers: it returns true for every input; each argument reads behind the call as it read before; the listed package variables are tied to the program's text. No further condition. -/
import Derived.Test.YthbhpfefdnffaaaGreatDoorB19
import Derived.Lib.LaidTab
import Derived.Stop.LaidErr
import Derived.MakeChecks
import Derived.Test.YthbhpfefdnffaaaGreatDoorCards
import Derived.Test.YthbhpfefdnffaaaGreatDoorTie
import Derived.Deep.DeepHandedRow
import Derived.Deep.DeepWitnessRowRef
import Derived.Lay
import Derived.LaidMore
set_option linter.unusedVariables false
set_option linter.unusedSimpArgs false
set_option maxRecDepth 100000
namespace Go.Proofs.YthbhpfefdnffaaaGreatDoor
open Go.Px
def sdA : List Nat := [97, 103, 114, 101, 101]
noncomputable def keyA (i : Nat) : List Nat := A1w (A1w [] sdA) (([107, 101, 121] ++ B2X i) ++ [1])
def tabA : List (Nat × Nat × Nat) := [(1, 56722311458232289444196767794320634234435979443916237146261142897005524588059, 18604504845630933696578929165391706614587660968349122345232695995604200600286), (8, 73225103137493260016673490345147484683891729122439976747753874440939068852373, 56971221283058880868664871319779091216898354412400481136237592932457769930677), (10, 115293218532529378827916250761532590476792242174949885352625456389103768704591, 51751602291729706956845583875837815115092016562555736050949961279202307548967), (11, 76761489642389892954777366007343235379422772616754323149087340322539488178839, 48147685611634092866982342842054235619488526660518053080586528919582192059053), (12, 29472437034682436986451586228267745964860528531455759154477957459076614928862, 54737045156992024094622853451422198075637536356144102658426857480557927175986), (13, 46770917818140737638682400233945784757991979659151426204677533817332989598273, 31399170323323291119175755079760078507620100661338027812705919354776962170720), (14, 115741422183009787238364909492970274665844619994899721161794685940931238109629, 19287779464644006170591719397038607713897824275427765842443456045570874266403), (15, 17640984890409245988036262756745853969857007960838437220795181880810095152906, 38748618576221799329345267297762138061535840633903841880451214950358937255910), (16, 15363714764261551297916475217064871201192038788617657590087469398075103860816, 44229856883042295849009422961831972629096587084214752572476883949409838906879), (17, 77881824254768964280169149206301195321014904464426864370560485982019469631666, 45117214538519511045877422887806090061678428886723981591737139238557738486152), (18, 38325721016791334288617549234923961528312048316323001789189367465456812708137, 37050185130057238316115734401519276520356870923024167658775245576878988816724), (19, 39744653679345544188785324210731071709877702520900036459588884012328342800017, 37243385556540296028579363437349009555608084005176758655358309799638389944120), (20, 101582826945529394574252429928121696265559105270720410083205164171994529187160, 6192040477177201051678558193156281784100737791330044209506117399192985833202), (21, 48889610994267262634379468326262604790418705278942539636859896278207429987833, 41894602930745253161787258797180228037594401197473591232155640740139166787041), (22, 53966244732401377240361229775376548111193644799463803960162962246429958271868, 285327023672764135998718976678330425396261889435975701331368211637741431116)]
def tabX : List ((Nat × Nat) × Nat) := [((1, 10), 22129505577081986445497652078088881068068467984419031591611772444125268885060), ((15, 8), 56217226795182780192928115245663432130353097157661931063098097215843973028542), ((15, 10), 15975679222785200221263729086527118723398536420247193622488371327602605575242), ((15, 11), 10167401098688060825038807086114117277524867915452127471911190248736445175830), ((15, 12), 13912086762350253140775586441023007109812338222087726489607903761099018318565), ((15, 13), 36960290741124525289611799982713978432662233248126462921857067736862054391409), ((15, 14), 40777321945749747076610488949377663642294492913436683368533553355633767177317), ((16, 8), 42683190940001936647975608151003296491180103744128336413016402182890834489742), ((16, 10), 27373210145593413787901891243882821656163730098821450031188647354310006619502), ((16, 11), 22699058059544731630085102129252567086567115419666269422292913092648426515880), ((16, 12), 18995831065048608945888522500219380634938233639928812284175539421934801063880), ((16, 13), 14746566351115783084233580851106200802208930664617133996458162554408497066499), ((16, 14), 34375069081644338970864143696454038617776240520136099314876929973568181057171), ((17, 8), 11223402392833070292460084976350042866867467277544717611728496519878888259414), ((17, 10), 31953553816843935386847315910879862846241907908311169139009695099395989236080), ((17, 11), 56829488678091583101838842885195590961713549475761898692317716881602627766306), ((17, 12), 55321721456903639646025041297423141366129261931443971829361096157513766156228), ((17, 13), 20595970549420527343730909770558384642205336866371553724561723276529936938751), ((17, 14), 48289826730569343079222755354830675092883146911079575006062206785525903134761), ((18, 1), 51028519937530348799347610714490038027804371484256623696033849551790883515169), ((10, 1), 22129505577081986445497652078088881068068467984419031591611772444125268885060), ((16, 15), 57146549245091826934792598200782714548530410986309783810426994079497668330923), ((18, 15), 55604432393778260409247109732302689171455710309298985168003552263636682197001), ((19, 15), 27426919388232014371701738444046061391309632700302369487421560607213281930573), ((20, 15), 36714765713218354673983985989900390389483816354394515660084017802773339661640), ((21, 15), 2248562519341071712786061973629416739645734348748333385834888973287899809126), ((22, 15), 50706720525616759608259597374959922958924669406583398555584548094923007700290), ((8, 16), 42683190940001936647975608151003296491180103744128336413016402182890834489742), ((10, 16), 27373210145593413787901891243882821656163730098821450031188647354310006619502), ((11, 16), 22699058059544731630085102129252567086567115419666269422292913092648426515880), ((12, 16), 18995831065048608945888522500219380634938233639928812284175539421934801063880), ((13, 16), 14746566351115783084233580851106200802208930664617133996458162554408497066499), ((14, 16), 34375069081644338970864143696454038617776240520136099314876929973568181057171), ((8, 15), 56217226795182780192928115245663432130353097157661931063098097215843973028542), ((10, 15), 15975679222785200221263729086527118723398536420247193622488371327602605575242), ((11, 15), 10167401098688060825038807086114117277524867915452127471911190248736445175830), ((12, 15), 13912086762350253140775586441023007109812338222087726489607903761099018318565), ((13, 15), 36960290741124525289611799982713978432662233248126462921857067736862054391409), ((14, 15), 40777321945749747076610488949377663642294492913436683368533553355633767177317)]
def kyA (i : Nat) : Nat × Nat := (tabA.lookup i).getD (0, 0)
def xA (a b : Nat) : Nat := (tabX.lookup (a, b)).getD 0
noncomputable def okK (x : Nat × Nat × Nat) : Bool := decide (keyA x.1 = T0 x.2.1 32) && dhF (T0 x.2.1 32) 9 x.2.2
noncomputable def okX (x : (Nat × Nat) × Nat) : Bool := dhF (T0 (kyA x.1.1).1 32) (kyA x.1.2).2 x.2
theorem B7J : tabA.all okK = true := by decide +kernel
theorem B7K : tabX.all okX = true := by decide +kernel
theorem A5z {α β : Type} [BEq α] [LawfulBEq α] {a : α} {v : β} : ∀ {l : List (α × β)}, l.lookup a = some v → (a, v) ∈ l
  | [], h => by cases h
  | (b, w) :: l, h => by
    rw [List.lookup_cons] at h
    split at h
    · rename_i e
      rw [eq_of_beq e]
      cases h
      exact List.mem_cons_self
    · exact List.mem_cons_of_mem _ (A5z h)
noncomputable def pbA (i : Nat) : List Nat := V3 (P6 (Y0 sdA i) 32)
def inA (q : Nat × Nat) : Bool := (tabX.lookup q).isSome && ((tabA.lookup q.1).isSome && (tabA.lookup q.2).isSome)
theorem B2a {i : Nat} (h : (tabA.lookup i).isSome = true) : Y0 sdA i = T0 (kyA i).1 32 ∧ pbA i = T0 (kyA i).2 32 ∧ rdN (P6 (pbA i) 32) = (kyA i).2 := by
  obtain ⟨⟨k, B⟩, hk⟩ := Option.isSome_iff_exists.1 h
  have h1 := List.all_eq_true.1 B7J _ (A5z hk)
  unfold okK at h1
  rw [Bool.and_eq_true] at h1
  have h2 : Y0 sdA i = T0 k 32 := by rw [B7w]; exact of_decide_eq_true h1.1
  have e : kyA i = (k, B) := by unfold kyA; rw [hk]; rfl
  have e2 : ∀ x, P6 (T0 x 32) 32 = T0 x 32 := fun x => by unfold P6; rw [List.take_of_length_le (by rw [K7]; decide), K7]; simp
  obtain ⟨h3, h4⟩ := B5B h1.2
  have h5 : pbA i = T0 B 32 := by unfold pbA V3; rw [h2, e2]; exact h3 _ (by decide +kernel)
  rw [e, h5, e2]
  exact ⟨h2, rfl, h4⟩
theorem C0Q {q : Nat × Nat} (h : inA q = true) : x25 (P6 (Y0 sdA q.1) 32) (P6 (pbA q.2) 32) = T0 (xA q.1 q.2) 32 := by
  unfold inA at h
  rw [Bool.and_eq_true, Bool.and_eq_true] at h
  obtain ⟨h0, h1, h2⟩ := h
  obtain ⟨v, hv⟩ := Option.isSome_iff_exists.1 h0
  have h3 := List.all_eq_true.1 B7K _ (A5z hv)
  have e : xA q.1 q.2 = v := by unfold xA; rw [hv]; rfl
  have e2 : ∀ x, P6 (T0 x 32) 32 = T0 x 32 := fun x => by unfold P6; rw [List.take_of_length_le (by rw [K7]; decide), K7]; simp
  obtain ⟨k1, -, -⟩ := B2a h1
  obtain ⟨-, -, k3⟩ := B2a h2
  rw [k1, e2, e]
  exact (B5B h3).1 _ k3
noncomputable def seA (l : List (Nat × Nat)) : List Nat := A1w (A1w (P6 z32 32) (A6L (l.map fun q => T0 (xA q.1 q.2) 32))) (A0c ++ [1])
theorem A8S {s : Ps} (hr : s.real = true) (l : List (Nat × Nat)) : seK s (l.map fun q => T0 (xA q.1 q.2) 32) = seA l := by
  unfold seK A8d seA
  rw [if_pos hr]
  have e : B2f z32 (l.map fun q => T0 (xA q.1 q.2) 32) A0c 1 = A1w (A1w (P6 z32 32) (A6L (l.map fun q => T0 (xA q.1 q.2) 32))) (A0c ++ [1]) := by
    unfold B2f
    rw [← A2W]
    exact A8A _ _
  rw [e]
  have hl : (A1w (A1w (P6 z32 32) (A6L (l.map fun q => T0 (xA q.1 q.2) 32))) (A0c ++ [1])).length = 32 := by rw [A2W]; exact A0Z _
  generalize A1w (A1w (P6 z32 32) (A6L (l.map fun q => T0 (xA q.1 q.2) 32))) (A0c ++ [1]) = w at *
  show (w.take 32).drop 0 = w
  rw [List.drop_zero, List.take_of_length_le (by omega)]
theorem A5A : ∀ (l : List (Nat × Nat)) {s : Ps}, s.real = true → (∀ q ∈ l, inA q = true) → agK s (l.map fun q => (Y0 sdA q.1, pbA q.2)) = l.map (fun q => T0 (xA q.1 q.2) 32) ∧ (agS s (l.map fun q => (Y0 sdA q.1, pbA q.2))).real = true
  | [], s, h, _ => ⟨rfl, h⟩
  | q :: l, s, h, hq => by
    have h1 : (L3 s (Y0 sdA q.1) (pbA q.2)).real = true := (B1D s _ _).p.real.trans h
    obtain ⟨i1, i2⟩ := A5A l h1 fun z hz => hq z (by simp [hz])
    refine ⟨?_, i2⟩
    show A2i s _ _ :: agK (L3 s _ _) _ = _
    rw [i1, List.map_cons]
    congr 1
    unfold A2i
    rw [if_pos h]
    exact C0Q (hq q (by simp))
theorem B7L {k : Ks} {y : Bn} {s : Ps} {o : Nat} (hr : s.real = true) (hs : s.seed = sdA) (h1 : k.agree = Y0 sdA 1) (h2 : y.key = pbA 10) (h3 : y.ia = pbA 8) (h4 : y.has = true → y.oncek = pbA o) (hi : ∀ q ∈ (1, 10) :: (s.n + 1, 8) :: (s.n + 1, 10) :: (if y.has then [(s.n + 1, o)] else []), inA q = true) :
    stK k y s = seA ((1, 10) :: (s.n + 1, 8) :: (s.n + 1, 10) :: if y.has then [(s.n + 1, o)] else []) := by
  have e : stP k.agree (D6 s) y = ((1, 10) :: (s.n + 1, 8) :: (s.n + 1, 10) :: if y.has then [(s.n + 1, o)] else []).map fun q => (Y0 sdA q.1, pbA q.2) := by
    unfold stP
    rw [h1, h2, h3, A1P hr, hs]
    cases hh : y.has with
    | false => rfl
    | true => rw [h4 hh]; rfl
  have hf : (D3 s).real = true := (W6 s).p.real.trans hr
  obtain ⟨g1, g2⟩ := A5A _ hf hi
  rw [← e] at g1 g2
  have hI : (stI k y s).real = true := by
    unfold stI
    rw [(A0m _ _).p.real]
    unfold idS
    rw [(A0m _ _).p.real, (A0m _ _).p.real]
    exact g2
  show seK (stI k y s) (agK (D3 s) (stP k.agree (D6 s) y)) = _
  rw [g1]
  exact A8S hI _
def RA (n : Nat) : Ps := ⟨true, sdA, n, []⟩
theorem rFS (n : Nat) : D3 (RA n) = RA (n + 1) := rfl
theorem rFK (n : Nat) : D6 (RA n) = Y0 sdA (n + 1) := A1P rfl
theorem rPS (n : Nat) (w : List Nat) : H6 (RA n) w = RA n := rfl
theorem rPK (n : Nat) (w : List Nat) : K9 (RA n) w = V3 (P6 w 32) := if_pos rfl
structure NwR (n : Nat) (k : Ks) : Prop where
  agree : k.agree = Y0 sdA (n + 1)
  sg : ∃ g, k.signed = [⟨1, Y0 sdA (n + 3), g⟩]
  once : k.once = [⟨2, Y0 sdA (n + 4), []⟩, ⟨3, Y0 sdA (n + 5), []⟩, ⟨4, Y0 sdA (n + 6), []⟩, ⟨5, Y0 sdA (n + 7), []⟩]
theorem A5B (u d : Int) (n : Nat) : NwR n (A2x u d (RA n)).1 ∧ (A2x u d (RA n)).2 = RA (n + 7) := by
  have e : (V6 (k0N u d (RA n)) (D3 (D3 (RA n)))).2 = RA (n + 3) := rfl
  have e0 : (V6 (k0N u d (RA n)) (D3 (D3 (RA n)))).1.agree = Y0 sdA (n + 1) := rFK n
  have e1 : (V6 (k0N u d (RA n)) (D3 (D3 (RA n)))).1.signed = [turnP (k0N u d (RA n)) (RA (n + 2))] := rfl
  have e2 : (turnP (k0N u d (RA n)) (RA (n + 2))).sec = Y0 sdA (n + 3) := rFK (n + 2)
  have e3 : (V6 (k0N u d (RA n)) (D3 (D3 (RA n)))).1.once = [] := rfl
  have e4 : (V6 (k0N u d (RA n)) (D3 (D3 (RA n)))).1.next = 2 := rfl
  have e5 : turnP (k0N u d (RA n)) (RA (n + 2)) = ⟨1, (turnP (k0N u d (RA n)) (RA (n + 2))).sec, (turnP (k0N u d (RA n)) (RA (n + 2))).sig⟩ := rfl
  unfold A2x A1z
  rw [e, e3]
  generalize (V6 (k0N u d (RA n)) (D3 (D3 (RA n)))).1 = k at *
  show NwR n (fillI k (RA (n + 3)) 4).1 ∧ (fillI k (RA (n + 3)) 4).2 = _
  simp only [fillI, rFS, rFK, e3, e4, List.nil_append, List.cons_append]
  exact ⟨⟨e0, ⟨_, by rw [e1, e5, e2]⟩, rfl⟩, trivial⟩
theorem B4u {k : Ks} {n s0 : Nat} (h : NwR n k) : (I1 k (RA s0)).2 = RA s0 ∧ ∀ j < 5, ∀ y, (I1 k (RA s0)).1[j]? = some y → y.key = pbA (n + 3) ∧ y.ia = pbA (n + 1) ∧ y.has = Nat.blt 0 j ∧ (y.has = true → y.oncek = pbA (n + 3 + j)) ∧ y.signed = 1 ∧ (y.has = true → y.once = j + 1) := by
  obtain ⟨h1, ⟨g, h2⟩, h3⟩ := h
  have e : I1 k (RA s0) = A0p (A5u k ⟨1, Y0 sdA (n + 3), g⟩ (RA s0)) k.once (H6 (idS k (RA s0)) (Y0 sdA (n + 3))) k.once.length := by unfold I1; rw [h2]
  have e1 : (A5u k ⟨1, Y0 sdA (n + 3), g⟩ (RA s0)).key = pbA (n + 3) := rPK s0 _
  have e2 : (A5u k ⟨1, Y0 sdA (n + 3), g⟩ (RA s0)).ia = pbA (n + 1) := by show K9 (RA s0) k.agree = _; rw [h1]; exact rPK s0 _
  have e3 : (A5u k ⟨1, Y0 sdA (n + 3), g⟩ (RA s0)).has = false := rfl
  have e4 : (A5u k ⟨1, Y0 sdA (n + 3), g⟩ (RA s0)).signed = 1 := rfl
  rw [e, h3, show H6 (idS k (RA s0)) (Y0 sdA (n + 3)) = RA s0 from rfl]
  generalize A5u k ⟨1, Y0 sdA (n + 3), g⟩ (RA s0) = b at *
  show (A0p b _ (RA s0) 4).2 = _ ∧ ∀ j < 5, ∀ y, (A0p b _ (RA s0) 4).1[j]? = some y → _
  simp only [A0p, List.getElem?_cons_zero, List.getElem?_cons_succ, rPS, rPK, List.cons_append, List.nil_append]
  refine ⟨trivial, fun j hj y hy => ?_⟩
  match j, hj with
  | 0, _ => cases hy; exact ⟨e1, e2, e3, fun h => (by rw [e3] at h; cases h), e4, fun h => (by rw [e3] at h; cases h)⟩
  | 1, _ => cases hy; exact ⟨e1, e2, rfl, fun _ => rfl, e4, fun _ => rfl⟩
  | 2, _ => cases hy; exact ⟨e1, e2, rfl, fun _ => rfl, e4, fun _ => rfl⟩
  | 3, _ => cases hy; exact ⟨e1, e2, rfl, fun _ => rfl, e4, fun _ => rfl⟩
  | 4, _ => cases hy; exact ⟨e1, e2, rfl, fun _ => rfl, e4, fun _ => rfl⟩
  | j + 5, h => omega
theorem A7J : NwR 0 (oA 0).1 ∧ (oA 0).2 = RA 7 := A5B 0 1 0
theorem A2l : NwR 7 (oB 0).1 ∧ (oB 0).2 = RA 14 := by
  unfold oB
  rw [A7J.2]
  exact A5B 1 1 7
theorem A3R : (I1 (oB 0).1 (oB 0).2).2 = RA 14 ∧ ∀ j < 5, ∀ y, (I1 (oB 0).1 (oB 0).2).1[j]? = some y → y.key = pbA 10 ∧ y.ia = pbA 8 ∧ y.has = Nat.blt 0 j ∧ (y.has = true → y.oncek = pbA (10 + j)) ∧ y.signed = 1 ∧ (y.has = true → y.once = j + 1) := by
  rw [A2l.2]
  exact B4u A2l.1

noncomputable def A16 (m j : Nat) : Bn := (I1 (oB m).1 (oB m).2).1.getD j ⟨0, 0, [], [], 0, [], [], false, 0, []⟩
noncomputable def goS (m : Nat) (tn : Bool) : Ps := if tn then (V6 (oB m).1 (I1 (oB m).1 (oB m).2).2).2 else (I1 (oB m).1 (oB m).2).2
theorem B5C (m : Nat) : oA m = oA (m % 2) := by unfold oA ag0; rw [Nat.mod_mod]
theorem B5D (m : Nat) : oB m = oB (m % 2) := by unfold oB; rw [B5C m]
theorem B7M (m j : Nat) : A16 m j = A16 (m % 2) j := by unfold A16; rw [B5D m]
def lsA (e j : Nat) : List (Nat × Nat) := (1, 10) :: (e, 8) :: (e, 10) :: if Nat.blt 0 j then [(e, 10 + j)] else []
theorem B9x : ((List.range 5).all fun j => [15, 16, 17].all fun e => (lsA e j).all inA) = true := by decide +kernel
theorem B5E {j : Nat} (hj : j < 5) : (I1 (oB 0).1 (oB 0).2).1[j]? = some (A16 0 j) := by
  obtain ⟨g, hg⟩ := A2l.1.sg
  have h := (A09 (s := (oB 0).2) hg).1
  rw [A2l.1.once] at h
  unfold A16
  rw [List.getD_eq_getElem?_getD, List.getElem?_eq_getElem (by rw [h]; exact hj)]
  rfl
theorem B9y {j : Nat} {s : Ps} (hj : j < 5) (hr : s.real = true) (hs : s.seed = sdA) (hn : s.n + 1 ∈ [15, 16, 17]) : stK (oA 0).1 (A16 0 j) s = seA (lsA (s.n + 1) j) := by
  obtain ⟨h1, h2, h3, h4, -, -⟩ := A3R.2 j hj _ (B5E hj)
  have hi := List.all_eq_true.1 (List.all_eq_true.1 (List.all_eq_true.1 B9x j (List.mem_range.2 hj)) _ hn)
  unfold lsA at hi ⊢
  rw [← h3] at hi ⊢
  exact B7L hr hs A7J.1.agree h1 h2 h4 hi
def heK (h : He) (k : List Nat) : He := ⟨h.ia, h.ig, k, h.signed, h.has, h.once⟩
def heI (h : He) (a : List Nat) : He := ⟨a, h.ig, h.key, h.signed, h.has, h.once⟩
noncomputable def otK (m : Nat) (y : Bn) : List Nat := stK (oA m).1 y (I1 (oB m).1 (oB m).2).2
noncomputable def otS (m : Nat) (y : Bn) : Ps := stS (oA m).1 y (I1 (oB m).1 (oB m).2).2
noncomputable def otH (m : Nat) (y : Bn) : He := stH (oA m).1 y (I1 (oB m).1 (oB m).2).2
noncomputable def ot0 (m : Nat) (y : Bn) : Option (List Nat × List Nat) := (anR (A2x 2 1 (otS m y)).1 (otH m y) (A2x 2 1 (otS m y)).2).1
noncomputable def ot1 (m : Nat) (y : Bn) : Option (List Nat × List Nat) := (anR (oB m).1 (heK (otH m y) (K9 (D3 (otS m y)) (D6 (otS m y)))) (H6 (D3 (otS m y)) (D6 (otS m y)))).1
noncomputable def ot2 (m : Nat) (y : Bn) : Option (List Nat × List Nat) := (anR (oB m).1 (heI (otH m y) (K9 (D3 (otS m y)) (D6 (otS m y)))) (H6 (D3 (otS m y)) (D6 (otS m y)))).1
def apa (k : List Nat) : Option (List Nat × List Nat) → Bool
  | none => false
  | some q => !decide (k = q.1)
theorem B2b {k : List Nat} {o : Option (List Nat × List Nat)} (h : apa k o = true) : ∃ q, o = some q ∧ k ≠ q.1 := by
  cases o with
  | none => cases h
  | some q => exact ⟨q, rfl, by simpa [apa] using h⟩
theorem B2c : ∀ (l : List (List Nat × List Nat)) (n : Nat), agS (RA n) l = RA n
  | [], _ => rfl
  | _ :: l, n => B2c l n
theorem B2d (a : List Nat) (y : Bn) (n : Nat) : stA a y (RA n) = RA (n + 1) := by unfold stA; rw [rFS, B2c]
theorem B9z (k : Ks) (y : Bn) (n : Nat) : stS k y (RA n) = RA (n + 1) := by
  unfold stS seS stI idS
  rw [B2d]
  rfl
theorem B9A (k : Ks) (y : Bn) (n : Nat) : (stH k y (RA n)).ia = V3 (P6 k.agree 32) ∧ (stH k y (RA n)).key = pbA (n + 1) := by
  constructor
  · show idA k (stA k.agree y (RA n)) = _
    rw [B2d]
    exact rPK _ _
  · show K9 (idS k (stA k.agree y (RA n))) (D6 (RA n)) = _
    rw [B2d, rFK]
    exact rPK _ _
theorem C0R (k : Ks) (y : Bn) (s : Ps) : (stH k y s).signed = y.signed ∧ (stH k y s).has = y.has ∧ (y.has = true → (stH k y s).once = y.once) := ⟨rfl, rfl, fun h => if_pos h⟩
theorem C0S (n : Nat) : K9 (D3 (RA n)) (D6 (RA n)) = pbA (n + 1) ∧ H6 (D3 (RA n)) (D6 (RA n)) = RA (n + 1) := ⟨by rw [rFS, rFK]; exact rPK _ _, rfl⟩
def lsB (n a e j : Nat) : List (Nat × Nat) := (n + 3, a) :: (n + 1, e) :: (n + 3, e) :: if Nat.blt 0 j then [(n + 3 + j, e)] else []
theorem nd {p : Prop} [Decidable p] (h : (!decide p) = true) : ¬ p := by simpa using h
theorem B7N {n s j a e : Nat} {k : Ks} {h : He} (hk : NwR n k) (hj : j < 5) (h1 : h.signed = 1) (h2 : h.has = Nat.blt 0 j) (h3 : h.has = true → h.once = j + 1) (h4 : h.ia = pbA a) (h5 : h.key = pbA e) (hi : ∀ q ∈ lsB n a e j, inA q = true) :
    (anR k h (RA s)).1 = some (seA (lsB n a e j), Y0 sdA (n + 3)) := by
  unfold lsB at hi ⊢
  obtain ⟨ha, ⟨g, hg⟩, ho⟩ := hk
  have hs : A15 k.signed h.signed = some (Y0 sdA (n + 3)) := by rw [hg, h1]; exact A3P (x := ⟨1, Y0 sdA (n + 3), g⟩)
  have fin : ∀ ox, anP k.agree (Y0 sdA (n + 3)) ox h = ((n + 3, a) :: (n + 1, e) :: (n + 3, e) :: (if Nat.blt 0 j then [(n + 3 + j, e)] else [])).map (fun q => (Y0 sdA q.1, pbA q.2)) → (anE k.agree (Y0 sdA (n + 3)) ox h (RA s)).1 = some (seA ((n + 3, a) :: (n + 1, e) :: (n + 3, e) :: if Nat.blt 0 j then [(n + 3 + j, e)] else []), Y0 sdA (n + 3)) := fun ox e0 => by
    obtain ⟨g1, -⟩ := A5A _ (s := RA s) rfl hi
    unfold anE
    rw [e0, B2c, g1, A8S rfl]
  cases j with
  | zero =>
    rw [A5y hs h2]
    refine fin none ?_
    unfold anP
    rw [h4, h5, ha, if_neg (by decide)]
    simp only [List.map_cons, List.map_nil]
  | succ j =>
    have hh : h.has = true := h2
    have hget : A15 k.once h.once = some (Y0 sdA (n + 3 + (j + 1))) := by
      rw [ho, h3 hh]
      rcases j with _ | _ | _ | _ | j
      · rfl
      · rfl
      · rfl
      · rfl
      · omega
    rw [A7I hs hh hget]
    refine fin _ ?_
    unfold anP
    rw [h4, h5, ha, if_pos (show Nat.blt 0 (j + 1) = true from rfl)]
    simp only [List.map_cons, List.map_nil]
theorem B9B : ((List.range 5).all fun j => [(15, 1, 15), (7, 1, 16), (7, 16, 15)].all fun z => (lsB z.1 z.2.1 z.2.2 j).all inA && !decide (seA (lsA 15 j) = seA (lsB z.1 z.2.1 z.2.2 j))) = true := by kernel_rfl
theorem C0T : ((List.range 5).all fun j => apa (otK 1 (A16 1 j)) (ot0 1 (A16 1 j)) && apa (otK 1 (A16 1 j)) (ot1 1 (A16 1 j)) && apa (otK 1 (A16 1 j)) (ot2 1 (A16 1 j))) = true := by decide +kernel
theorem C0U {j : Nat} (hj : j < 5) : (∃ q, ot0 0 (A16 0 j) = some q ∧ otK 0 (A16 0 j) ≠ q.1) ∧ (∃ q, ot1 0 (A16 0 j) = some q ∧ otK 0 (A16 0 j) ≠ q.1) ∧ ∃ q, ot2 0 (A16 0 j) = some q ∧ otK 0 (A16 0 j) ≠ q.1 := by
  obtain ⟨h1, h2, h3, h4, h5, h6⟩ := A3R.2 j hj _ (B5E hj)
  have hS : otS 0 (A16 0 j) = RA 15 := by unfold otS; rw [A3R.1]; exact B9z _ _ _
  have hK : otK 0 (A16 0 j) = seA (lsA 15 j) := by unfold otK; rw [A3R.1]; exact B9y hj rfl rfl (by decide)
  have hH : otH 0 (A16 0 j) = stH (oA 0).1 (A16 0 j) (RA 14) := by unfold otH; rw [A3R.1]
  obtain ⟨i1, i2⟩ := B9A (oA 0).1 (A16 0 j) 14
  obtain ⟨i3, i4, i5⟩ := C0R (oA 0).1 (A16 0 j) (RA 14)
  rw [← hH] at i1 i2 i3 i4 i5
  rw [A7J.1.agree] at i1
  change _ = pbA 1 at i1
  rw [h5] at i3
  replace i5 : (otH 0 (A16 0 j)).has = true → (otH 0 (A16 0 j)).once = j + 1 := fun h => by
    rw [i4] at h
    rw [i5 h, h6 h]
  rw [h3] at i4
  obtain ⟨hp, hps⟩ := C0S 15
  have hok := fun z hz => List.all_eq_true.1 (List.all_eq_true.1 B9B j (List.mem_range.2 hj)) z hz
  have b0 := hok (15, 1, 15) (by simp)
  have b1 := hok (7, 1, 16) (by simp)
  have b2 := hok (7, 16, 15) (by simp)
  rw [Bool.and_eq_true] at b0 b1 b2
  obtain ⟨n1, n2⟩ := A5B 2 1 15
  refine ⟨⟨(seA (lsB 15 1 15 j), Y0 sdA (15 + 3)), ?_, ?_⟩, ⟨(seA (lsB 7 1 16 j), Y0 sdA (7 + 3)), ?_, ?_⟩, ⟨(seA (lsB 7 16 15 j), Y0 sdA (7 + 3)), ?_, ?_⟩⟩
  · unfold ot0
    rw [hS, n2]
    exact B7N n1 hj i3 i4 i5 i1 i2 (List.all_eq_true.1 b0.1)
  · rw [hK]; exact nd b0.2
  · unfold ot1
    rw [hS, hp, hps]
    exact B7N A2l.1 hj i3 i4 i5 i1 rfl (List.all_eq_true.1 b1.1)
  · rw [hK]; exact nd b1.2
  · unfold ot2
    rw [hS, hp, hps]
    exact B7N A2l.1 hj i3 i4 i5 rfl i2 (List.all_eq_true.1 b2.1)
  · rw [hK]; exact nd b2.2
theorem B9C (m : Nat) (y : Bn) : otK m y = otK (m % 2) y ∧ ot0 m y = ot0 (m % 2) y ∧ ot1 m y = ot1 (m % 2) y ∧ ot2 m y = ot2 (m % 2) y := by
  unfold ot0 ot1 ot2 otK otH otS
  rw [B5C m, B5D m]
  exact ⟨rfl, rfl, rfl, rfl⟩
theorem B9D (m : Nat) {j : Nat} {y : Bn} (hj : j < 5) (hy : (I1 (oB m).1 (oB m).2).1[j]? = some y) : (∃ q, ot0 m y = some q ∧ otK m y ≠ q.1) ∧ (∃ q, ot1 m y = some q ∧ otK m y ≠ q.1) ∧ ∃ q, ot2 m y = some q ∧ otK m y ≠ q.1 := by
  have e : y = A16 m j := by unfold A16; rw [List.getD_eq_getElem?_getD, hy]; rfl
  obtain ⟨e0, e1, e2, e3⟩ := B9C m y
  rw [e0, e1, e2, e3, e, B7M]
  have hm := Nat.mod_lt m (by decide : 0 < 2)
  clear e e0 e1 e2 e3 hy
  rcases (by omega : m % 2 = 0 ∨ m % 2 = 1) with h | h
  · rw [h]; exact C0U hj
  · rw [h]
    have h := List.all_eq_true.1 C0T j (List.mem_range.2 hj)
    rw [Bool.and_eq_true, Bool.and_eq_true] at h
    exact ⟨B2b h.1.1, B2b h.1.2, B2b h.2⟩

theorem A5C (m p0 w : Nat) (A : Mem) (hm : m < 256) (hp : p0 < 256) (hw : w < 256) (hG : Glb A) : FnV Tryz.prog 4 [.int .u8 ((m : Nat) : Int), .int .u8 ((p0 : Nat) : Int), .int .u8 ((w : Nat) : Int)] A (.bool true) := by
 refine FnX.enter (N := 129) Tryz.func4 rfl rfl rfl fun w_ => ?_
 refine C4 (E1 0 1 2) (A3 (as_ (A0 (E1 0 1 2) (A5 (A3 ?_)))))
 refine F8 a0 kR (B1X _ hG.up) rfl ?_
 refine A4 (A0e rfl) rfl ?_
 refine A0 (E7 0 1 2 20) ?_
 refine D4 rfl ?_
 refine A9 (nx (E1 0 1 2) (A3 (mv_ ?_)))
 refine C9 (aS rfl a0) kR (A8R m _ hm hG.up) rfl ?_
 rintro v22 M22 J22 ⟨tb, pb, ka, kb, MA, MB, MP, rfl, rfl, hKa, hKb, hP⟩
 have hOt := fun (y : Bn) (hy : (I1 (oB m).1 (oB m).2).1[p0 % 5]? = some y) => B9D m (Nat.mod_lt p0 (by decide)) hy
 unfold ot0 ot1 ot2 otK otH otS at hOt
 have hF := A8P (m)
 generalize (oA (m)).1 = ak at *
 generalize (oB (m)).1 = bk at *
 generalize (oB (m)).2 = s at *
 obtain ⟨x, hsg, hxn, hxl⟩ := hF.sg
 have hol := B5x bk
 rw [hF.on] at hol
 change 4 = _ at hol
 have hts := hF.ts
 have hsn := hF.n
 have hrise : B4h bk.once := A7F (by rw [show bk.once.map (·.n) = onN bk from rfl, hF.on]; decide)
 refine as_ (A0 (E1 1 2 7) ?_)
 refine X9 (B := [(tb, blk [.pointer (some ⟨pb, 0, none⟩), .pointer (some ⟨ka, 0, none⟩), .pointer (some ⟨kb, 0, none⟩)] 37)]) PickC.perm ?_
 refine X9 (B := MA) PickC.perm ?_
 obtain ⟨va, vg, vq, vo, vm, rs, ro, rm, hra⟩ := hKa.r
 obtain ⟨ua, ug, uq, uo, um, ss, so, sm, hrb⟩ := hKb.r
 have hla := (hra _ (fun _ h => List.mem_append_left MA h) (fun _ h => List.mem_append_right _ h)).lt
 have hlb := (hrb _ (fun _ h => List.mem_append_left MB h) (fun _ h => List.mem_append_right _ h)).lt
 obtain ⟨hbl, -, -, hbt⟩ := A09 (s := s) hsg
 rw [← hol] at hbl
 obtain ⟨y, xo, hy, -, -, y3, y4, y5, y6, y7, y8, y9, y10⟩ := B1W (s := s) hsg (j := p0 % 5) (by rw [← hol]; exact Nat.mod_lt _ (by decide))
 obtain ⟨hb1, hb2, -⟩ := hF.bb.bundles hsg (by omega) (by omega)
 have hbn : (I1 bk s).2.n = s.n := B5z
 have ha2 := hF.ba.ext hb2 hb1.tok hb1.ar
 obtain ⟨hck, hag, hbi, hex, -, hpx⟩ := A8Q hF.bb hsg (by omega) (by omega) (Pext.refl _) ha2 hla hlb (by omega) (by omega) y3 y4 y5 y6 y7 y8 y9
 have hst := A5x ak y (I1 bk s).2
 have hans := hag.ans (kb := bk) hbi.tok (by omega) (by rw [hsg]; show A15 [x] (stH ak y (I1 bk s).2).signed = _; rw [show (stH ak y (I1 bk s).2).signed = x.n from y5]; exact A3P) y8 (fun hh => by
  change y.has = true at hh
  rw [y8] at hh
  obtain ⟨o, rfl⟩ := Option.isSome_iff_exists.1 hh
  obtain ⟨q, q0, q1, q2, q3, -⟩ := y9 o rfl
  rw [show (stH ak y (I1 bk s).2).once = y.once from if_pos (y8.trans rfl), q3, q2]
  exact B1P hrise q1)
 have hKl := (A6H (stI ak y (I1 bk s).2) (stL ak.agree y (I1 bk s).2)).2
 change (stK ak y (I1 bk s).2).length = 32 at hKl
 have h2k := hex.n
 refine H5 (MB ++ MP) (_) true (.range 15) [(0, 0), (1, 0), (2, 0), (3, 1), (4, 0), (5, 0), (6, 0), (7, 1), (9, 0), (10, 0), (11, 0), (8, 3), (12, 3), (13, 3), (14, 4), (15, 2)] kR kR PickC.perm fun hs K n0 hKm hKs hKn => ?_
 refine km_ hs ?_
 refine I0 hs rfl (F5 rfl) rfl ?_
 refine I0 hs rfl (qf_ 2 2) rfl ?_
 refine P0 hs rfl hKs ql_ ?_
 refine km_ hs ?_
 refine I0 hs rfl (F5 rfl) rfl ?_
 refine I0 hs rfl (qf_ 0 0) rfl ?_
 refine P0 hs rfl hKs ql_ ?_
 refine km_ hs ?_
 refine I0 hs rfl (A2o (k' := .i64) rfl kR (by show _ < 9223372036854775808; omega)) rfl ?_
 refine I0 hs rfl (A1f (a := p0) (b := 5) rfl rfl rfl rfl (by decide)) rfl ?_
 refine A0S [⟨8, 31, none, MB ++ MP, fun v B R => ∃ MP2, B = MB ++ MP2 ∧ Prm pb (I1 bk s).2 MP2 ∧ ∃ rows, Rd R 10 v (I1 bk s).1.length rows.flatten ∧ RwL bnR R rows (I1 bk s).1⟩, ⟨12, 35, none, [], fun v B R => B = [] ∧ ∃ u rows, v = vAt 10 (p0 % 5) u ∧ Rd R 10 u (I1 bk s).1.length rows.flatten ∧ RwL bnR R rows (I1 bk s).1⟩, ⟨13, 36, none, [], fun v B R => B = [] ∧ ∃ r, v = .agg r.toArray ∧ bnR R y r⟩, ⟨14, 8, none, [], fun v B _ => ∃ b, v = .pointer (some ⟨b, 0, none⟩) ∧ B = [(b, blk [.int .i64 0, .int .i64 0, .slice none 0 0, .slice none 0 0, .int .u32 0, .slice none 0 0, .slice none 0 0, .bool false, .int .u32 0, .slice none 0 0] 32)]⟩] (_) (fun bs => [bs 8, bs 12, bs 13, bs 14]) (hKn rfl) (List.Perm.refl _) (show ∀ m ∈ ([MB ++ MP, [], [], []] : List Mem), ∀ x ∈ m, K x.1 from C1 (hKm) (C1 (fun _ h => by cases h) (C1 (fun _ h => by cases h) (C1 (fun _ h => by cases h) (K3))))) kR (fun _ => by first | rfl | kernel_rfl)
  (C1 (fun _ _ _ _ h hp => by obtain ⟨MP2, e, p1, rows, p2, p3⟩ := hp; exact ⟨MP2, e, p1, rows, p2.mono h, p3.mono bnT h⟩) (C1 (fun _ _ _ _ h hp => by obtain ⟨e, u, rows, e2, p2, p3⟩ := hp; exact ⟨e, u, rows, e2, p2.mono h, p3.mono bnT h⟩) (C1 (fun _ _ _ _ h hp => by obtain ⟨e, r, e2, p2⟩ := hp; exact ⟨e, r, e2, bnT.mono _ _ _ _ h p2⟩) (C1 (fun _ _ _ _ _ h => h) (K3))))) (show List.Nodup [31, 35, 36, 8] by decide) (show List.Nodup [8, 12, 13, 14] by decide) (C1 (C7 rfl) (C1 (C7 rfl) (C1 (C7 rfl) (C1 (C7 rfl) (K3)))))
  (C1 ⟨_, rfl, fun vs bs R Rj wG hb hj hjr ha => ⟨.inl rfl, ?_⟩⟩ (C1 ⟨_, rfl, fun vs bs R Rj wG hb hj hjr ha => ⟨.inl rfl, ?_⟩⟩ (C1 ⟨_, rfl, fun vs bs R Rj wG hb hj hjr ha => ⟨.inl rfl, ?_⟩⟩ (C1 ⟨_, rfl, fun vs bs R Rj wG hb hj hjr ha => ⟨.inl rfl, ?_⟩⟩ (K3))))) ?_
 ·
  dsimp only [Gc.inp]
  refine E0 (Mc := MB ++ MP) (R := []) (aS rfl (aS rfl (a0))) kR (by simp) (FnX.amb (A := Rj) (fun x hx => by have := hjr x hx; simp [this]) (B1Y pb kb s bk x [] MB MP Rj (hKb.mono (fun x hx => hj x (SubC.sub x hx))) hsg hP (by omega) (by omega) (hG.sub (fun x hx => hj x (SubC.sub x hx))))) rfl ?_
  rintro v25 M25 J25 ⟨MP2, rfl, hP2, rows, k1, k2⟩
  exact ⟨_, rfl, MP2, by simp, hP2, rows, k1.mono SubC.sub, k2.mono bnT SubC.sub⟩
 ·
  dsimp only [Gc.inp]
  have g8 := ha _ (List.mem_of_getElem? (i := 0) rfl) kR
  replace g8 : (fun v B R => ∃ MP2, B = MB ++ MP2 ∧ Prm pb (I1 bk s).2 MP2 ∧ ∃ rows, Rd R 10 v (I1 bk s).1.length rows.flatten ∧ RwL bnR R rows (I1 bk s).1) (vs 8) (bs 8) Rj := g8
  dsimp only at g8
  obtain ⟨-, -, -, rows, k1, k2⟩ := g8
  exact OpQ.opL (I7 (sz := 10) (a := p0 % 5) rfl rfl kR rfl k1 (by rw [hbl]; exact Nat.mod_lt _ (by decide))) rfl ⟨_, rfl, rfl, _, rows, rfl, k1, k2⟩
 ·
  dsimp only [Gc.inp]
  have g12 := ha _ (List.mem_of_getElem? (i := 1) rfl) kR
  replace g12 : (fun v B R => B = [] ∧ ∃ u rows, v = vAt 10 (p0 % 5) u ∧ Rd R 10 u (I1 bk s).1.length rows.flatten ∧ RwL bnR R rows (I1 bk s).1) (vs 12) (bs 12) Rj := g12
  dsimp only at g12
  obtain ⟨-, u, rows, e, k1, k2⟩ := g12
  obtain ⟨r, hr, hbn_⟩ := k2.get (p0 % 5) y hy
  exact OpQ.opL (A0F (rows := rows) (by rw [← e]; rfl) kR (k1.mono (fun x hx => by have := hjr x hx; simp [this])) (k2.lens bnT) (by decide) hr) rfl ⟨_, rfl, rfl, r, rfl, hbn_⟩
 ·
  dsimp only [Gc.inp]
  exact C5 (cs := [A2E, A2E, .slice none 0 0, .slice none 0 0, G4, .slice none 0 0, .slice none 0 0, .bool false, G4, .slice none 0 0]) kR rfl fun b => ⟨_, rfl, b, rfl, rfl⟩
 intro vs bs Jn0 hφ hKK
 have kk8 := hKK _ (List.mem_of_getElem? (i := 0) rfl)
 dsimp only at kk8
 have kk12 := hKK _ (List.mem_of_getElem? (i := 1) rfl)
 dsimp only at kk12
 have kk13 := hKK _ (List.mem_of_getElem? (i := 2) rfl)
 dsimp only at kk13
 have kk14 := hKK _ (List.mem_of_getElem? (i := 3) rfl)
 dsimp only at kk14
 clear hKK
 have g8 := ofH hφ
 dsimp only at g8
 replace hφ := ofT hφ
 have g12 := ofH hφ
 dsimp only at g12
 replace hφ := ofT hφ
 have g13 := ofH hφ
 dsimp only at g13
 replace hφ := ofT hφ
 have g14 := ofH hφ
 dsimp only at g14
 clear hφ
 dsimp only [S7, A0y, List.foldr, List.map, List.cons_append, List.nil_append]
 generalize bs 8 = B31 at *
 generalize bs 12 = B35 at *
 generalize bs 13 = B36 at *
 generalize bs 14 = B8 at *
 generalize vs 8 = u31 at *
 generalize vs 12 = u35 at *
 generalize vs 13 = u36 at *
 generalize vs 14 = u8 at *
 obtain ⟨MP2, rfl, hP27, -⟩ := g8
 obtain ⟨rfl, -⟩ := g12
 obtain ⟨rfl, r0, rfl, w1, w2, w3, w4, w5, rfl, gw1, gw2, gw3, gw4, gw5, gws, gwo⟩ := g13
 obtain ⟨b8, rfl, rfl⟩ := g14
 haveI := gw1.cel
 haveI := gw2.cel
 haveI := gw3.cel
 haveI := gw4.cel
 haveI := gw5.cel
 refine N5 rfl rfl rfl (A8 (vs := [.int .i64 y.user, .int .i64 y.dev, w1, w2, .int .u32 ((y.signed : Nat) : Int), w3, w4, .bool y.has, .int .u32 ((y.once : Nat) : Int), w5]) rfl rfl rfl kR (by rfl) (C1 rfl (C1 rfl (C1 gw1.one (C1 gw2.one (C1 rfl (C1 gw3.one (C1 gw4.one (C1 rfl (C1 rfl (C1 gw5.one K3)))))))))) UpC.upd ?_)
 refine N6 (E1 2 7 8) ?_
 refine X9 (B := [(b8, blk [.int .i64 y.user, .int .i64 y.dev, w1, w2, .int .u32 ((y.signed : Nat) : Int), w3, w4, .bool y.has, .int .u32 ((y.once : Nat) : Int), w5] 32)]) PickC.perm ?_
 refine X9 (B := MB) PickC.perm ?_
 refine H5 (MP2) (_) true [0, 1, 2, 3, 4, 5, 6, 7, 8, 9, 10, 11, 12, 13, 14, 15, 17] [(0, 0), (1, 0), (2, 0), (3, 1), (4, 0), (5, 0), (6, 0), (7, 1), (8, 1), (9, 8), (10, 8), (11, 8), (14, 8), (12, 9), (13, 10), (15, 0), (16, 2), (17, 0)] kR kR PickC.perm fun hs K n0 hKm hKs hKn => ?_
 refine km_ hs ?_
 refine I0 hs rfl (F5 rfl) rfl ?_
 refine I0 hs rfl (qf_ 0 0) rfl ?_
 refine P0 hs rfl hKs ql_ ?_
 refine km_ hs ?_
 refine I0 hs rfl (F5 rfl) rfl ?_
 refine I0 hs rfl (qf_ 1 1) rfl ?_
 refine P0 hs rfl hKs ql_ ?_
 refine P0 hs rfl hKs (qw_ 10) ?_
 refine A1W [⟨9, 47, none, MP2, fun v B R => Prm pb (stS ak y (I1 bk s).2) B ∧ StV R v (stK ak y (I1 bk s).2) (stH ak y (I1 bk s).2)⟩, ⟨10, 37, none, [], fun v B R => B = [] ∧ StV R v (stK ak y (I1 bk s).2) (stH ak y (I1 bk s).2)⟩, ⟨11, 48, none, [], fun v B R => B = [] ∧ By R v (stK ak y (I1 bk s).2)⟩, ⟨14, 10, none, [], fun v B _ => ∃ b, v = .pointer (some ⟨b, 0, none⟩) ∧ B = [(b, blk [.slice none 0 0, .slice none 0 0, .slice none 0 0, .int .u32 0, .bool false, .int .u32 0] 43)]⟩] [⟨12, 49, none, [], fun v B R => B = [] ∧ ∃ p r u, v = .agg (heC p r u (stH ak y (I1 bk s).2)).toArray ∧ HeR R (stH ak y (I1 bk s).2) p r u⟩, ⟨13, 50, none, [], fun v B R => B = [] ∧ v = .int .i64 0⟩] ([]) (fun bs => [bs 9, bs 10, bs 11, bs 14, bs 12, bs 13]) (hKn rfl) (by simp [A0y, A1V]) (show ∀ m ∈ ([MP2, [], [], [], [], []] : List Mem), ∀ x ∈ m, K x.1 from C1 (hKm) (C1 (fun _ h => by cases h) (C1 (fun _ h => by cases h) (C1 (fun _ h => by cases h) (C1 (fun _ h => by cases h) (C1 (fun _ h => by cases h) (K3))))))) kR (fun _ => by first | rfl | kernel_rfl)
  (C1 (fun _ _ _ _ h ⟨p1, p2⟩ => ⟨p1, p2.mono h⟩) (C1 (fun _ _ _ _ h ⟨p1, p2⟩ => ⟨p1, p2.mono h⟩) (C1 (fun _ _ _ _ h ⟨p1, p2⟩ => ⟨p1, p2.mono h⟩) (C1 (fun _ _ _ _ _ h => h) (C1 (fun _ _ _ _ h ⟨p1, p, r, u, e, p2⟩ => ⟨p1, p, r, u, e, p2.mono h⟩) (C1 (fun _ _ _ _ _ h => h) (K3))))))) (show List.Nodup [47, 37, 48, 10, 49, 50] by decide) (show List.Nodup [9, 10, 11, 14, 12, 13] by decide) (C1 (C7 rfl) (C1 (C7 rfl) (C1 (C7 rfl) (C1 (C7 rfl) (C1 (C7 rfl) (C1 (C7 rfl) (K3)))))))
  hs (List.cons_ne_nil _ _) (C1 ⟨_, rfl, fun vs bs R Rj wG hb hj hjr ha => ⟨.inl rfl, ?_⟩⟩ (C1 ⟨_, rfl, fun vs bs R Rj wG hb hj hjr ha => ⟨.inl rfl, ?_⟩⟩ (C1 ⟨_, rfl, fun vs bs R Rj wG hb hj hjr ha => ⟨.inl rfl, ?_⟩⟩ (C1 ⟨_, rfl, fun vs bs R Rj wG hb hj hjr ha => ⟨.inl rfl, ?_⟩⟩ (K3))))) (C1 ⟨rfl, rfl, _, _, _, _, rfl, fun vs bs Rj hj ha => ?_⟩ (C1 ⟨rfl, rfl, _, _, _, _, rfl, fun vs bs Rj hj ha => ?_⟩ (K3))) ?_
 ·
  dsimp only [Gc.inp]
  refine E0 (Mc := MP2) (R := []) (aS rfl (aS rfl (aS rfl (a0)))) kR (by simp) (FnX.amb (A := Rj) (fun x hx => by have := hjr x hx; simp [this]) (B1U pb (I1 bk s).2 ka ak va vg vq vo vm rs ro rm y w1 w2 w3 w4 w5 MP2 Rj (hra _ (fun x hx => hj x (SubC.sub x hx)) (fun x hx => hj x (SubC.sub x hx))) hP27 hb1.ar (by omega) (by omega) (gw1.mono (fun x hx => hj x (SubC.sub x hx))) (gw2.mono (fun x hx => hj x (SubC.sub x hx))) (gw3.mono (fun x hx => hj x (SubC.sub x hx))) (gw4.mono (fun x hx => hj x (SubC.sub x hx))) (gw5.mono (fun x hx => hj x (SubC.sub x hx))) gws gwo (hG.sub (fun x hx => hj x (SubC.sub x hx))))) rfl ?_
  rintro v25 M25 J25 ⟨hh, -⟩
  obtain ⟨x, p, r, u, rfl, hP25, h25, hH25⟩ := hh hck
  exact ⟨_, rfl, by simpa using hP25, x, p, r, u, rfl, h25.mono fun x hx => by simp [hx], hH25.mono fun x hx => by simp [hx]⟩
 ·
  dsimp only [Gc.inp]
  have g9 := ha _ (List.mem_of_getElem? (i := 0) rfl) kR
  replace g9 : (fun v B R => Prm pb (stS ak y (I1 bk s).2) B ∧ StV R v (stK ak y (I1 bk s).2) (stH ak y (I1 bk s).2)) (vs 9) (bs 9) Rj := g9
  dsimp only at g9
  obtain ⟨-, k⟩ := g9
  exact OpQ.opL qm_ rfl ⟨_, rfl, rfl, k⟩
 ·
  dsimp only [Gc.inp]
  have g10 := ha _ (List.mem_of_getElem? (i := 1) rfl) kR
  replace g10 : (fun v B R => B = [] ∧ StV R v (stK ak y (I1 bk s).2) (stH ak y (I1 bk s).2)) (vs 10) (bs 10) Rj := g10
  dsimp only at g10
  obtain ⟨-, x, p, r, u, e, k1, k2⟩ := g10
  exact OpQ.opL (L8 (vs := #[x, .agg (heC p r u (stH ak y (I1 bk s).2)).toArray, .int .i64 0]) (by rw [← e]; rfl) rfl) rfl ⟨_, rfl, rfl, k1⟩
 ·
  dsimp only [Gc.inp]
  exact C5 (cs := [.slice none 0 0, .slice none 0 0, .slice none 0 0, .int .u32 0, .bool false, .int .u32 0]) kR rfl fun b => ⟨_, rfl, b, rfl, rfl⟩
 ·
  have g10 := ha _ (List.mem_of_getElem? (i := 1) rfl) kR
  replace g10 : (fun v B R => B = [] ∧ StV R v (stK ak y (I1 bk s).2) (stH ak y (I1 bk s).2)) (vs 10) (bs 10) Rj := g10
  dsimp only at g10
  obtain ⟨-, x, p, r, u, e, k1, k2⟩ := g10
  exact ⟨_, L8 (vs := #[x, .agg (heC p r u (stH ak y (I1 bk s).2)).toArray, .int .i64 0]) (by rw [← e]; rfl) rfl, rfl, p, r, u, rfl, k2⟩
 ·
  have g10 := ha _ (List.mem_of_getElem? (i := 1) rfl) kR
  replace g10 : (fun v B R => B = [] ∧ StV R v (stK ak y (I1 bk s).2) (stH ak y (I1 bk s).2)) (vs 10) (bs 10) Rj := g10
  dsimp only at g10
  obtain ⟨-, x, p, r, u, e, k1, k2⟩ := g10
  exact ⟨_, L8 (vs := #[x, .agg (heC p r u (stH ak y (I1 bk s).2)).toArray, .int .i64 0]) (by rw [← e]; rfl) rfl, rfl, rfl⟩
 intro vs bs Jn0 hφ hKK
 have kk9 := hKK _ (List.mem_of_getElem? (i := 0) rfl)
 dsimp only at kk9
 have kk10 := hKK _ (List.mem_of_getElem? (i := 1) rfl)
 dsimp only at kk10
 have kk11 := hKK _ (List.mem_of_getElem? (i := 2) rfl)
 dsimp only at kk11
 have kk14 := hKK _ (List.mem_of_getElem? (i := 3) rfl)
 dsimp only at kk14
 have kk12 := hKK _ (List.mem_of_getElem? (i := 4) rfl)
 dsimp only at kk12
 have kk13 := hKK _ (List.mem_of_getElem? (i := 5) rfl)
 dsimp only at kk13
 clear hKK
 have g9 := ofH hφ
 dsimp only at g9
 replace hφ := ofT hφ
 have g10 := ofH hφ
 dsimp only at g10
 replace hφ := ofT hφ
 have g11 := ofH hφ
 dsimp only at g11
 replace hφ := ofT hφ
 have g14 := ofH hφ
 dsimp only at g14
 replace hφ := ofT hφ
 have g12 := ofH hφ
 dsimp only at g12
 replace hφ := ofT hφ
 have g13 := ofH hφ
 dsimp only at g13
 clear hφ
 dsimp only [S7, A0y, List.foldr, List.map, List.cons_append, List.nil_append]
 generalize bs 9 = B47 at *
 generalize bs 10 = B37 at *
 generalize bs 11 = B48 at *
 generalize bs 14 = B10 at *
 generalize bs 12 = B49 at *
 generalize bs 13 = B50 at *
 generalize vs 9 = u47 at *
 generalize vs 10 = u37 at *
 generalize vs 11 = u48 at *
 generalize vs 14 = u10 at *
 generalize vs 12 = u49 at *
 generalize vs 13 = u50 at *
 obtain ⟨hP43, -⟩ := g9
 obtain ⟨rfl, -⟩ := g10
 obtain ⟨rfl, hK43⟩ := g11
 obtain ⟨rfl, p, r, u, rfl, hHe⟩ := g12
 obtain ⟨rfl, rfl⟩ := g13
 obtain ⟨b10, rfl, rfl⟩ := g14
 haveI := hK43.cel
 haveI := hHe.ia.cel
 haveI := hHe.ig.cel
 haveI := hHe.key.cel
 obtain ⟨H, hH⟩ : ∃ z, stH ak y (I1 bk s).2 = z := ⟨_, rfl⟩
 obtain ⟨Kx, hK⟩ : ∃ z, stK ak y (I1 bk s).2 = z := ⟨_, rfl⟩
 obtain ⟨s3, hs3⟩ : ∃ z, stS ak y (I1 bk s).2 = z := ⟨_, rfl⟩
 rw [hH] at hHe hag hans
 rw [hK] at hK43 hag hans hKl
 rw [hs3] at hP43 hag hbi hex hst hans
 rw [hH]
 dsimp only [heC]
 obtain ⟨hO0, hO1, hO2⟩ := hOt y hy
 rw [hK, hH, hs3] at hO0 hO1 hO2
 have f1 := K8 s3
 have f2 := N2 (D3 s3) (D6 s3)
 have f3 := A5t 2 1 s3
 refine I0 hs rfl (H8 rfl) rfl ?_
 refine N5 rfl rfl rfl (A8 (vs := [p, r, u, .int .u32 ((H.signed : Nat) : Int), .bool H.has, .int .u32 ((H.once : Nat) : Int)]) rfl rfl rfl kR (by rfl) (C1 hHe.ia.one (C1 hHe.ig.one (C1 hHe.key.one al3))) UpC.upd ?_)
 refine I0 hs rfl (H8 rfl) rfl ?_
 refine N6 (E7 2 7 9 10) (A5 (A3 (mv_ ?_)))
 refine A4 (A1f (a := w) (b := 3) rfl rfl rfl rfl (by decide)) rfl ?_
 refine A0 (E7 7 9 10 52) (C0 ?_)
 rcases (by omega : w % 3 = 0 ∨ w % 3 = 1 ∨ w % 3 = 2) with c | c | c
 ·
  refine A3 ?_
  refine A4 (F9 true rfl rfl (eqT (by omega))) rfl ?_
  refine as_ (A0 (F7 7 9 10 52 65) ?_)
  refine E2 rfl ?_
  refine X9 (B := [(b10, blk [p, r, u, .int .u32 ((H.signed : Nat) : Int), .bool H.has, .int .u32 ((H.once : Nat) : Int)] 43)]) PickC.perm ?_
  refine A3 (mv_ ?_)
  refine A4 (F5 rfl) rfl ?_
  refine A4 (qf_ 0 0) rfl ?_
  refine A4 ql_ rfl ?_
  refine A4 (F3 (place := fun x => #[(0, 1), (1, 1)][x]?) (z := [.int .i64 0, .int .i64 0]) (fun _ => by kernel_rfl) (eS rfl (eS rfl e0)) (bdS 0 1 rfl (by rfl) (bdS 1 1 rfl (by rfl) bd0))) rfl ?_
  refine A6 rfl (E0 (Mc := B47) (R := _) (aS rfl (aS rfl (a0))) kR PickC.perm (B7A 2 1 pb s3 B47 _ hP43 (by omega) (by omega) hG.up) rfl ?_)
  rintro v72 M72 J72 ⟨kc, MC, MP4, rfl, rfl, hKc, hP4⟩
  obtain ⟨ca, cg, cq, co, cm, cs, co2, cm2, hrc⟩ := hKc.r
  have hrc2 : B4h (A2x 2 1 s3).1.once := A7F (by show (onN (A2x 2 1 s3).1).Pairwise _; rw [B5w]; decide)
  refine as_ (A0 (E7 7 9 10 12) ?_)
  refine X9 (B := MC) PickC.perm ?_
  refine D2 [0, 1, 2, 3, 4, 5, 7, 8, 9, 10, 11, 12, 13] (zp 0 [0, 0, 0, 1, 0, 1, 2, 0, 0, 0, 0, 0, 0, 0]) kR kR fun hs => ?_
  refine fm_ hs ?_
  refine D1 hs rfl (F5 rfl) rfl ?_
  refine D1 hs rfl (qf_ 0 0) rfl ?_
  refine F6 hs rfl ql_ rfl ?_
  refine fm_ hs ?_
  refine F6 hs rfl (qw_ 6) rfl ?_
  refine G2 rfl rfl rfl (E0 (Mc := MP4) (R := _) (aS rfl (aS rfl (aS rfl (a0)))) kR PickC.perm (A2Y pb (A2x 2 1 s3).2 kc (A2x 2 1 s3).1 ca cg cq co cm cs co2 cm2 H p r u MP4 _ (hrc _ SubC.sub SubC.sub) hrc2 hP4 (by omega) (hHe.mono SubC.sub) hG.up) rfl ?_)
  rintro v80 M80 J80 ⟨o1, o2, rfl, hP80, ho1, ho2⟩
  obtain ⟨q, hq, hne⟩ := hO0
  rw [hq] at ho1 ⊢
  change By _ o1 q.1 at ho1
  haveI := ho1.cel
  haveI := ho2.cel
  refine fm_ hs ?_
  refine D1 hs rfl (A2O rfl) rfl ?_
  refine D1 hs rfl (A2z rfl) rfl ?_
  refine D1 hs rfl (B7R rfl) rfl ?_
  refine fa_ hs ?_
  refine fa_ hs ?_
  refine fa_ hs ?_
  refine E3 (E1 9 13 15) (A3 (mv_ ?_))
  refine A4 (F9 true rfl rfl (eqT rfl)) rfl ?_
  refine mv_ ?_
  refine F4 rfl rfl (OpQ.opL qm_ rfl ?_)
  refine F4 rfl rfl (OpQ.opL (Q6 rfl kR (hK43.rd.mono SubC.sub)) rfl ?_)
  refine F4 rfl rfl (OpQ.opL qm_ rfl ?_)
  refine F4 rfl rfl (OpQ.opL (Q6 rfl kR (ho1.rd.mono SubC.sub)) rfl ?_)
  refine F4 rfl rfl (OpQ.opL ((show (!decide (Kx = q.1)) = true by simp [hne]) ▸ B2I rfl rfl rfl rfl hK43.lt ho1.lt) rfl ?_)
  refine A4 (H4 rfl rfl) rfl ?_
  refine as_ (A0 (D8 6) (C2 (br (tr ?_))))
  exact ⟨_, [], [], I4 rfl rfl, List.nil_sublist _, by simp, rfl, rfl, rfl⟩
 ·
  refine A3 ?_
  refine A4 (F9 false rfl rfl (eqF (by omega))) rfl ?_
  refine as_ (A0 (F7 7 9 10 52 65) ?_)
  refine D4 rfl ?_
  refine A3 ?_
  refine A4 (F9 true rfl rfl (eqT (by omega))) rfl ?_
  refine as_ (A0 (E7 7 9 10 93) ?_)
  refine E2 rfl ?_
  refine X6 (B47) (_) true (.range 11) (zp 0 [0, 0, 0, 1, 0, 0, 0, 1, 2, 2, 0, 2]) kR kR PickC.perm fun hs K n0 hKm hKs hKn => ?_
  refine km_ hs ?_
  refine I0 hs rfl (F5 rfl) rfl ?_
  refine I0 hs rfl (qf_ 0 0) rfl ?_
  refine P0 hs rfl hKs ql_ ?_
  refine km_ hs ?_
  refine I0 hs rfl (F5 rfl) rfl ?_
  refine I0 hs rfl (qf_ 0 0) rfl ?_
  refine P0 hs rfl hKs ql_ ?_
  refine K0 _ _ rfl rfl (List.Perm.refl _) hKm fun w0 => (E0 (Mc := B47) (R := _) (aS rfl (a0)) kR PickC.perm (U4 pb s3 B47 _ hP43 (by omega) (by omega) hG.up) rfl ?_)
  rintro v103 M103 J103 ⟨hP103, h103⟩ hKx103
  haveI := h103.cel
  refine K0 M103 _ rfl rfl PickC.perm (fun x hx => hKx103 (hKn rfl) x (by simpa using hx)) fun w0 => (E0 (Mc := M103) (R := _) (aS rfl (aS rfl (a0))) kR PickC.perm (W5 pb (D3 s3) v103 (D6 s3) M103 _ hP103 (by omega) (h103.mono SubC.sub) hG.up) rfl ?_)
  rintro v104 M104 J104 ⟨hP104, h104⟩ hKx104
  haveI := h104.cel
  refine I0 hs rfl (qf_ 2 2) rfl ?_
  refine N5 rfl rfl rfl (D9 rfl rfl h104.one kR SetC.set UpC.upd ?_)
  refine A3f (nb (nx (E1 7 9 10) ?_))
  refine X9 (B := [(b10, blk [p, r, v104, .int .u32 ((H.signed : Nat) : Int), .bool H.has, .int .u32 ((H.once : Nat) : Int)] 43)]) PickC.perm ?_
  refine D2 [0, 1, 2, 3, 4, 5, 6, 7, 8, 10, 11, 12, 13, 14, 15, 16] (zp 0 [0, 0, 0, 1, 0, 0, 0, 1, 1, 2, 0, 0, 0, 0, 0, 0, 0]) kR kR fun hs => ?_
  refine fm_ hs ?_
  refine D1 hs rfl (F5 rfl) rfl ?_
  refine D1 hs rfl (qf_ 0 0) rfl ?_
  refine F6 hs rfl ql_ rfl ?_
  refine fm_ hs ?_
  refine D1 hs rfl (F5 rfl) rfl ?_
  refine D1 hs rfl (qf_ 2 2) rfl ?_
  refine F6 hs rfl ql_ rfl ?_
  refine F6 hs rfl (qw_ 6) rfl ?_
  refine G2 rfl rfl rfl (E0 (Mc := M104) (R := _) (aS rfl (aS rfl (aS rfl (a0)))) kR PickC.perm (A2Y pb (H6 (D3 s3) (D6 s3)) kb bk ua ug uq uo um ss so sm (heK H (K9 (D3 s3) (D6 s3))) p r v104 M104 _ (hrb _ SubC.sub SubC.sub) hrise hP104 (by omega) ⟨hHe.ia.mono SubC.sub, hHe.ig.mono SubC.sub, h104.mono SubC.sub, hHe.signed, hHe.once⟩ hG.up) rfl ?_)
  rintro v116 M116 J116 ⟨o1, o2, rfl, hP116, ho1, ho2⟩
  obtain ⟨q, hq, hne⟩ := hO1
  rw [hq] at ho1 ⊢
  change By _ o1 q.1 at ho1
  haveI := ho1.cel
  haveI := ho2.cel
  refine fm_ hs ?_
  refine D1 hs rfl (A2O rfl) rfl ?_
  refine D1 hs rfl (A2z rfl) rfl ?_
  refine D1 hs rfl (B7R rfl) rfl ?_
  refine fa_ hs ?_
  refine fa_ hs ?_
  refine fa_ hs ?_
  refine E3 (E1 9 16 18) (A3 (mv_ ?_))
  refine A4 (F9 true rfl rfl (eqT rfl)) rfl ?_
  refine mv_ ?_
  refine F4 rfl rfl (OpQ.opL qm_ rfl ?_)
  refine F4 rfl rfl (OpQ.opL (Q6 rfl kR (hK43.rd.mono SubC.sub)) rfl ?_)
  refine F4 rfl rfl (OpQ.opL qm_ rfl ?_)
  refine F4 rfl rfl (OpQ.opL (Q6 rfl kR (ho1.rd.mono SubC.sub)) rfl ?_)
  refine F4 rfl rfl (OpQ.opL ((show (!decide (Kx = q.1)) = true by simp [hne]) ▸ B2I rfl rfl rfl rfl hK43.lt ho1.lt) rfl ?_)
  refine A4 (H4 rfl rfl) rfl ?_
  refine as_ (A0 (D8 6) (C2 ?_))
  exact ⟨_, [], [], I4 rfl rfl, List.nil_sublist _, by simp, rfl, rfl, rfl⟩
 ·
  refine A3 ?_
  refine A4 (F9 false rfl rfl (eqF (by omega))) rfl ?_
  refine as_ (A0 (F7 7 9 10 52 65) ?_)
  refine D4 rfl ?_
  refine A3 ?_
  refine A4 (F9 false rfl rfl (eqF (by omega))) rfl ?_
  refine as_ (A0 (E7 7 9 10 93) ?_)
  refine D4 rfl ?_
  refine X6 (B47) (_) true (.range 12) (zp 0 [0, 0, 0, 1, 0, 0, 0, 1, 2, 2, 0, 0, 2]) kR kR PickC.perm fun hs K n0 hKm hKs hKn => ?_
  refine km_ hs ?_
  refine I0 hs rfl (F5 rfl) rfl ?_
  refine I0 hs rfl (qf_ 0 0) rfl ?_
  refine P0 hs rfl hKs ql_ ?_
  refine km_ hs ?_
  refine I0 hs rfl (F5 rfl) rfl ?_
  refine I0 hs rfl (qf_ 0 0) rfl ?_
  refine P0 hs rfl hKs ql_ ?_
  refine K0 _ _ rfl rfl (List.Perm.refl _) hKm fun w0 => (E0 (Mc := B47) (R := _) (aS rfl (a0)) kR PickC.perm (U4 pb s3 B47 _ hP43 (by omega) (by omega) hG.up) rfl ?_)
  rintro v61 M61 J61 ⟨hP61, h61⟩ hKx61
  haveI := h61.cel
  refine K0 M61 _ rfl rfl PickC.perm (fun x hx => hKx61 (hKn rfl) x (by simpa using hx)) fun w0 => (E0 (Mc := M61) (R := _) (aS rfl (aS rfl (a0))) kR PickC.perm (W5 pb (D3 s3) v61 (D6 s3) M61 _ hP61 (by omega) (h61.mono SubC.sub) hG.up) rfl ?_)
  rintro v62 M62 J62 ⟨hP62, h62⟩ hKx62
  haveI := h62.cel
  refine I0 hs rfl (qf_ 0 0) rfl ?_
  refine I0 hs rfl (qf_ 0 0) rfl ?_
  refine N5 rfl rfl rfl (D9 rfl rfl h62.one kR SetC.set UpC.upd ?_)
  refine A3f (nb (nx (E1 7 9 10) ?_))
  refine X9 (B := [(b10, blk [v62, r, u, .int .u32 ((H.signed : Nat) : Int), .bool H.has, .int .u32 ((H.once : Nat) : Int)] 43)]) PickC.perm ?_
  refine D2 [0, 1, 2, 3, 4, 5, 6, 7, 8, 10, 11, 12, 13, 14, 15, 16] (zp 0 [0, 0, 0, 1, 0, 0, 0, 1, 1, 2, 0, 0, 0, 0, 0, 0, 0]) kR kR fun hs => ?_
  refine fm_ hs ?_
  refine D1 hs rfl (F5 rfl) rfl ?_
  refine D1 hs rfl (qf_ 0 0) rfl ?_
  refine F6 hs rfl ql_ rfl ?_
  refine fm_ hs ?_
  refine D1 hs rfl (F5 rfl) rfl ?_
  refine D1 hs rfl (qf_ 2 2) rfl ?_
  refine F6 hs rfl ql_ rfl ?_
  refine F6 hs rfl (qw_ 6) rfl ?_
  refine G2 rfl rfl rfl (E0 (Mc := M62) (R := _) (aS rfl (aS rfl (aS rfl (a0)))) kR PickC.perm (A2Y pb (H6 (D3 s3) (D6 s3)) kb bk ua ug uq uo um ss so sm (heI H (K9 (D3 s3) (D6 s3))) v62 r u M62 _ (hrb _ SubC.sub SubC.sub) hrise hP62 (by omega) ⟨h62.mono SubC.sub, hHe.ig.mono SubC.sub, hHe.key.mono SubC.sub, hHe.signed, hHe.once⟩ hG.up) rfl ?_)
  rintro v116 M116 J116 ⟨o1, o2, rfl, hP116, ho1, ho2⟩
  obtain ⟨q, hq, hne⟩ := hO2
  rw [hq] at ho1 ⊢
  change By _ o1 q.1 at ho1
  haveI := ho1.cel
  haveI := ho2.cel
  refine fm_ hs ?_
  refine D1 hs rfl (A2O rfl) rfl ?_
  refine D1 hs rfl (A2z rfl) rfl ?_
  refine D1 hs rfl (B7R rfl) rfl ?_
  refine fa_ hs ?_
  refine fa_ hs ?_
  refine fa_ hs ?_
  refine E3 (E1 9 16 18) (A3 (mv_ ?_))
  refine A4 (F9 true rfl rfl (eqT rfl)) rfl ?_
  refine mv_ ?_
  refine F4 rfl rfl (OpQ.opL qm_ rfl ?_)
  refine F4 rfl rfl (OpQ.opL (Q6 rfl kR (hK43.rd.mono SubC.sub)) rfl ?_)
  refine F4 rfl rfl (OpQ.opL qm_ rfl ?_)
  refine F4 rfl rfl (OpQ.opL (Q6 rfl kR (ho1.rd.mono SubC.sub)) rfl ?_)
  refine F4 rfl rfl (OpQ.opL ((show (!decide (Kx = q.1)) = true by simp [hne]) ▸ B2I rfl rfl rfl rfl hK43.lt ho1.lt) rfl ?_)
  refine A4 (H4 rfl rfl) rfl ?_
  refine as_ (A0 (D8 6) (C2 ?_))
  exact ⟨_, [], [], I4 rfl rfl, List.nil_sublist _, by simp, rfl, rfl, rfl⟩

section
variable {H : Type} {enc : TypeId × Value → H} {P : Program} {w : World} {spare : Nat → Bool} {held : Bool} {fuel : Nat} {t e : TypeId} {cs : List Value} {x : DataW H × List MemPlace} {v : Value} {d : DataW H} {p : List MemPlace} {r : Reach} {base : Nat} {k : IntKind}
end
theorem A5D {P : Program} {W : World} {name : String} {g : Nat} {cs : Array Value} (hg : P.globalNamed name = some g) (h : W.var? P name = some cs) : ∃ e fr, W.heap[g]? = some (.cells cs e fr) := by
  unfold World.var? at h
  rw [hg] at h
  simp only [Option.bind_some] at h
  split at h
  · rename_i c e fr hh
    cases h
    exact ⟨e, fr, hh⟩
  · cases h
def B2e (ws : List Nat) : List Int := ws.map fun n : Nat => (n : Int)
theorem A4x (k : IntKind) (ws : List Nat) : ((B2e ws).map fun z => Value.int k z).toArray = (nums k ws).toArray := by simp [B2e, nums]
theorem B7O {W : World} {a b : String × DataW Unit} {rest : List (String × DataW Unit)} (h : laidMet Tryz.prog (a :: b :: ("internal/strconv.uint64pow10", Rows.laid_internal_strconv_uint64pow10) :: rest) W) : ∃ e fr, W.heap[2]? = some (Obj.cells (nums .u64 A0G).toArray e fr) := by
  have h' : laidMet Tryz.prog (("internal/strconv.uint64pow10", Lib.tabData .u64 (B2e A0G)) :: rest) W := h.tail.tail
  have h1 := Lib.tabIs_of_head (g := 2) (t := 305) (e := 143) (n := 20) (by kernel_rfl) (by kernel_rfl) (by kernel_rfl) (by kernel_rfl) (by kernel_rfl) (by kernel_rfl) h'
  obtain ⟨ek, fk, h3⟩ := A5D (g := 2) (by kernel_rfl) h1
  rw [A4x] at h3
  exact ⟨ek, fk, h3⟩
end Go.Proofs.YthbhpfefdnffaaaGreatDoor

namespace Go.Proofs.YthbhpfefdnffaaaGreatDoor
open Go.Px
theorem B9E {W : World} {a b : String × DataW Unit} {rest : List (String × DataW Unit)} (h : laidMet Tryz.prog (a :: b :: ("internal/strconv.uint64pow10", Rows.laid_internal_strconv_uint64pow10) :: ("pawl/sha.round", Rows.laid_pawl_sha_round) :: ("pawl/sha.first", Rows.laid_pawl_sha_first) :: rest) W) : Glb (B2W W) := by
  obtain ⟨e4, f4, h4⟩ := B7O h
  have h' : laidMet Tryz.prog (("pawl/sha.round", Lib.tabData .u32 (B2e A1B)) :: ("pawl/sha.first", Lib.tabData .u32 (B2e A2p.list)) :: rest) W := h.tail.tail.tail
  have h1 := Lib.tabIs_of_head (g := 1) (t := 265) (e := 30) (n := 64) (by kernel_rfl) (by kernel_rfl) (by kernel_rfl) (by kernel_rfl) (by kernel_rfl) (by kernel_rfl) h'
  have h2 := Lib.tabIs_of_head (g := 0) (t := 222) (e := 30) (n := 8) (by kernel_rfl) (by kernel_rfl) (by kernel_rfl) (by kernel_rfl) (by kernel_rfl) (by kernel_rfl) h'.tail
  obtain ⟨ek, fk, h3⟩ := A5D (g := 1) (by kernel_rfl) h1
  obtain ⟨ef, ff, h5⟩ := A5D (g := 0) (by kernel_rfl) h2
  rw [A4x] at h3 h5
  exact ⟨⟨ef, ff, A1O.2 h5⟩, ⟨ek, fk, A1O.2 h3⟩, ⟨e4, f4, A1O.2 h4⟩⟩
end Go.Proofs.YthbhpfefdnffaaaGreatDoor

namespace Go.Proofs.YthbhpfefdnffaaaGreatDoor.agreeOthers
open Go.ChangeShapes Go.WideShapes Go.ChangeAt Go.RowKit
theorem own : ownKnob Tryz.prog.godebug = none := by kernel_rfl
theorem laidOut : laidOutB Tryz.prog = true := by kernel_rfl
noncomputable def laidWorld (os : Os) : World := World.laidAll Tryz.prog os Rows.agreeOthersRow.laid
theorem laid_met (os : Os) : laidMetH Tryz.prog Rows.agreeOthersRow.laid ((laidWorld os).forCall (fun _ _ => 0) ⟨#[], #[.int .u8 0, .int .u8 0, .int .u8 0], []⟩).memory := by
  rw [MakeChecks.laidMetH_plain _ _ _ (by kernel_rfl)]; exact laidMet_laidAll _ (by kernel_rfl) (by kernel_rfl)
theorem reads (os : Os) {H : Type} (enc : TypeId × Value → H) : ∃ places, DataW.whole enc Tryz.prog ((laidWorld os).forCall (fun _ _ => 0) ⟨#[], #[.int .u8 0, .int .u8 0, .int .u8 0], []⟩).memory Tryz.f4.params.toList Rows.agreeOthersSpec.vars false (#[.int .u8 0, .int .u8 0, .int .u8 0] : Array Value).toList 8 = some ([.lit (.int .u8 0), .lit (.int .u8 0), .lit (.int .u8 0)], [], places) :=
  ⟨[], by kernel_rfl⟩
theorem lifted (os : Os) (started : os.Started) (H : Type) (enc : TypeId × Value → H) (F : Stop.Interp) :
    ReturnsInHanded {} Tryz.checked os 4 .any ((OpenSpec.ofChange Rows.agreeOthersSpec).preRow enc Tryz.prog Tryz.f4 Rows.agreeOthersRow.domain false Rows.agreeOthersRow.laid) (((OpenSpec.ofChange Rows.agreeOthersSpec).at F).post enc Tryz.prog Tryz.f4 false true false false) := by
  obtain ⟨places, hx⟩ := reads os enc
  refine returnsInHanded_of_row (C := Tryz.checked) (s := (OpenSpec.ofChange Rows.agreeOthersSpec)) own started (by kernel_rfl) Tryz.func4
    (witness_row_at (enc := enc) (C := Tryz.checked) false (laidWorld os) #[.int .u8 0, .int .u8 0, .int .u8 0] (World.laidAll_os _ _ _) (by kernel_rfl) (by kernel_rfl) (by kernel_rfl)
      (OpenSpec.preRow_of_cond 8 hx (by kernel_rfl) (fun k hk => by cases hk) (by kernel_rfl) (laid_met os))) ?_
  intro W base args ds gs before hval0 hW _ _ _ hL _ _
  have hval : ∀ (j : Nat) t v, Tryz.f4.params[j]? = some t → args[j]? = some v → Value.okWide Tryz.prog W .any base t v := hval0
  have hW' := hW
  obtain ⟨p, q, hA0, hV, rfl, hfz, hnd⟩ := hW
  have hA : DataW.TrodAll enc Tryz.prog W 0 (fun _ => true) true Tryz.f4.params.toList args.toList ds p := hA0
  rw [Tryz.params4] at hA hval
  obtain ⟨v0, vs0, d0, ds0, p0, q0, hargs, rfl, rfl, k0, r0_⟩ := trodAll_cons hA
  obtain ⟨v1, vs1, d1, ds1, p1, q1, rfl, rfl, rfl, k1, r1_⟩ := trodAll_cons r0_
  obtain ⟨v2, vs2, d2, ds2, p2, q2, rfl, rfl, rfl, k2, r2_⟩ := trodAll_cons r1_
  obtain ⟨rfl, rfl, rfl⟩ := trodAll_nil r2_
  obtain rfl : args = #[v0, v1, v2] := by cases args; simp_all
  obtain ⟨rfl, rfl⟩ := trodVars_none hV
  have lt0 : ∀ x ∈ p0, x.block < W.heap.size := by obtain ⟨m, hm⟩ := k0; exact DataW.trod_lt m _ _ _ hm
  have lt1 : ∀ x ∈ p1, x.block < W.heap.size := by obtain ⟨m, hm⟩ := k1; exact DataW.trod_lt m _ _ _ hm
  have lt2 : ∀ x ∈ p2, x.block < W.heap.size := by obtain ⟨m, hm⟩ := k2; exact DataW.trod_lt m _ _ _ hm
  obtain ⟨x0, rfl, hx0⟩ := Px.inU Tryz.underlying5 rfl (hval 0 5 v0 rfl rfl) k0
  obtain ⟨x1, rfl, hx1⟩ := Px.inU Tryz.underlying5 rfl (hval 1 5 v1 rfl rfl) k1
  obtain ⟨x2, rfl, hx2⟩ := Px.inU Tryz.underlying5 rfl (hval 2 5 v2 rfl rfl) k2
  clear hA0 hval0
  rw [MakeChecks.laidMetH_plain _ _ _ (by kernel_rfl)] at hL
  have hG := B9E hL
  refine Calls.mono ((A5C x0 x1 x2 _ hx0 hx1 hx2 hG).calls (Px.heapA_fx W)) fun e W' ⟨he, bel⟩ => ?_
  subst he
  exact ⟨_, rfl, _, _, _, [], _, [], hW', trodAll_mk1 (shut_bool Tryz.underlying4 _), (trodAll_cons_mk (Below.trod laidOut (by kernel_rfl) (of_decide_eq_true (by kernel_rfl)) k0 bel lt0) (trodAll_cons_mk (Below.trod laidOut (by kernel_rfl) (of_decide_eq_true (by kernel_rfl)) k1 bel lt1) (trodAll_cons_mk (Below.trod laidOut (by kernel_rfl) (of_decide_eq_true (by kernel_rfl)) k2 bel lt2) trodAll_mk0))), rfl, bel.frame _, fun h => by cases h⟩
theorem said : Rows.AgreeOthersSaid :=
  OpenClaim.holds_of_cond 4 Tryz.f4 rfl rfl rfl rfl rfl rfl rfl ⟨rfl, rfl, rfl, rfl, rfl⟩ rfl rfl rfl rfl rfl (by kernel_rfl) Tryz.func4 (by kernel_rfl)
    (of_decide_eq_true (by kernel_rfl)) (by unfold Func.isWrapper; first | (rw [if_pos (by decide +kernel)]; kernel_rfl) | (rw [if_neg (by decide +kernel)]; exact ⟨rfl, rfl⟩))
    (fun os started H enc _ F => by rw [OpenClaim.pre_eq_preRow]; exact lifted os started H enc F)
theorem plain (f : FuncId) (fn : Func) (hf : Tryz.pinned.checked.prog.funcNamed "pawl/pawllaw13.AgreeOthers" = some f) (hfn : Tryz.pinned.checked.prog.funcs[f]? = some fn) :
    true = Tryz.pinned.checked.prog.looks [] ∧ ∀ (j : Nat) t, fn.params[j]? = some t → Tryz.pinned.checked.prog.wantsStandIn t = false := by
  obtain rfl : f = 4 := Option.some.inj ((show Tryz.prog.funcNamed "pawl/pawllaw13.AgreeOthers" = some 4 by kernel_rfl).symm.trans hf) |>.symm
  obtain rfl : fn = Tryz.f4 := (Option.some.inj (Tryz.func4.symm.trans hfn)).symm
  refine ⟨by kernel_rfl, fun j t ht => ?_⟩
  rw [Tryz.params4] at ht
  have hm := Array.mem_of_getElem? ht
  simp only [List.mem_toArray, List.mem_cons, List.not_mem_nil, or_false] at hm
  rcases hm with rfl | rfl | rfl
  · exact (show Tryz.prog.wantsStandIn 5 = false by kernel_rfl)
  · exact (show Tryz.prog.wantsStandIn 5 = false by kernel_rfl)
  · exact (show Tryz.prog.wantsStandIn 5 = false by kernel_rfl)
theorem proved : Rows.AgreeOthersCardSaid :=
  Claim7.holds_tied_plain_at .later [] _ _ _ _ said (fun _ h => by cases h) (by kernel_rfl) (fun _ h => by cases h) agreeOthers_row_tie rfl ⟨rfl, rfl⟩ (by kernel_rfl) rfl plain (by kernel_rfl)
#print axioms proved
end Go.Proofs.YthbhpfefdnffaaaGreatDoor.agreeOthers

