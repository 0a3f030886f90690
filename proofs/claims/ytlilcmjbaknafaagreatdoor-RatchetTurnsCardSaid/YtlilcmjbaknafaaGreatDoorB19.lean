/- The card of the law RatchetTurns: it returns true for every input; each argument reads behind the call as it read before; the listed package variables are tied to the program's text. No further condition. -/
import Derived.Test.YtlilcmjbaknafaaGreatDoorB18
import Derived.Lib.LaidTab
import Derived.Stop.LaidErr
import Derived.MakeChecks
import Derived.Test.YtlilcmjbaknafaaGreatDoorCards
import Derived.Test.YtlilcmjbaknafaaGreatDoorTie
import Derived.Deep.DeepHandedRow
import Derived.Deep.DeepWitnessRowRef
import Derived.Lay
import Derived.LaidMore
set_option linter.unusedVariables false
set_option linter.unusedSimpArgs false
set_option maxRecDepth 100000
namespace Go.Proofs.YtlilcmjbaknafaaGreatDoor
open Go.Px
noncomputable def stF {α : Type} (u a b c d : Nat) (k : Nat → Nat → Nat → Nat → α) : α :=
  K6 (Nat.mod (Nat.add a b) 57896044618658097711785492504343953926634992332820282019728792003956564819949) fun p => K6 (Nat.mod (Nat.sub (Nat.add a 57896044618658097711785492504343953926634992332820282019728792003956564819949) b) 57896044618658097711785492504343953926634992332820282019728792003956564819949) fun q => K6 (Nat.mod (Nat.mul p p) 57896044618658097711785492504343953926634992332820282019728792003956564819949) fun ss => K6 (Nat.mod (Nat.mul q q) 57896044618658097711785492504343953926634992332820282019728792003956564819949) fun tt =>
  K6 (Nat.mod (Nat.sub (Nat.add ss 57896044618658097711785492504343953926634992332820282019728792003956564819949) tt) 57896044618658097711785492504343953926634992332820282019728792003956564819949) fun e => K6 (Nat.mod (Nat.mul (Nat.mod (Nat.sub (Nat.add c 57896044618658097711785492504343953926634992332820282019728792003956564819949) d) 57896044618658097711785492504343953926634992332820282019728792003956564819949) p) 57896044618658097711785492504343953926634992332820282019728792003956564819949) fun da => K6 (Nat.mod (Nat.mul (Nat.mod (Nat.add c d) 57896044618658097711785492504343953926634992332820282019728792003956564819949) q) 57896044618658097711785492504343953926634992332820282019728792003956564819949) fun cb =>
  K6 (Nat.mod (Nat.mul ss tt) 57896044618658097711785492504343953926634992332820282019728792003956564819949) fun x => K6 (Nat.mod (Nat.mul e (Nat.mod (Nat.add ss (Nat.mod (Nat.mul 121665 e) 57896044618658097711785492504343953926634992332820282019728792003956564819949)) 57896044618658097711785492504343953926634992332820282019728792003956564819949)) 57896044618658097711785492504343953926634992332820282019728792003956564819949) fun y => K6 (Nat.mod (Nat.add da cb) 57896044618658097711785492504343953926634992332820282019728792003956564819949) fun s => K6 (Nat.mod (Nat.sub (Nat.add da 57896044618658097711785492504343953926634992332820282019728792003956564819949) cb) 57896044618658097711785492504343953926634992332820282019728792003956564819949) fun t =>
  K6 (Nat.mod (Nat.mul s s) 57896044618658097711785492504343953926634992332820282019728792003956564819949) fun z => K6 (Nat.mod (Nat.mul u (Nat.mod (Nat.mul t t) 57896044618658097711785492504343953926634992332820282019728792003956564819949)) 57896044618658097711785492504343953926634992332820282019728792003956564819949) fun w => k x y z w
theorem C0g : p25 = 57896044618658097711785492504343953926634992332820282019728792003956564819949 := by decide +kernel
theorem B8X {α : Type} (u : Nat) (s : Lad) (k : Nat → Nat → Nat → Nat → α) : stF u s.a s.b s.c s.d k = k (A30 u s).a (A30 u s).b (A30 u s).c (A30 u s).d := by
  unfold stF A30 fM fA fS
  simp only [V8, C0g]
  rfl
noncomputable def swF {α : Type} (bt a b c d : Nat) (k : Nat → Nat → Nat → Nat → α) : α := Nat.rec (motive := fun _ => α) (k a b c d) (fun _ _ => k c d a b) bt
theorem B5a {α : Type} (x : Nat) (s : Lad) (k : Nat → Nat → Nat → Nat → α) : swF (x % 2) s.a s.b s.c s.d k = (fun t : Lad => k t.a t.b t.c t.d) (swL (decide (x % 2 = 1)) s) := by
  rcases Nat.mod_two_eq_zero_or_one x with h | h <;> rw [h] <;> rfl
noncomputable def B9h {α : Type} (u n : Nat) (K : Nat → Nat → Nat → Nat → α) (m : Nat) : Nat → Nat → Nat → Nat → α :=
  Nat.rec (motive := fun _ => Nat → Nat → Nat → Nat → α) K (fun i ih a b c d => K6 (Nat.mod (Nat.shiftRight n i) 2) fun bt => swF bt a b c d fun a b c d => stF u a b c d fun a b c d => swF bt a b c d ih) m
theorem B1O {α : Type} (u n : Nat) (K : Nat → Nat → Nat → Nat → α) : ∀ m, m ≤ 255 → B9h u n K m (A0e u n (255 - m)).a (A0e u n (255 - m)).b (A0e u n (255 - m)).c (A0e u n (255 - m)).d = K (A0e u n 255).a (A0e u n 255).b (A0e u n 255).c (A0e u n 255).d
  | 0, _ => rfl
  | m + 1, h => by
    have ih := B1O u n K m qO
    have hs := A6j (u := u) (n := n) (i := m) qO
    generalize A0e u n (255 - (m + 1)) = s at *
    have e : Nat.mod (Nat.shiftRight n m) 2 = n / 2 ^ m % 2 := by
      show n >>> m % 2 = _
      rw [Nat.shiftRight_eq_div_pow]
    show K6 (Nat.mod (Nat.shiftRight n m) 2) (fun bt => swF bt s.a s.b s.c s.d fun a b c d => stF u a b c d fun a b c d => swF bt a b c d (B9h u n K m)) = _
    rw [V8, e, B5a]
    dsimp only
    rw [B8X, B5a]
    dsimp only
    rw [← hs]
    exact ih
theorem A6t {x : Nat} (h : x < p25) : A0J 8 32 x 255 = B3k x 32 := by
  unfold A0J B3k
  apply List.map_congr_left
  intro j _
  rw [prt, Nat.mod_eq_of_lt (Nat.lt_trans h qD), Nat.pow_mul]
noncomputable def dhF (k : LN) (u v : Nat) : Bool := K6 (bv (G8 k)) fun n => B9h u n (fun a b _ _ => Nat.beq (Nat.mod (Nat.mul v b) 57896044618658097711785492504343953926634992332820282019728792003956564819949) a && (Nat.blt v 57896044618658097711785492504343953926634992332820282019728792003956564819949 && !Nat.beq (Nat.mod b 57896044618658097711785492504343953926634992332820282019728792003956564819949) 0)) 255 1 0 u 1
theorem B1P {k : LN} {u v : Nat} (h : dhF k u v = true) : (∀ p, rdN p = u → x25 k p = B3k v 32) ∧ rdN (B3k v 32) = v := by
  unfold dhF at h
  rw [V8] at h
  have e := B1O u (bv (G8 k)) (fun a b _ _ => Nat.beq (Nat.mod (Nat.mul v b) 57896044618658097711785492504343953926634992332820282019728792003956564819949) a && (Nat.blt v 57896044618658097711785492504343953926634992332820282019728792003956564819949 && !Nat.beq (Nat.mod b 57896044618658097711785492504343953926634992332820282019728792003956564819949) 0)) 255 (Nat.le_refl _)
  rw [Nat.sub_self] at e
  rw [show B9h u (bv (G8 k)) (fun a b _ _ => Nat.beq (Nat.mod (Nat.mul v b) 57896044618658097711785492504343953926634992332820282019728792003956564819949) a && (Nat.blt v 57896044618658097711785492504343953926634992332820282019728792003956564819949 && !Nat.beq (Nat.mod b 57896044618658097711785492504343953926634992332820282019728792003956564819949) 0)) 255 1 0 u 1 = _ from e, Bool.and_eq_true, Bool.and_eq_true] at h
  obtain ⟨h1, h2, h3⟩ := h
  have a1 := Nat.eq_of_beq_eq_true h1
  have a2 := C8 h2
  have a3 : ¬ (A0e u (bv (G8 k)) 255).b % p25 = 0 := fun e => by
    rw [C0g] at e
    change (A0e u (bv (G8 k)) 255).b.mod 57896044618658097711785492504343953926634992332820282019728792003956564819949 = 0 at e
    rw [e] at h3
    cases h3
  have a4 := B4y a3
  rw [← C0g] at a1 a2
  have a5 : fM (A0e u (bv (G8 k)) 255).a (fI (A0e u (bv (G8 k)) 255).b) = v := by
    generalize (A0e u (bv (G8 k)) 255).a = a at *
    generalize (A0e u (bv (G8 k)) 255).b = b at *
    generalize fI b = c at *
    unfold fM at a4 ⊢
    rw [← a1]
    show (v * b % p25) * c % p25 = v
    rw [Nat.mod_mul_mod, Nat.mul_assoc, Nat.mul_mod, a4, Nat.mul_one, Nat.mod_mod, Nat.mod_eq_of_lt a2]
  refine ⟨fun p hp => ?_, by rw [← A6t a2]; exact rd32 a2⟩
  unfold x25
  rw [hp, a5, A6t a2]

def sdR : LN := [114, 97, 116, 99, 104, 101, 116]
noncomputable def keyT (i : Nat) : LN := W8 (W8 [] sdR) (([107, 101, 121] ++ A7B i) ++ [1])
structure Rw6 where
  x : Nat
  b : Nat
  k : Nat
  r : Nat
  c : Nat
  d : Nat
def tabT : List Rw6 := [⟨115218658219436137637697994405346126377361628545938976797845272489649778096190, 45481423296238688360519921519057326443071608235428626924920591316295393102682, 26229740597920510721298674750876066038343631660214862014956064460751824073736, 49294778239276201466195506025643514485065332179027084366507181761946772467941, 76220639262878884996484308051357991783071826452829279552335817728160822965953, 58972311068054038118683535049604441263306751045342203462771848229045516404761⟩, ⟨34842213770851066134535599849803589895742147496336085816205243810957575182064, 12260464076678918859022471226165551401082627867933518497364289093678552555801, 8015125773508541690621618011207870193613759983118891002074036922833987260223, 70934788151894545870543215352009988540378266904753919120970260442124874439353, 20377779353549358927805580612310256569156488312285866313519010166422506647637, 56476060721494460765375510952376019715113132447613050964156530990614635500554⟩, ⟨27036414746989345489350449013956350795699975325141911744304066269134396812320, 13574546123093952692981090082907188524236191196256810904814717685940806579595, 2615362838531544601051545405047959116951396857533036898883026512853791038672, 79772427721854555446171768665432029224796931589558270177659530454530266278872, 97891321340082055624956067446009034834519657308586421441023028466577372579238, 87733871781340398749730592791674957020267087660811744380044174586123338359979⟩, ⟨43776273933692203479469219838687075224211850075271229243932061481806560652905, 21569665112493696869058935581320096381180507695711368529618950351550657455949, 21472727733717730191002431471891957165598234766134282553776152365361247336997, 62059569361584419587610407414478570222125818547607396496164253281500786642418, 109745219536349950897392311472344944018227701568798275503939745362563280130107, 11981431023681348033590362695195780435655578783464350320957091066959674853399⟩, ⟨80449620348776889776588995349163698820658780028526793521182955797029657809294, 56234543186306692387194364746080503750166064257403811727570020662830888243972, 3765752648483563689929721352293685469888296456315768314150565688668096601650, 6442369470878435341109244262002430693377417681249659648958192656575047514519, 14794367717490852515595999429921876200890320163529550565331824724604866517256, 40467946604770478383267948134363477801421857601942674528380789672045524952728⟩, ⟨55321829577282689537589459998653918185335188533584217878384311117114638927552, 37661715170877912132147777571394321363004180499415488410625251066872124759623, 6075496014528548252891193570315571069993477081931250410202349281698838099906, 34521521661961827688356504481619539579946053928309117539027347091351854954279, 64501269320791575257570180321920711618458751404614173745195296757301839140060, 11881696310593800896868999368176306963714447150341910594106220666426785299584⟩, ⟨93944094584002507050725347260645752690694149242207669729943724392068355064060, 913334875489241979384049369138107943530143864274152197716699883964523071633, 51610860325674888783469439238230176050979735553027176118091117216688118625690, 45905801202660044233829899617347805585376138984939543572567729114321873920208, 28183942021008561071815808372404436384555112452913981891929139153594834370066, 114346787028917735647351278592788348662403536916664917641190193739996085468087⟩, ⟨39316187160627006907315990015089039798562382364807859975746842464215443362571, 55903430129341170231443517807780719509111362719492195845946525315551961568285, 7202574091239267693245288090995761242128439286230501305773261685730756904661, 39222222866546219586693648632533143129667954481088730726458548189880678257424, 85385989327492973312608675830731860217413102449827518723109264348488905406773, 83054251646602979559985596760826435825949479727035107449907267708885929850478⟩, ⟨5936116908795295637722588546225760909642288392211218431809812802952819410366, 18663077972214169615843228173252855633073512783385500114301049109179866429143, 735114093317520166408376401477227091191677936282948344846040894830783230171, 45673165583788489464890008053013344378719411139408405193112060804265468637940, 71482248390900877748818441470774860996149892084676460748444618230669189478633, 32991439119818428972520210280598073999266603303542272485689260382995524303322⟩, ⟨95522027932182078262430378163731337396687248271835244498549791777317052149313, 16496855872178954446253158368379233277008472783233402434007557320947709607757, 19758312417720820083159402359812712280847184051571418635808924686805486291341, 48640671660255682417181262224743384426884799736784709271907545128002687355043, 37261686370818589651412733849046273109036962906484274966660776626548290693218, 108188691880015394694593074207191524444750057696364456778199790038498088896367⟩, ⟨72715043651154105899548296123580130151498506773231929315729218332776980423860, 36609595875120667519528391234285058685182578550224260071099744380656824187538, 2888369519123053262515759556307054456567199160894434923990744771225240500997, 49937686650283501920980387834064224628886477893569409901924076309582352054642, 99697906247883718425545871686020254350138130227728192455021856142678414600107, 103216320659310363081574318429444868793924327482202819506267016411807182409106⟩, ⟨15453185562243108236874347069590420452910731879777968852255835143731026671105, 37496480967246003383721831069195655870029414871588756288149305297871686596415, 30899881322614628963391011978533321708621232925053080586265783896312202064944, 110134303265613991654819731045039695466784831052399629977027716605570663624053, 15569877138453589588818317654988450681941973209648139993317828789935628661055, 66646878475045387923223680205529421081087849563993205398952955728213801450702⟩, ⟨73668092416492252613122729746140920668899909902716244187498261043446785222753, 20587863164796369177971572904468854018339504497571348869175154053885224875055, 42810624832090402822395938836839742905099841989205263174025946751454433897033, 51910912331871027410470464740999555185350395850681437888225080615751906549971, 5975536236185325220941371676059627865147392242837680311958631353375346611419, 35478280213925616629154944874982944978109535800972955362861033933867801469060⟩, ⟨17744607075880712419656363727225240362688107647440334912623943437829700253253, 40197353276033792257345602090186366665245430946001471508269804677836216309962, 17182153779910228120413561897278487906588332154526820029721628650195952100571, 83787298367902705965603728356517400659984022755755070113453526804263929737709, 17354675611090553665359142870323414915870802293358043907568570347543171525573, 65358510300799579819408351619232066137491965376538778379605639976466515417218⟩, ⟨101801222008619962191572635639080533324244163981098499105569747392223300432969, 32123744492295015350450136725577112539964500183269577177121309342246610558555, 26428097239083381796658354011435478372211756123238395927765626913187947544791, 12540754390571595438729655853053719719854532954627815993496149819278087616714, 105387845415967834577623969962065960967818915723057956118611392358401024663825, 16052577993570097884736818258189156528536203674412239975957777825094789131454⟩, ⟨107566389013231307914127128476551834116664909653063925448276494131652243051462, 14817114108925814521177608044345246234769892197355716878609666052684065839874, 1150077486702813884755224871614441895625652880318456388538035984569762392020, 10935384386701679629602376546477294285167815982642612896455810322181142318961, 99340882730339119783802328085221762946544803322429635316730117266640789051270, 64087253959920277029249442590024903005783376169178285082662630378836617824470⟩, ⟨94471808523330334736619772298571179343348255134996169505238814308973255224304, 15472844302719576094241306445844464475466551438861339236905319084308692827357, 32083309584788027937860681497609118019133860992149401435130831589533991122981, 12851364938032465640517638072639563069493339034136981192989134859546096499681, 105158016482519103571211787724127391263276460693163953064357931158785752839262, 59973602727481898644722663377774712773911814761803021520275653853510734062969⟩, ⟨58226008693069189374822201753976090009757671990002663779058474525730094009950, 33345457582720442190484093225388896385386753892597293320062463820460881868958, 33736752193629167637227354798052250161766028749200182813702943241109365309521, 39296324959917428366318428730251346228741360820397198194092738638505707262508, 95951630883523783990227520582008195400029865717214634202682024134638596759829, 87873360316573902475429233975779945875056120498480060863354878136599310580754⟩, ⟨56166438660768442422376664556189297454293549767233408027876452026610415119841, 9097708890707996217837171022962549680488333063079387321708795622578704691772, 13357214230550312766712670683059421936793566072345239653683644871466871857132, 96129626088745159263815106195236662502058110568873742475307312457315054829652, 112035685862760348991272261187900005574912150001782820031713378858882966295997, 9537211429356707174544401285977551487182597145812880160142940562266961463400⟩, ⟨75319649033714429134813334853793715618661624078099295194390499791811464814354, 10813259704753931467887679105730507439308187697093984689506371275801256626305, 36325670609296104976626973994701924355137146038086625776499020326107632933785, 29961108278406931467496540338854234928505515890932800651488009291290205465060, 110750809469218362716053031735076857770514203337972873284352879358373385290768, 7690914046811826945983885692734935116877984284954825524451841777936910363355⟩, ⟨22476996859813957886513520767516728567974818023160538449860135406208684112895, 45863264189096602950594701792478037702662014095270721509266309612647287161623, 26621203582751032161950951399658851020192720709124853092622784762158324592057, 26281626951907528019035940612098716854669064896907030566862505379113079736743, 23619967776724342944423707180039484808555894626751713271960008848456149025514, 17557333655852901093422222216219215665978955752411070152802163181550290543519⟩, ⟨51860429487353225720852313644496951685351540659667719519095125455525853727031, 27911552664732763618461548380443763680377610529652569301832303565672622236785, 0, 7378394156109038785831216251766974336500951516412429553151102331395278017191, 0, 0⟩]
def rwT (i : Nat) : Rw6 := (tabT[i]?).getD ⟨0, 0, 0, 0, 0, 0⟩
def dg (x : Nat) : LN := B3k x 32
def tX (i : Nat) : LN := dg (rwT i).x
def tB (i : Nat) : LN := dg (rwT i).b
def tR (i : Nat) : LN := dg (rwT i).r
def tC (i : Nat) : LN := dg (rwT i).c
def tD (i : Nat) : LN := dg (rwT i).d
noncomputable def okX (i : Nat) : Bool := decide (keyT (i + 2) = tX i)
noncomputable def okB (i : Nat) : Bool := dhF (tX i) 9 (rwT i).b
noncomputable def okG (i : Nat) : Bool := dhF (tX (i + 1)) (rwT i).b (rwT i).k
noncomputable def okR (i : Nat) : Bool := decide (W8 (W8 (tR i) (dg (rwT i).k)) (A3F ++ [1]) = tR (i + 1)) && decide (W8 (W8 (tR i) (dg (rwT i).k)) (tR (i + 1) ++ (A3F ++ [2])) = tC i)
noncomputable def okD (i : Nat) : Bool := decide (W8 (W8 (tC i) []) (W8 (W8 (tC i) []) (A2b ++ [1]) ++ (A2b ++ [2])) = tD i)
theorem C0h : (List.range 22).all okX = true := by decide +kernel
theorem B8Y : (List.range 21).all okB = true := by decide +kernel
theorem C0i : (List.range 21).all okG = true := by decide +kernel
theorem C0j : (List.range 21).all okR = true := by decide +kernel
theorem C0k : (List.range 20).all okD = true := by decide +kernel
theorem okR0 : decide (keyT 1 = tR 0) = true := by decide +kernel
theorem A6u {f : Nat → Bool} {n i : Nat} (h : (List.range n).all f = true) (hi : i < n) : f i = true := List.all_eq_true.1 h i (List.mem_range.2 hi)
theorem B5c (x : Nat) : (dg x).length = 32 := B3l _ _
theorem A4z (x : Nat) : F7 (dg x) 32 = dg x := A5k (B5c x)
def RT (n : Nat) : Ps := ⟨true, sdR, n, []⟩
theorem tFK {n i : Nat} (h : n = i + 1) (hi : i < 22) : G2 (RT n) = tX i := by
  subst h
  rw [A2H rfl, A63]
  exact of_decide_eq_true (A6u C0h hi)
theorem rdN9 : rdN A8L = 9 := by decide +kernel
theorem tPK {n i : Nat} (hi : i < 21) : H5 (RT n) (tX i) = tB i := by
  have h := A6u B8Y hi
  unfold okB at h
  have h1 := (B1P h).1 A8L rdN9
  unfold H5
  rw [if_pos (show (RT n).real = true from rfl)]
  unfold tX at h1 ⊢
  rw [A4z]
  exact h1
theorem tAK {n i : Nat} (hi : i < 21) : A0p (RT n) (tX (i + 1)) (tB i) = dg (rwT i).k := by
  have hb := A6u B8Y hi
  have hg := A6u C0i hi
  unfold okB at hb
  unfold okG at hg
  have h0 := (B1P hb).2
  have h1 := (B1P hg).1 _ h0
  unfold A0p
  rw [if_pos (show (RT n).real = true from rfl)]
  unfold tX tB at *
  rw [A4z, A4z]
  exact h1
theorem B8Z {key lb : LN} {ws : List (LN)} {n : Nat} {a b : LN} (hk : F7 key 32 = key) (h1 : W8 (W8 key (A6x ws)) (lb ++ [1]) = a) (h2 : W8 (W8 key (A6x ws)) (a ++ (lb ++ [2])) = b) : A5v (RT n) key ws lb 2 = [a, b] := by
  rw [A4m rfl]
  unfold B2K
  rw [hk, ← A0B]
  have e : U9 (W8 key (A6x ws)) lb ((32 * 2 : Nat) : Int) = a ++ b := by
    rw [← h2, ← h1]
    exact B3s _ _
  have la : a.length = 32 := by rw [← h1, A0B]; exact A0j _
  have lb' : b.length = 32 := by rw [← h2, A0B]; exact A0j _
  rw [e]
  unfold B7W
  show [((a ++ b).take (32 * 0 + 32)).drop (32 * 0), ((a ++ b).take (32 * 1 + 32)).drop (32 * 1)] = _
  rw [show 32 * 0 + 32 = 32 from rfl, show 32 * 1 + 32 = 64 from rfl, List.take_of_length_le (show (a ++ b).length ≤ 64 by rw [List.length_append]; omega), List.take_left' la, List.drop_left' (show a.length = 32 * 1 by omega)]
  rfl
theorem B80 (x : Nat) : A6x [dg x] = dg x := by
  show F7 (dg x) 32 ++ [] = _
  rw [List.append_nil, A4z]
theorem tTR {n i : Nat} (hi : i < 21) : A7X (RT n) (tR i) (tX (i + 1)) (tB i) = tR (i + 1) ∧ A6y (RT n) (tR i) (tX (i + 1)) (tB i) = tC i := by
  have h := A6u C0j hi
  unfold okR at h
  rw [Bool.and_eq_true] at h
  have e : B8w (RT n) (tR i) (tX (i + 1)) (tB i) = [tR (i + 1), tC i] := by
    unfold B8w
    rw [tAK hi]
    exact B8Z (A4z _) (by rw [B80]; exact of_decide_eq_true h.1) (by rw [B80]; exact of_decide_eq_true h.2)
  unfold A7X A6y
  rw [e]
  exact ⟨rfl, rfl⟩
theorem tST {n i : Nat} (hi : i < 20) : A1e (RT n) (tC i) = tD i := by
  have h := A6u C0k hi
  have e : B9b (RT n) (tC i) = [W8 (W8 (tC i) []) (A2b ++ [1]), tD i] := B8Z (ws := []) (A4z _) rfl (of_decide_eq_true h)
  unfold A1e
  rw [e]; rfl
theorem tSS (n : Nat) (r : Rsd) (w t : LN) : U7 (RT n) r w t = RT n := rfl
theorem tTS (n : Nat) (a b c : LN) : A2O (RT n) a b c = RT n := rfl
theorem tFS (n : Nat) : E2 (RT n) = RT (n + 1) := rfl
theorem tPS (n : Nat) (w : LN) : K1 (RT n) w = RT n := rfl
structure RSt (j : Nat) (x : Ps × Rsd × Rsd) : Prop where
  ps : x.1 = RT (3 + j)
  ao : x.2.1.own = tX (j + 1)
  ar : x.2.1.root = tR (j + 1)
  ac : x.2.1.sk = tC j
  as_ : x.2.1.sks = []
  at_ : (j = 0 ∧ x.2.1.tk = []) ∨ ∃ i, j = i + 1 ∧ x.2.1.tk = tD i
  ath : 0 < j → x.2.1.their = tB j
  bo : x.2.2.own = tX j
  br_ : x.2.2.root = tR j
  bs : (j = 0 ∧ x.2.2.sk = []) ∨ ∃ i, j = i + 1 ∧ x.2.2.sk = tD i
  bss : x.2.2.sks = []
  bt : (j ≤ 1 ∧ x.2.2.tk = []) ∨ ∃ i, j = i + 2 ∧ x.2.2.tk = tD i
  bth : ∀ i, j = i + 2 → x.2.2.their = tB (i + 1)
theorem rst0 : RSt 0 (pgs 0 0) := by
  have g0 : rg0 0 = RT 0 := rfl
  have kR : rK 0 = tR 0 := by
    show G2 (RT 0) = _
    rw [A2H rfl, A63]
    exact of_decide_eq_true okR0
  have kO : rO 0 = tX 0 := by show G2 (E2 (RT 0)) = _; rw [tFS]; exact tFK rfl qD
  have s2 : rS 0 = RT 2 := rfl
  have kP : rP 0 = tB 0 := by
    show H5 (RT 2) (rO 0) = _
    rw [kO]; exact tPK qD
  have kX : G2 (RT 2) = tX 1 := tFK rfl qD
  obtain ⟨t1, t2⟩ := tTR (n := 3) (i := 0) qD
  refine ⟨?_, ?_, ?_, ?_, rfl, .inl ⟨rfl, rfl⟩, fun h => absurd h qD, ?_, ?_, .inl ⟨rfl, rfl⟩, rfl, .inl ⟨by decide, rfl⟩, fun i h => by omega⟩
  · show B0Z (rS 0) (rK 0) (rP 0) = _
    rw [s2]; rfl
  · show G2 (rS 0) = _
    rw [s2]; exact kX
  · show A7X (E2 (rS 0)) (rK 0) (G2 (rS 0)) (rP 0) = _
    rw [s2, kR, kP, kX]; exact t1
  · show A6y (E2 (rS 0)) (rK 0) (G2 (rS 0)) (rP 0) = _
    rw [s2, kR, kP, kX]; exact t2
  · exact kO
  · exact kR
theorem B3Z {j : Nat} {x : Ps × Rsd × Rsd} (h : RSt j x) (hj : j < 20) : RSt (j + 1) (png x) := by
  obtain ⟨s, a, b⟩ := x
  obtain ⟨h1, h2, h3, h4, h5, h6, h7, h8, h9, h10, h11, h12, h13⟩ := h
  dsimp only at h1 h2 h3 h4 h5 h6 h7 h8 h9 h10 h11 h12 h13
  subst h1
  have e1 : H5 (RT (3 + j)) a.own = tB (j + 1) := by rw [h2]; exact tPK qO
  have e2 : G2 (RT (3 + j)) = tX (j + 2) := tFK qO qO
  obtain ⟨t1, t2⟩ := tTR (n := 3 + j + 1) (i := j + 1) qO
  have e3 : A1e (RT (3 + j)) a.sk = tD j := by rw [h4]; exact tST hj
  unfold png
  dsimp only
  rw [tSS, tFS, e1, e2, tPS, e3, h3]
  refine ⟨?_, rfl, t1, t2, rfl, .inr ⟨j, rfl, rfl⟩, fun _ => rfl, h2, h3, .inr ⟨j, rfl, ?_⟩, h5, ?_, ?_⟩
  · rw [tTS]; congr 1
  · show A1e (K1 (RT (3 + j)) a.own) a.sk = _
    rw [tPS]; exact e3
  · rcases h6 with ⟨e, q⟩ | ⟨i, e, q⟩
    · exact .inl ⟨by omega, q⟩
    · exact .inr ⟨i, by omega, q⟩
  · intro i hi
    have : j = i + 1 := by omega
    rw [← this]
    exact h7 qO
theorem A5s : ∀ j, j ≤ 20 → RSt j (pgs 0 j)
  | 0, _ => rst0
  | j + 1, hj => B3Z (A5s j qO) qO
def liS (j : Nat) : List (LN) := if j = 0 then [tX 1, tR 1, tC 0, tX 0, tR 0] else [tX (j + 1), tR (j + 1), tC j, tD (j - 1), tX j, tR j, tD (j - 1), tD (j - 2)]
theorem C0l : ((List.range 5).all fun i => dsj (liS (4 * i)) (liS (4 * i + 4))) = true := by decide +kernel
theorem C0m : ((List.range 19).all fun i => !decide (tB (i + 3) = tB (i + 1))) = true := by decide +kernel
theorem B81 (x : Nat) : (dg x).isEmpty = false := by
  cases h : dg x with
  | nil => have := B5c x; rw [h] at this; cases this
  | cons a l => rfl
theorem B1Q {j : Nat} {x : Ps × Rsd × Rsd} (h : RSt j x) (hj : j ≠ 1) : scT x = liS j := by
  unfold scT scR
  rw [h.ao, h.ar, h.ac, h.as_, h.bo, h.br_, h.bss]
  unfold liS
  by_cases h0 : j = 0
  · subst h0
    have e1 : x.2.1.tk = [] := by rcases h.at_ with ⟨-, e⟩ | ⟨i, e, -⟩; exact e; omega
    have e2 : x.2.2.sk = [] := by rcases h.bs with ⟨-, e⟩ | ⟨i, e, -⟩; exact e; omega
    have e3 : x.2.2.tk = [] := by rcases h.bt with ⟨-, e⟩ | ⟨i, e, -⟩; exact e; omega
    rw [e1, e2, e3]
    simp only [List.filter, tX, tR, tC, B81, Bool.not_false, List.isEmpty_nil, Bool.not_true, List.map_nil, List.append_nil, if_true, List.cons_append, List.nil_append]
  · have e1 : x.2.1.tk = tD (j - 1) := by rcases h.at_ with ⟨e, -⟩ | ⟨i, e, q⟩; omega; rw [q]; congr 1; omega
    have e2 : x.2.2.sk = tD (j - 1) := by rcases h.bs with ⟨e, -⟩ | ⟨i, e, q⟩; omega; rw [q]; congr 1; omega
    have e3 : x.2.2.tk = tD (j - 2) := by rcases h.bt with ⟨e, -⟩ | ⟨i, e, q⟩; omega; rw [q]; congr 1; omega
    rw [e1, e2, e3, if_neg h0]
    simp only [List.filter, tX, tR, tC, tD, B81, Bool.not_false, List.map_nil, List.append_nil, List.cons_append, List.nil_append]
theorem B7d {j : Nat} (hj : j < 20) : frT (pgs 0 j) = true := by
  have h := A5s j qO
  unfold frT
  rcases h.bt with ⟨-, e⟩ | ⟨i, e, -⟩
  · rw [e]; rfl
  · have h1 : H5 (pgs 0 j).1 (pgs 0 j).2.1.own = tB (j + 1) := by rw [h.ps, h.ao]; exact tPK qO
    have h2 := A6u C0m (i := i) qO
    rw [h1, h.bth i e, show j + 1 = i + 3 by omega, h2, Bool.or_true]
theorem B7e {i : Nat} (hi : i < 5) : dsj (scT (pgs 0 (4 * i))) (scT (pgs 0 (4 * i + 4))) = true := by
  rw [B1Q (A5s (4 * i) qO) qO, B1Q (A5s (4 * i + 4) qO) qO]
  exact A6u C0l hi

theorem tk_p {m : Nat} : ∀ (k i : Nat), B8T k (pgs m (4 * i)) = true → (∀ j, 4 * i ≤ j → j < 4 * i + 4 * k + 4 → frT (pgs m j) = true) ∧ ∀ q, i ≤ q → q ≤ i + k → dsj (scT (pgs m (4 * q))) (scT (pgs m (4 * q + 4))) = true := by
  have h4 : ∀ (i j : Nat), (frT (pgs m (4 * i)) && (frT (png (pgs m (4 * i))) && (frT (png (png (pgs m (4 * i)))) && frT (png (png (png (pgs m (4 * i)))))))) = true → 4 * i ≤ j → j < 4 * i + 4 → frT (pgs m j) = true := by
    intro i j h a b
    simp only [Bool.and_eq_true] at h
    obtain ⟨h1, h2, h3, h4⟩ := h
    rcases (by omega : j = 4 * i ∨ j = 4 * i + 1 ∨ j = 4 * i + 2 ∨ j = 4 * i + 3) with rfl | rfl | rfl | rfl
    · exact h1
    · exact h2
    · exact h3
    · exact h4
  intro k
  induction k with
  | zero =>
    intro i h
    unfold B8T at h
    rw [Bool.and_eq_true] at h
    obtain ⟨h1, h23⟩ := h
    rw [Bool.and_eq_true] at h23
    obtain ⟨h2, h3⟩ := h23
    exact ⟨fun j a b => h4 i j h1 a qO, fun q a b => by rw [show q = i by omega]; exact h2⟩
  | succ k ih =>
    intro i h
    unfold B8T at h
    rw [Bool.and_eq_true] at h
    obtain ⟨h1, h23⟩ := h
    rw [Bool.and_eq_true] at h23
    obtain ⟨h2, h3⟩ := h23
    obtain ⟨g1, g2⟩ := ih (i + 1) h3
    refine ⟨fun j a b => ?_, fun q a b => ?_⟩
    · by_cases hj : j < 4 * i + 4
      · exact h4 i j h1 a hj
      · exact g1 j qO qO
    · by_cases hq : q = i
      · rw [hq]; exact h2
      · exact g2 q qO qO
theorem A7c (m : Nat) : ∀ j, pgs m j = pgs (m % 2) j
  | 0 => B7b m
  | j + 1 => by show png (pgs m j) = png (pgs (m % 2) j); rw [A7c m j]
theorem B1R (m : Nat) : (∀ j, j < 20 → frT (pgs m j) = true) ∧ ∀ q, q < 5 → dsj (scT (pgs m (4 * q))) (scT (pgs m (4 * q + 4))) = true := by
  rcases Nat.mod_two_eq_zero_or_one m with h | h
  · refine ⟨fun j hj => ?_, fun q hq => ?_⟩
    · rw [A7c, h]; exact B7d hj
    · rw [A7c m (4 * q), A7c m (4 * q + 4), h]; exact B7e hq
  · obtain ⟨g1, g2⟩ := tk_p (m := 1) 4 0 B3Y
    refine ⟨fun j hj => ?_, fun q hq => ?_⟩
    · rw [A7c, h]; exact g1 j qO qO
    · rw [A7c m (4 * q), A7c m (4 * q + 4), h]; exact g2 q qO qO
theorem A4A (m : Nat) : ∀ j, j ≤ 20 → TrF j (pgs m j)
  | 0, _ => tr0 m
  | j + 1, hj => (B1L (A4A m j qO) qO ((B1R m).1 j qO)).1
theorem B5d (m : Nat) {j : Nat} (hj : j < 20) : Png (pgs m j).1 (pgs m j).2.1 (pgs m j).2.2 xW (pgs m (j + 1)).1 (pgs m (j + 1)).2.1 ∧ (pgs m (j + 1)).2.2 = V1 (pgs m j).1 (pgs m j).2.1 :=
  ⟨(B1L (A4A m j qO) qO ((B1R m).1 j hj)).2, rfl⟩
theorem B82 {a b : List (LN)} (h : dsj a b = true) {x y : LN} (hx : x ∈ a) (hy : y ∈ b) : decide (x = y) = false := by
  have h1 := List.all_eq_true.1 (List.all_eq_true.1 h x hx) y hy
  simpa using h1

theorem Lst.app {R : Mem} {vs us : List Value} {ls ks : List (LN)} (h : Lst R vs ls) (h' : Lst R us ks) : Lst R (vs ++ us) (ls ++ ks) := ⟨by simp [h.len, h'.len], fun j w hj => by
  by_cases hlt : j < ls.length
  · rw [List.getElem?_append_left hlt] at hj
    obtain ⟨v, h1, h2⟩ := h.get j w hj
    exact ⟨v, by rw [List.getElem?_append_left (by rw [h.len]; exact hlt)]; exact h1, h2⟩
  · rw [List.getElem?_append_right qO] at hj
    obtain ⟨v, h1, h2⟩ := h'.get _ w hj
    exact ⟨v, by rw [List.getElem?_append_right (by rw [h.len]; omega), h.len]; exact h1, h2⟩⟩
theorem A5t {r : Rsd} (h : r.sks = []) : (scR r).length ≤ 4 := by rw [B1N h]; exact B1M _ _
set_option maxHeartbeats 2000000 in
theorem A32 (m n : Nat) (A : Mem) (hm : m < 256) (hn : n < 256) (hG : Glb A) : FnV Tryz.prog 4 [.int .u8 ((m : Nat) : Int), .int .u8 ((n : Nat) : Int)] A (.bool true) := by
 refine FnX.enter (N := 102) Tryz.func4 rfl rfl rfl fun w_ => ?_
 refine B0 (D2 0 1) (A1 (as_ (A0 (D2 0 1) (A3 (A1 ?_)))))
 refine F1 a0 kR (B1K _ hG.up) rfl ?_
 refine A2 (A5w rfl) rfl ?_
 refine A0 (D6 0 1 18) ?_
 refine C6 rfl ?_
 refine A6 (nx (D2 0 1) (A1 (mv_ ?_)))
 refine C5 (aS rfl a0) kR (A77 m _ hm hG.up) rfl ?_
 rintro v20 M20 J20 ⟨tb, pb, rfl, hp20⟩
 change Par _ tb pb (pgs m 0).1 (pgs m 0).2.1 (pgs m 0).2.2 M20 at hp20
 refine as_ (A0 (D2 1 5) (A3 (A1 (as_ (A0 (D6 1 5 6) (A4 ?_))))))
 refine D3 (α := Nat × Mem × Mem) (fun y => [(1, .int .u8 ((n : Nat) : Int)), (5, (vP tb)), (6, (vI y.1))]) (fun y => y.2.1) (fun y => y.2.2) (fun y => y.1 ≤ 1 + n % 5 ∧ Par (y.2.2 ++ A) tb pb (pgs m (4 * y.1)).1 (pgs m (4 * y.1)).2.1 (pgs m (4 * y.1)).2.2 y.2.1) (fun y => 1 + n % 5 - y.1) (0, M20, J20) ⟨Nat.zero_le _, hp20.mono qS⟩ (D6 1 5 6) (Fit.eq qM) (fun _ h => by simpa using h) ?_
 rintro ⟨i, Mi, Ji⟩ ⟨hi, hpi⟩
 dsimp only at hi hpi ⊢
 refine A3 (A1 (mv_ (mv_ ?_)))
 refine A2 (A0Q (k' := .i64) rfl kR (by show _ < 9223372036854775808; omega)) rfl ?_
 refine A2 (T8 (a := n) (b := 5) rfl rfl rfl rfl qD) rfl ?_
 refine A2 (C7 ((1 + n % 5 : Nat) : Int) rfl rfl (E1 qO qO qO)) rfl ?_
 refine A2 (D4 rfl rfl rfl) rfl ?_
 refine A0 (D8 1 5 6 26) ?_
 refine C1 rfl ?_ ?_ <;> intro hc
 ·
  have hlt : i < 1 + n % 5 := by simp [I1] at hc; omega
  have hi4 : i < 5 := by omega
  have F0 := A4A m (4 * i) qO
  have z34 := A5t F0.l.ska
  have z40 := A5t F0.l.skb
  refine A6 (nx (D6 1 5 6) (A3 (A4 ?_)))
  have hpi0 := hpi
  obtain ⟨ao, at_, ar, ak, al, aq, bo, bt, br, bk, bl, bq, MP, rfl, h0, h1, hP⟩ := hpi
  haveI := h0.own.cel
  haveI := h0.their.cel
  haveI := h0.root.cel
  haveI := h0.sk.cel
  haveI := h0.tk.cel
  haveI := h0.st.cel
  haveI := h1.own.cel
  haveI := h1.their.cel
  haveI := h1.root.cel
  haveI := h1.sk.cel
  haveI := h1.tk.cel
  haveI := h1.st.cel
  unfold rsC
  refine C9 [0, 1, 2, 3, 4, 5, 6, 7, 8, 9, 10, 11, 13] [(0, 0), (1, 0), (2, 0), (3, 0), (4, 1), (6, 0), (7, 0), (8, 0), (9, 0), (10, 1), (5, 2), (11, 2), (12, 2), (13, 0)] kR kR fun hs => ?_
  refine fm_ hs ?_
  refine C2 hs rfl (E6 rfl) rfl ?_
  refine C2 hs rfl (qf_ 1 1) rfl ?_
  refine C2 hs rfl (D1 (e := 41) (n := 2) (sz := 9) (i := 0) 1 rfl rfl kR kR rfl qD rfl) rfl ?_
  refine G4 hs rfl (T4 (n := 9) (vs := [ao, at_, ar, ak, .int .u32 (((pgs m (4 * i)).2.1.sn : Nat) : Int), al, .int .u32 (((pgs m (4 * i)).2.1.tn : Nat) : Int), .int .u32 (((pgs m (4 * i)).2.1.prev : Nat) : Int), aq]) rfl kR At.mem rfl (R5 [(vP pb)] [ao, at_, ar, ak, .int .u32 (((pgs m (4 * i)).2.1.sn : Nat) : Int), al, .int .u32 (((pgs m (4 * i)).2.1.tn : Nat) : Int), .int .u32 (((pgs m (4 * i)).2.1.prev : Nat) : Int), aq] [bo, bt, br, bk, .int .u32 (((pgs m (4 * i)).2.2.sn : Nat) : Int), bl, .int .u32 (((pgs m (4 * i)).2.2.tn : Nat) : Int), .int .u32 (((pgs m (4 * i)).2.2.prev : Nat) : Int), bq])) rfl ?_
  refine fm_ hs ?_
  refine C2 hs rfl (E6 rfl) rfl ?_
  refine C2 hs rfl (qf_ 1 1) rfl ?_
  refine C2 hs rfl (D1 (e := 41) (n := 2) (sz := 9) (i := 1) 10 rfl rfl kR kR rfl qD rfl) rfl ?_
  refine G4 hs rfl (T4 (n := 9) (vs := [bo, bt, br, bk, .int .u32 (((pgs m (4 * i)).2.2.sn : Nat) : Int), bl, .int .u32 (((pgs m (4 * i)).2.2.tn : Nat) : Int), .int .u32 (((pgs m (4 * i)).2.2.prev : Nat) : Int), bq]) rfl kR At.mem rfl (R5 [(vP pb), ao, at_, ar, ak, .int .u32 (((pgs m (4 * i)).2.1.sn : Nat) : Int), al, .int .u32 (((pgs m (4 * i)).2.1.tn : Nat) : Int), .int .u32 (((pgs m (4 * i)).2.1.prev : Nat) : Int), aq] [bo, bt, br, bk, .int .u32 (((pgs m (4 * i)).2.2.sn : Nat) : Int), bl, .int .u32 (((pgs m (4 * i)).2.2.tn : Nat) : Int), .int .u32 (((pgs m (4 * i)).2.2.prev : Nat) : Int), bq] [])) rfl ?_
  refine L8 rfl (aS rfl a0) kR (FnX.amb qS (A5r (pgs m (4 * i)).2.1 ao at_ ar ak al aq (Ji ++ A) h0 F0.l.ska)) rfl ?_
  rintro v34 M34 J34 ⟨us34, hs34, hl34⟩
  haveI := hs34.cel
  refine L8 rfl (aS rfl a0) kR (FnX.amb qS (A5r (pgs m (4 * i)).2.2 bo bt br bk bl bq (Ji ++ A) h1 F0.l.skb)) rfl ?_
  rintro v40 M40 J40 ⟨us40, hs40, hl40⟩
  haveI := hs40.cel
  refine F5 rfl rfl rfl (F9 (e := 26) (sz := 1) (by_ := 24) rfl rfl kR rfl hs34 (hs40.rd qS) hl40.one qP (by unfold maxLen; omega) qO rfl fun v41 B41 hs41 => ?_)
  haveI := hs41.cel
  refine fa_ hs ?_
  refine E7 (D8 1 5 6 7) (A3 ?_)
  refine A0m (B := B41) qP ?_
  obtain ⟨lo, hlo⟩ : ∃ z, scT (pgs m (4 * i)) = z := ⟨_, rfl⟩
  obtain ⟨uo, huuo⟩ : ∃ z, us34 ++ us40 = z := ⟨_, rfl⟩
  have hrO : Rd B41 1 v41 lo.length uo := by rw [← hlo, ← huuo]; show Rd _ _ _ (scR _ ++ scR _).length _; rw [List.length_append]; exact hs41.rd fun _ h => h
  have hlO : Lst (J40 ++ (J34 ++ (Ji ++ A))) uo lo := by rw [← hlo, ← huuo]; exact Lst.app (hl34.mono qS) (hl40.mono qS)
  have hmlo : lo.length ≤ 8 := by rw [← hlo]; show (scR _ ++ scR _).length ≤ 8; rw [List.length_append]; omega
  refine A1 (as_ (A0 (E4 1 5 6 7 8) (A4 ?_)))
  refine D3 (α := Nat × Mem × Mem) (fun y => [(1, .int .u8 ((n : Nat) : Int)), (5, (vP tb)), (6, (vI i)), (7, v41), (8, (vI y.1))]) (fun y => y.2.1) (fun y => y.2.2) (fun y => y.1 ≤ 2 ∧ Par (y.2.2 ++ A) tb pb (pgs m (4 * i + 2 * y.1)).1 (pgs m (4 * i + 2 * y.1)).2.1 (pgs m (4 * i + 2 * y.1)).2.2 y.2.1 ∧ Rd (y.2.2 ++ A) 1 v41 lo.length uo ∧ Lst (y.2.2 ++ A) uo lo) (fun y => 2 - y.1) (0, (tb, blk ((vP pb) :: ([ao, at_, ar, ak, .int .u32 (((pgs m (4 * i)).2.1.sn : Nat) : Int), al, .int .u32 (((pgs m (4 * i)).2.1.tn : Nat) : Int), .int .u32 (((pgs m (4 * i)).2.1.prev : Nat) : Int), aq] ++ [bo, bt, br, bk, .int .u32 (((pgs m (4 * i)).2.2.sn : Nat) : Int), bl, .int .u32 (((pgs m (4 * i)).2.2.tn : Nat) : Int), .int .u32 (((pgs m (4 * i)).2.2.prev : Nat) : Int), bq])) 45) :: MP, B41 ++ (J40 ++ (J34 ++ Ji))) ⟨Nat.zero_le _, hpi0.mono qS, hrO.mono qS, hlO.mono qS⟩ (E4 1 5 6 7 8) (Fit.last qP) qI ?_
  rintro ⟨k, Mk, Jk⟩ ⟨hk, hpk, hrk, hlk⟩
  dsimp only at hk hpk hrk hlk ⊢
  refine A3 (A1 (mv_ ?_))
  refine A2 (D4 rfl rfl rfl) rfl ?_
  refine A0 (H3 1 5 6 7 8 43) ?_
  refine C1 rfl ?_ ?_ <;> intro hc
  ·
   have hk2 : k < 2 := by simp [I1] at hc; omega
   have Fa := A4A m (4 * i + 2 * k) qO
   have Pa := (B5d m (j := 4 * i + 2 * k) qO).1
   have la := Fa.len
   have na := Fa.n
   have sa : 0 < (pgs m (4 * i + 2 * k)).2.1.sk.length := List.length_pos_iff.2 Fa.l.sk
   have ga := Pa.snt.gl
   have ka := A3E (pgs m (4 * i + 2 * k)).1 (pgs m (4 * i + 2 * k)).2.1.own
   have da := A1b (pgs m (4 * i + 2 * k)).1 (pgs m (4 * i + 2 * k)).2.1 F3 xW
   have ea : (pgs m (4 * i + 2 * k)).2.1.sn = 0 := Fa.l.sn
   have Fu := A4A m (4 * i + 2 * k + 1) qO
   have Pu := (B5d m (j := 4 * i + 2 * k + 1) qO).1
   have lu := Fu.len
   have nu := Fu.n
   have su : 0 < (pgs m (4 * i + 2 * k + 1)).2.1.sk.length := List.length_pos_iff.2 Fu.l.sk
   have gu := Pu.snt.gl
   have ku := A3E (pgs m (4 * i + 2 * k + 1)).1 (pgs m (4 * i + 2 * k + 1)).2.1.own
   have du := A1b (pgs m (4 * i + 2 * k + 1)).1 (pgs m (4 * i + 2 * k + 1)).2.1 F3 xW
   have eu : (pgs m (4 * i + 2 * k + 1)).2.1.sn = 0 := Fu.l.sn
   refine A6 (nx (E4 1 5 6 7 8) (A3 (A4 (A1 (as_ (A0 (H3 1 5 6 7 8 9) (A4 ?_)))))))
   refine T7 3 ?_
   refine F6 ?_
   refine A3 (A1 (mv_ ?_))
   refine A2 (E9 true rfl rfl (ltT qD)) rfl ?_
   refine A0 (N0 1 5 6 7 8 9 47) ?_
   refine D5 rfl ?_
   refine A6 (nx (H3 1 5 6 7 8 9) (A3 (A4 (A1 (mv_ (mv_ ?_))))))
   refine A5 rfl (E0 (Mc := Mk) (R := _) (aS rfl (aS rfl (aS rfl (a0)))) kR qP (FnX.amb qS (B1C tb pb (pgs m (4 * i + 2 * k)).1 (pgs m (4 * i + 2 * k)).2.1 (pgs m (4 * i + 2 * k)).2.2 xW Mk (Jk ++ A) hpk qO sa ⟨by decide⟩ qD (hG.sub qS))) rfl ?_)
   rintro v53 M53 J53 ⟨hp53, vk, vg, rfl, hvk, hvg⟩
   haveI := hvk.cel
   haveI := hvg.cel
   refine mv_ ?_
   refine A2 (A0T rfl) rfl ?_
   refine A2 (A0L rfl) rfl ?_
   refine A5 rfl (C4 (cs := [A6F, vS, G3, G3, vS, .string ByteArray.empty]) kR rfl fun b10 => ?_)
   refine A5 rfl (A9 (vs := [.int .i64 1, vk, .int .u32 (((pgs m (4 * i + 2 * k)).2.1.prev : Nat) : Int), .int .u32 (((pgs m (4 * i + 2 * k)).2.1.sn : Nat) : Int), vg, .string (txt xW)]) rfl rfl rfl kR qR (A8 rfl (A8 hvk.one (A8 rfl (A8 rfl (A8 hvg.one (A8 rfl L6)))))) UpC.upd ?_)
   refine as_ (A0 (T6 1 5 6 7 8 9 10 11) (A3 (A1 (mv_ ?_))))
   refine A2 (A5w rfl) rfl ?_
   refine A0 (T6 1 5 6 7 8 9 10 57) ?_
   refine C6 rfl ?_
   refine A6 (nx (N0 1 5 6 7 8 9 10) (A1 (mv_ ?_)))
   refine A2 (qw_ 6) rfl ?_
   refine A5 rfl (E0 (Mc := M53) (R := _) (aS rfl (aS rfl (a0))) kR qP (FnX.amb qS (B1F tb pb (U7 (pgs m (4 * i + 2 * k)).1 (pgs m (4 * i + 2 * k)).2.1 F3 xW) (V1 (pgs m (4 * i + 2 * k)).1 (pgs m (4 * i + 2 * k)).2.1) (pgs m (4 * i + 2 * k)).2.2 vk vg (H5 (pgs m (4 * i + 2 * k)).1 (pgs m (4 * i + 2 * k)).2.1.own) (A1A (pgs m (4 * i + 2 * k)).1 (pgs m (4 * i + 2 * k)).2.1 F3 xW) xW (pgs m (4 * i + 2 * k)).2.1.prev (pgs m (4 * i + 2 * k)).2.1.sn ((pgs m (4 * i + 2 * k + 1)).1, (pgs m (4 * i + 2 * k + 1)).2.1, 0, xW) M53 (J53 ++ (Jk ++ A)) hp53 qO qO hvk qO Pa.snt.hp (by rw [ea]; decide) hvg qO (by rw [ea]; exact Pa.o) (by rw [ea]; exact Pa.e) (hG.sub qS))) rfl ?_)
   rintro v61 M61 J61 ⟨hp61, rfl⟩
   dsimp only at hp61 ⊢
   change Par _ tb pb (pgs m (4 * i + 2 * k + 1)).1 (pgs m (4 * i + 2 * k + 1)).2.2 (pgs m (4 * i + 2 * k + 1)).2.1 M61 at hp61
   refine mv_ ?_
   refine A2 (A0T rfl) rfl ?_
   refine A2 (A0L rfl) rfl ?_
   refine as_ (as_ (A0 (N0 1 5 6 7 8 9 13) (A1 (mv_ ?_))))
   refine A2 (E9 false rfl rfl (neF rfl)) rfl ?_
   refine A0 (N0 1 5 6 7 8 9 65) ?_
   refine C6 rfl ?_
   refine A6 (nb (nx (H3 1 5 6 7 8 9) (A7 (mv_ ?_))))
   refine A2 (C7 1 rfl rfl (E1 qO qO qO)) rfl ?_
   refine as_ (C0 ?_)
   refine un (H3 1 5 6 7 8 9) ?_
   refine F6 ?_
   refine A3 (A1 (mv_ ?_))
   refine A2 (E9 true rfl rfl (ltT qD)) rfl ?_
   refine A0 (N0 1 5 6 7 8 9 47) ?_
   refine D5 rfl ?_
   refine A6 (nx (H3 1 5 6 7 8 9) (A3 (A4 (A1 (mv_ (mv_ ?_))))))
   refine A5 rfl (E0 (Mc := M61) (R := _) (aS rfl (aS rfl (aS rfl (a0)))) kR qP (FnX.amb qS (B1D tb pb (pgs m (4 * i + 2 * k + 1)).1 (pgs m (4 * i + 2 * k + 1)).2.2 (pgs m (4 * i + 2 * k + 1)).2.1 xW M61 (J61 ++ (J53 ++ (Jk ++ A))) hp61 qO su ⟨by decide⟩ qD (hG.sub qS))) rfl ?_)
   rintro v153 M153 J153 ⟨hp153, wk, wg, rfl, hwk, hwg⟩
   haveI := hwk.cel
   haveI := hwg.cel
   refine mv_ ?_
   refine A2 (A0T rfl) rfl ?_
   refine A2 (A0L rfl) rfl ?_
   refine A5 rfl (C4 (cs := [A6F, vS, G3, G3, vS, .string ByteArray.empty]) kR rfl fun b10 => ?_)
   refine A5 rfl (A9 (vs := [.int .i64 0, wk, .int .u32 (((pgs m (4 * i + 2 * k + 1)).2.1.prev : Nat) : Int), .int .u32 (((pgs m (4 * i + 2 * k + 1)).2.1.sn : Nat) : Int), wg, .string (txt xW)]) rfl rfl rfl kR qR (A8 rfl (A8 hwk.one (A8 rfl (A8 rfl (A8 hwg.one (A8 rfl L6)))))) UpC.upd ?_)
   refine as_ (A0 (T6 1 5 6 7 8 9 10 11) (A3 (A1 (mv_ ?_))))
   refine A2 (A5w rfl) rfl ?_
   refine A0 (T6 1 5 6 7 8 9 10 57) ?_
   refine C6 rfl ?_
   refine A6 (nx (N0 1 5 6 7 8 9 10) (A1 (mv_ ?_)))
   refine A2 (qw_ 6) rfl ?_
   refine A5 rfl (E0 (Mc := M153) (R := _) (aS rfl (aS rfl (a0))) kR qP (FnX.amb qS (B1E tb pb (U7 (pgs m (4 * i + 2 * k + 1)).1 (pgs m (4 * i + 2 * k + 1)).2.1 F3 xW) (pgs m (4 * i + 2 * k + 1)).2.2 (V1 (pgs m (4 * i + 2 * k + 1)).1 (pgs m (4 * i + 2 * k + 1)).2.1) wk wg (H5 (pgs m (4 * i + 2 * k + 1)).1 (pgs m (4 * i + 2 * k + 1)).2.1.own) (A1A (pgs m (4 * i + 2 * k + 1)).1 (pgs m (4 * i + 2 * k + 1)).2.1 F3 xW) xW (pgs m (4 * i + 2 * k + 1)).2.1.prev (pgs m (4 * i + 2 * k + 1)).2.1.sn ((pgs m (4 * i + 2 * k + 2)).1, (pgs m (4 * i + 2 * k + 2)).2.1, 0, xW) M153 (J153 ++ (J61 ++ (J53 ++ (Jk ++ A)))) hp153 qO qO hwk qO Pu.snt.hp (by rw [eu]; decide) hwg qO (by rw [eu]; exact Pu.o) (by rw [eu]; exact Pu.e) (hG.sub qS))) rfl ?_)
   rintro v161 M161 J161 ⟨hp161, rfl⟩
   dsimp only at hp161 ⊢
   change Par _ tb pb (pgs m (4 * i + 2 * k + 2)).1 (pgs m (4 * i + 2 * k + 2)).2.1 (pgs m (4 * i + 2 * k + 2)).2.2 M161 at hp161
   refine mv_ ?_
   refine A2 (A0T rfl) rfl ?_
   refine A2 (A0L rfl) rfl ?_
   refine as_ (as_ (A0 (N0 1 5 6 7 8 9 13) (A1 (mv_ ?_))))
   refine A2 (E9 false rfl rfl (neF rfl)) rfl ?_
   refine A0 (N0 1 5 6 7 8 9 65) ?_
   refine C6 rfl ?_
   refine A6 (nb (nx (H3 1 5 6 7 8 9) (A7 (mv_ ?_))))
   refine A2 (C7 2 rfl rfl (E1 qO qO qO)) rfl ?_
   refine as_ (C0 ?_)
   refine un (H3 1 5 6 7 8 9) ?_
   refine F6 ?_
   refine A3 (A1 (mv_ ?_))
   refine A2 (E9 false rfl rfl (ltF qD)) rfl ?_
   refine A0 (N0 1 5 6 7 8 9 47) ?_
   refine C6 rfl ?_
   refine D0 (te (ue (be rfl (nb (nx (E4 1 5 6 7 8) (A7 (mv_ ?_)))))))
   refine A2 (C7 ((k + 1 : Nat) : Int) rfl rfl (E1 qO qO qO)) rfl ?_
   refine as_ (C0 ?_)
   exact rn (k + 1, M161, J161 ++ (J153 ++ (J61 ++ (J53 ++ Jk)))) ⟨hk2, hp161.mono qS, hrk.mono qS, hlk.mono qS⟩ (by dsimp only; omega) (E4 1 5 6 7 8) (Fit.last qP) (fun _ h => by simpa using h)
  ·
   obtain rfl : k = 2 := by simp [I1] at hc; omega
   have hpz : Par (Jk ++ A) tb pb (pgs m (4 * i + 4)).1 (pgs m (4 * i + 4)).2.1 (pgs m (4 * i + 4)).2.2 Mk := hpk
   clear hpk
   have F4 := A4A m (4 * i + 4) qO
   have z71 := A5t F4.l.ska
   have z77 := A5t F4.l.skb
   refine D0 (te (re (be rfl (nx (D8 1 5 6 7) ?_))))
   have hpz0 := hpz
   obtain ⟨ao, at_, ar, ak, al, aq, bo, bt, br, bk, bl, bq, MP, rfl, h0, h1, hP⟩ := hpz
   haveI := h0.own.cel
   haveI := h0.their.cel
   haveI := h0.root.cel
   haveI := h0.sk.cel
   haveI := h0.tk.cel
   haveI := h0.st.cel
   haveI := h1.own.cel
   haveI := h1.their.cel
   haveI := h1.root.cel
   haveI := h1.sk.cel
   haveI := h1.tk.cel
   haveI := h1.st.cel
   unfold rsC
   refine C9 [0, 1, 2, 3, 4, 5, 6, 7, 8, 9, 10, 11, 13] [(0, 0), (1, 0), (2, 0), (3, 0), (4, 1), (6, 0), (7, 0), (8, 0), (9, 0), (10, 1), (5, 2), (11, 2), (12, 2), (13, 0)] kR kR fun hs => ?_
   refine fm_ hs ?_
   refine C2 hs rfl (E6 rfl) rfl ?_
   refine C2 hs rfl (qf_ 1 1) rfl ?_
   refine C2 hs rfl (D1 (e := 41) (n := 2) (sz := 9) (i := 0) 1 rfl rfl kR kR rfl qD rfl) rfl ?_
   refine G4 hs rfl (T4 (n := 9) (vs := [ao, at_, ar, ak, .int .u32 (((pgs m (4 * i + 4)).2.1.sn : Nat) : Int), al, .int .u32 (((pgs m (4 * i + 4)).2.1.tn : Nat) : Int), .int .u32 (((pgs m (4 * i + 4)).2.1.prev : Nat) : Int), aq]) rfl kR At.mem rfl (R5 [(vP pb)] [ao, at_, ar, ak, .int .u32 (((pgs m (4 * i + 4)).2.1.sn : Nat) : Int), al, .int .u32 (((pgs m (4 * i + 4)).2.1.tn : Nat) : Int), .int .u32 (((pgs m (4 * i + 4)).2.1.prev : Nat) : Int), aq] [bo, bt, br, bk, .int .u32 (((pgs m (4 * i + 4)).2.2.sn : Nat) : Int), bl, .int .u32 (((pgs m (4 * i + 4)).2.2.tn : Nat) : Int), .int .u32 (((pgs m (4 * i + 4)).2.2.prev : Nat) : Int), bq])) rfl ?_
   refine fm_ hs ?_
   refine C2 hs rfl (E6 rfl) rfl ?_
   refine C2 hs rfl (qf_ 1 1) rfl ?_
   refine C2 hs rfl (D1 (e := 41) (n := 2) (sz := 9) (i := 1) 10 rfl rfl kR kR rfl qD rfl) rfl ?_
   refine G4 hs rfl (T4 (n := 9) (vs := [bo, bt, br, bk, .int .u32 (((pgs m (4 * i + 4)).2.2.sn : Nat) : Int), bl, .int .u32 (((pgs m (4 * i + 4)).2.2.tn : Nat) : Int), .int .u32 (((pgs m (4 * i + 4)).2.2.prev : Nat) : Int), bq]) rfl kR At.mem rfl (R5 [(vP pb), ao, at_, ar, ak, .int .u32 (((pgs m (4 * i + 4)).2.1.sn : Nat) : Int), al, .int .u32 (((pgs m (4 * i + 4)).2.1.tn : Nat) : Int), .int .u32 (((pgs m (4 * i + 4)).2.1.prev : Nat) : Int), aq] [bo, bt, br, bk, .int .u32 (((pgs m (4 * i + 4)).2.2.sn : Nat) : Int), bl, .int .u32 (((pgs m (4 * i + 4)).2.2.tn : Nat) : Int), .int .u32 (((pgs m (4 * i + 4)).2.2.prev : Nat) : Int), bq] [])) rfl ?_
   refine L8 rfl (aS rfl a0) kR (FnX.amb qS (A5r (pgs m (4 * i + 4)).2.1 ao at_ ar ak al aq (Jk ++ A) h0 F4.l.ska)) rfl ?_
   rintro v71 M71 J71 ⟨us71, hs71, hl71⟩
   haveI := hs71.cel
   refine L8 rfl (aS rfl a0) kR (FnX.amb qS (A5r (pgs m (4 * i + 4)).2.2 bo bt br bk bl bq (Jk ++ A) h1 F4.l.skb)) rfl ?_
   rintro v77 M77 J77 ⟨us77, hs77, hl77⟩
   haveI := hs77.cel
   refine F5 rfl rfl rfl (F9 (e := 26) (sz := 1) (by_ := 24) rfl rfl kR rfl hs71 (hs77.rd qS) hl77.one qP (by unfold maxLen; omega) qO rfl fun v78 B78 hs78 => ?_)
   haveI := hs78.cel
   refine fa_ hs ?_
   refine E7 (E4 1 5 6 7 14) ?_
   refine A0m (B := B78) qP ?_
   obtain ⟨ln, hln⟩ : ∃ z, scT (pgs m (4 * i + 4)) = z := ⟨_, rfl⟩
   obtain ⟨un, huun⟩ : ∃ z, us71 ++ us77 = z := ⟨_, rfl⟩
   have hrN : Rd B78 1 v78 ln.length un := by rw [← hln, ← huun]; show Rd _ _ _ (scR _ ++ scR _).length _; rw [List.length_append]; exact hs78.rd fun _ h => h
   have hlN : Lst (J77 ++ (J71 ++ (Jk ++ A))) un ln := by rw [← hln, ← huun]; exact Lst.app (hl71.mono qS) (hl77.mono qS)
   have hmln : ln.length ≤ 8 := by rw [← hln]; show (scR _ ++ scR _).length ≤ 8; rw [List.length_append]; omega
   have hdj := (B1R m).2 i hi4
   rw [hlo, hln] at hdj
   refine A1 (as_ (A0 (H3 1 5 6 7 14 15) (A4 ?_)))
   refine D3 (α := Nat) (fun y => [(1, .int .u8 ((n : Nat) : Int)), (5, (vP tb)), (6, (vI i)), (7, v41), (14, v78), (15, (vI y))]) (fun _ => (tb, blk ((vP pb) :: ([ao, at_, ar, ak, .int .u32 (((pgs m (4 * i + 4)).2.1.sn : Nat) : Int), al, .int .u32 (((pgs m (4 * i + 4)).2.1.tn : Nat) : Int), .int .u32 (((pgs m (4 * i + 4)).2.1.prev : Nat) : Int), aq] ++ [bo, bt, br, bk, .int .u32 (((pgs m (4 * i + 4)).2.2.sn : Nat) : Int), bl, .int .u32 (((pgs m (4 * i + 4)).2.2.tn : Nat) : Int), .int .u32 (((pgs m (4 * i + 4)).2.2.prev : Nat) : Int), bq])) 45) :: MP) (fun _ => _) (fun y => y ≤ lo.length) (fun y => lo.length - y) 0 (Nat.zero_le _) (H3 1 5 6 7 14 15) (Fit.last qP) qI ?_
   rintro ia hia
   refine A3 (A1 (mv_ (mv_ ?_)))
   refine A2 (G1 (sz := 1) rfl kR hrk) rfl ?_
   refine A2 (D4 rfl rfl rfl) rfl ?_
   refine A0 (N0 1 5 6 7 14 15 82) ?_
   refine C1 rfl ?_ ?_ <;> intro hc
   ·
    have hal : ia < lo.length := by simp [I1] at hc; omega
    obtain ⟨wa, hwa⟩ : ∃ z, lo[ia]? = some z := ⟨_, List.getElem?_eq_getElem hal⟩
    obtain ⟨va, hva, hba⟩ := hlk.get ia wa hwa
    haveI := hba.cel
    refine A6 (nx (H3 1 5 6 7 14 15) (A3 (A4 (A1 (as_ (A0 (N0 1 5 6 7 14 15 16) (A4 ?_)))))))
    refine D3 (α := Nat) (fun y => [(1, .int .u8 ((n : Nat) : Int)), (5, (vP tb)), (6, (vI i)), (7, v41), (14, v78), (15, (vI ia)), (16, (vI y))]) (fun _ => (tb, blk ((vP pb) :: ([ao, at_, ar, ak, .int .u32 (((pgs m (4 * i + 4)).2.1.sn : Nat) : Int), al, .int .u32 (((pgs m (4 * i + 4)).2.1.tn : Nat) : Int), .int .u32 (((pgs m (4 * i + 4)).2.1.prev : Nat) : Int), aq] ++ [bo, bt, br, bk, .int .u32 (((pgs m (4 * i + 4)).2.2.sn : Nat) : Int), bl, .int .u32 (((pgs m (4 * i + 4)).2.2.tn : Nat) : Int), .int .u32 (((pgs m (4 * i + 4)).2.2.prev : Nat) : Int), bq])) 45) :: MP) (fun _ => _) (fun y => y ≤ ln.length) (fun y => ln.length - y) 0 (Nat.zero_le _) (N0 1 5 6 7 14 15 16) (Fit.last qP) qI ?_
    rintro ib hib
    refine A3 (A1 (mv_ (mv_ ?_)))
    refine A2 (G1 (sz := 1) rfl kR hrN) rfl ?_
    refine A2 (D4 rfl rfl rfl) rfl ?_
    refine A0 (T6 1 5 6 7 14 15 16 88) ?_
    refine C1 rfl ?_ ?_ <;> intro hc
    ·
     have hbl : ib < ln.length := by simp [I1] at hc; omega
     obtain ⟨wb, hwb⟩ : ∃ z, ln[ib]? = some z := ⟨_, List.getElem?_eq_getElem hbl⟩
     obtain ⟨vb, hvb, hbb⟩ := hlN.get ib wb hwb
     haveI := hbb.cel
     have hnq := B82 hdj (List.mem_of_getElem? hwa) (List.mem_of_getElem? hwb)
     refine A6 (nx (N0 1 5 6 7 14 15 16) (A3 (A4 ?_)))
     refine C9 (.range 11) (zp 0 [0, 0, 0, 1, 1, 0, 0, 0, 1, 1, 0]) kR kR fun hs => ?_
     refine fm_ hs ?_
     refine fm_ hs ?_
     refine C2 hs rfl (I5 (sz := 1) (a := ia) rfl rfl kR rfl hrk hal) rfl ?_
     refine G4 hs rfl (A0i (u := va) (hrk.mono qS) rfl kR hva) rfl ?_
     refine G4 hs rfl (Q3 rfl kR (hba.rd.mono qS)) rfl ?_
     refine fm_ hs ?_
     refine fm_ hs ?_
     refine C2 hs rfl (I5 (sz := 1) (a := ib) rfl rfl kR rfl hrN hbl) rfl ?_
     refine G4 hs rfl (A0i (u := vb) (hrN.mono qS) rfl kR hvb) rfl ?_
     refine G4 hs rfl (Q3 rfl kR (hbb.rd.mono qS)) rfl ?_
     refine C2 hs rfl (hnq ▸ B7E rfl rfl rfl rfl hba.lt hbb.lt) rfl ?_
     refine E7 (T6 1 5 6 7 14 15 16 101) ?_
     refine C6 rfl ?_
     refine A6 (nb (nx (N0 1 5 6 7 14 15 16) (A7 (mv_ ?_))))
     refine A2 (C7 ((ib + 1 : Nat) : Int) rfl rfl (E1 qO qO qO)) rfl ?_
     refine as_ (C0 ?_)
     exact rn (ib + 1) hbl qO (N0 1 5 6 7 14 15 16) (Fit.last qP) qI
    ·
     refine D0 (te (re (be rfl (nb (nx (H3 1 5 6 7 14 15) (A7 (mv_ ?_)))))))
     refine A2 (C7 ((ia + 1 : Nat) : Int) rfl rfl (E1 qO qO qO)) rfl ?_
     refine as_ (C0 ?_)
     exact rn (ia + 1) hal qO (H3 1 5 6 7 14 15) (Fit.last qP) qI
   ·
    refine D0 (te (re (be rfl (nb (nx (D6 1 5 6) (A7 (mv_ ?_)))))))
    refine A2 (C7 ((i + 1 : Nat) : Int) rfl rfl (E1 qO qO qO)) rfl ?_
    refine as_ (C0 ?_)
    exact rn (i + 1, (tb, blk ((vP pb) :: ([ao, at_, ar, ak, .int .u32 (((pgs m (4 * i + 4)).2.1.sn : Nat) : Int), al, .int .u32 (((pgs m (4 * i + 4)).2.1.tn : Nat) : Int), .int .u32 (((pgs m (4 * i + 4)).2.1.prev : Nat) : Int), aq] ++ [bo, bt, br, bk, .int .u32 (((pgs m (4 * i + 4)).2.2.sn : Nat) : Int), bl, .int .u32 (((pgs m (4 * i + 4)).2.2.tn : Nat) : Int), .int .u32 (((pgs m (4 * i + 4)).2.2.prev : Nat) : Int), bq])) 45) :: MP, B78 ++ (J77 ++ (J71 ++ Jk))) ⟨hlt, hpz0.mono qS⟩ (by dsimp only; omega) (D6 1 5 6) (Fit.last qP) qI
 ·
  obtain rfl : i = 1 + n % 5 := by simp [I1] at hc; omega
  refine D0 (te (re (be rfl (nx kn (A1 (as_ (A0 (D7 4) ?_)))))))
  refine B4 ?_
  exact ⟨_, [], [], K9 rfl rfl, List.nil_sublist _, by simp, rfl, rfl, rfl⟩

section
variable {H : Type} {enc : TypeId × Value → H} {P : Program} {w : World} {spare : Nat → Bool} {held : Bool} {fuel : Nat} {t e : TypeId} {cs : List Value} {x : DataW H × List MemPlace} {v : Value} {d : DataW H} {p : List MemPlace} {r : Reach} {base : Nat} {k : IntKind}
end
theorem A5u {P : Program} {W : World} {name : String} {g : Nat} {cs : Array Value} (hg : P.globalNamed name = some g) (h : W.var? P name = some cs) : ∃ e fr, W.heap[g]? = some (.cells cs e fr) := by
  unfold World.var? at h
  rw [hg] at h
  simp only [Option.bind_some] at h
  split at h
  · rename_i c e fr hh
    cases h
    exact ⟨e, fr, hh⟩
  · cases h
def B1S (ws : LN) : List Int := ws.map fun n : Nat => (n : Int)
theorem A4B (k : IntKind) (ws : LN) : ((B1S ws).map fun z => Value.int k z).toArray = (nums k ws).toArray := by simp [B1S, nums]
theorem B7f {W : World} {a b : String × DataW Unit} {rest : List (String × DataW Unit)} (h : laidMet Tryz.prog (a :: b :: ("internal/strconv.uint64pow10", Rows.laid_internal_strconv_uint64pow10) :: rest) W) : ∃ e fr, W.heap[4]? = some (Obj.cells (nums .u64 A0b).toArray e fr) := by
  have h' : laidMet Tryz.prog (("internal/strconv.uint64pow10", Lib.tabData .u64 (B1S A0b)) :: rest) W := h.tail.tail
  have h1 := Lib.tabIs_of_head (g := 4) (t := 222) (e := 94) (n := 20) (by kernel_rfl) (by kernel_rfl) (by kernel_rfl) (by kernel_rfl) (by kernel_rfl) (by kernel_rfl) h'
  obtain ⟨ek, fk, h3⟩ := A5u (g := 4) (by kernel_rfl) h1
  rw [A4B] at h3
  exact ⟨ek, fk, h3⟩
end Go.Proofs.YtlilcmjbaknafaaGreatDoor

namespace Go.Proofs.YtlilcmjbaknafaaGreatDoor
open Go.Px
theorem B83 {W : World} {a b : String × DataW Unit} {rest : List (String × DataW Unit)} (h : laidMet Tryz.prog (a :: b :: ("internal/strconv.uint64pow10", Rows.laid_internal_strconv_uint64pow10) :: ("pawl/sha.round", Rows.laid_pawl_sha_round) :: ("pawl/sha.first", Rows.laid_pawl_sha_first) :: rest) W) : Glb (B2J W) := by
  obtain ⟨e4, f4, h4⟩ := B7f h
  have h' : laidMet Tryz.prog (("pawl/sha.round", Lib.tabData .u32 (B1S A1H)) :: ("pawl/sha.first", Lib.tabData .u32 (B1S A2l.list)) :: rest) W := h.tail.tail.tail
  have h1 := Lib.tabIs_of_head (g := 1) (t := 187) (e := 27) (n := 64) (by kernel_rfl) (by kernel_rfl) (by kernel_rfl) (by kernel_rfl) (by kernel_rfl) (by kernel_rfl) h'
  have h2 := Lib.tabIs_of_head (g := 0) (t := 166) (e := 27) (n := 8) (by kernel_rfl) (by kernel_rfl) (by kernel_rfl) (by kernel_rfl) (by kernel_rfl) (by kernel_rfl) h'.tail
  obtain ⟨ek, fk, h3⟩ := A5u (g := 1) (by kernel_rfl) h1
  obtain ⟨ef, ff, h5⟩ := A5u (g := 0) (by kernel_rfl) h2
  rw [A4B] at h3 h5
  exact ⟨⟨ef, ff, A1S.2 h5⟩, ⟨ek, fk, A1S.2 h3⟩, ⟨e4, f4, A1S.2 h4⟩⟩
end Go.Proofs.YtlilcmjbaknafaaGreatDoor

namespace Go.Proofs.YtlilcmjbaknafaaGreatDoor.ratchetTurns
open Go.ChangeShapes Go.WideShapes Go.ChangeAt Go.RowKit
theorem own : ownKnob Tryz.prog.godebug = none := by kernel_rfl
theorem laidOut : laidOutB Tryz.prog = true := by kernel_rfl
noncomputable def laidWorld (os : Os) : World := World.laidAll Tryz.prog os Rows.ratchetTurnsRow.laid
theorem laid_met (os : Os) : laidMetH Tryz.prog Rows.ratchetTurnsRow.laid ((laidWorld os).forCall (fun _ _ => 0) ⟨#[], #[.int .u8 0, .int .u8 0], []⟩).memory := by
  rw [MakeChecks.laidMetH_plain _ _ _ (by kernel_rfl)]; exact laidMet_laidAll _ (by kernel_rfl) (by kernel_rfl)
theorem reads (os : Os) {H : Type} (enc : TypeId × Value → H) : ∃ places, DataW.whole enc Tryz.prog ((laidWorld os).forCall (fun _ _ => 0) ⟨#[], #[.int .u8 0, .int .u8 0], []⟩).memory Tryz.f4.params.toList Rows.ratchetTurnsSpec.vars false (#[.int .u8 0, .int .u8 0] : Array Value).toList 8 = some ([.lit (.int .u8 0), .lit (.int .u8 0)], [], places) :=
  ⟨[], by kernel_rfl⟩
theorem lifted (os : Os) (started : os.Started) (H : Type) (enc : TypeId × Value → H) (F : Stop.Interp) :
    ReturnsInHanded {} Tryz.checked os 4 .any ((OpenSpec.ofChange Rows.ratchetTurnsSpec).preRow enc Tryz.prog Tryz.f4 Rows.ratchetTurnsRow.domain false Rows.ratchetTurnsRow.laid) (((OpenSpec.ofChange Rows.ratchetTurnsSpec).at F).post enc Tryz.prog Tryz.f4 false true false false) := by
  obtain ⟨places, hx⟩ := reads os enc
  refine returnsInHanded_of_row (C := Tryz.checked) (s := (OpenSpec.ofChange Rows.ratchetTurnsSpec)) own started (by kernel_rfl) Tryz.func4
    (witness_row_at (enc := enc) (C := Tryz.checked) false (laidWorld os) #[.int .u8 0, .int .u8 0] (World.laidAll_os _ _ _) (by kernel_rfl) (by kernel_rfl) (by kernel_rfl)
      (OpenSpec.preRow_of_cond 8 hx (by kernel_rfl) (fun k hk => by cases hk) (by kernel_rfl) (laid_met os))) ?_
  intro W base args ds gs before hval0 hW _ _ _ hL _ _
  have hval : ∀ (j : Nat) t v, Tryz.f4.params[j]? = some t → args[j]? = some v → Value.okWide Tryz.prog W .any base t v := hval0
  have hW' := hW
  obtain ⟨p, q, hA0, hV, rfl, hfz, hnd⟩ := hW
  have hA : DataW.TrodAll enc Tryz.prog W 0 (fun _ => true) true Tryz.f4.params.toList args.toList ds p := hA0
  rw [Tryz.params4] at hA hval
  obtain ⟨v0, vs0, d0, ds0, p0, q0, hargs, rfl, rfl, k0, r0_⟩ := trodAll_cons hA
  obtain ⟨v1, vs1, d1, ds1, p1, q1, rfl, rfl, rfl, k1, r1_⟩ := trodAll_cons r0_
  obtain ⟨rfl, rfl, rfl⟩ := trodAll_nil r1_
  obtain rfl : args = #[v0, v1] := by cases args; simp_all
  obtain ⟨rfl, rfl⟩ := trodVars_none hV
  have lt0 : ∀ x ∈ p0, x.block < W.heap.size := by obtain ⟨m, hm⟩ := k0; exact DataW.trod_lt m _ _ _ hm
  have lt1 : ∀ x ∈ p1, x.block < W.heap.size := by obtain ⟨m, hm⟩ := k1; exact DataW.trod_lt m _ _ _ hm
  obtain ⟨x0, rfl, hx0⟩ := Px.inU Tryz.underlying5 rfl (hval 0 5 v0 rfl rfl) k0
  obtain ⟨x1, rfl, hx1⟩ := Px.inU Tryz.underlying5 rfl (hval 1 5 v1 rfl rfl) k1
  clear hA0 hval0
  rw [MakeChecks.laidMetH_plain _ _ _ (by kernel_rfl)] at hL
  have hG := B83 hL
  refine Calls.mono ((A32 x0 x1 _ hx0 hx1 hG).calls (Px.heapA_fx W)) fun e W' ⟨he, bel⟩ => ?_
  subst he
  exact ⟨_, rfl, _, _, _, [], _, [], hW', trodAll_mk1 (shut_bool Tryz.underlying4 _), (trodAll_cons_mk (Below.trod laidOut (by kernel_rfl) (of_decide_eq_true (by kernel_rfl)) k0 bel lt0) (trodAll_cons_mk (Below.trod laidOut (by kernel_rfl) (of_decide_eq_true (by kernel_rfl)) k1 bel lt1) trodAll_mk0)), rfl, bel.frame _, fun h => by cases h⟩
theorem said : Rows.RatchetTurnsSaid :=
  OpenClaim.holds_of_cond 4 Tryz.f4 rfl rfl rfl rfl rfl rfl rfl ⟨rfl, rfl, rfl, rfl, rfl⟩ rfl rfl rfl rfl rfl (by kernel_rfl) Tryz.func4 (by kernel_rfl)
    (of_decide_eq_true (by kernel_rfl)) (by unfold Func.isWrapper; first | (rw [if_pos (by decide +kernel)]; kernel_rfl) | (rw [if_neg (by decide +kernel)]; exact ⟨rfl, rfl⟩))
    (fun os started H enc _ F => by rw [OpenClaim.pre_eq_preRow]; exact lifted os started H enc F)
theorem plain (f : FuncId) (fn : Func) (hf : Tryz.pinned.checked.prog.funcNamed "pawl/pawllaw11.RatchetTurns" = some f) (hfn : Tryz.pinned.checked.prog.funcs[f]? = some fn) :
    true = Tryz.pinned.checked.prog.looks [] ∧ ∀ (j : Nat) t, fn.params[j]? = some t → Tryz.pinned.checked.prog.wantsStandIn t = false := by
  obtain rfl : f = 4 := Option.some.inj ((show Tryz.prog.funcNamed "pawl/pawllaw11.RatchetTurns" = some 4 by kernel_rfl).symm.trans hf) |>.symm
  obtain rfl : fn = Tryz.f4 := (Option.some.inj (Tryz.func4.symm.trans hfn)).symm
  refine ⟨by kernel_rfl, fun j t ht => ?_⟩
  rw [Tryz.params4] at ht
  have hm := Array.mem_of_getElem? ht
  simp only [List.mem_toArray, List.mem_cons, List.not_mem_nil, or_false] at hm
  rcases hm with rfl | rfl
  · exact (show Tryz.prog.wantsStandIn 5 = false by kernel_rfl)
  · exact (show Tryz.prog.wantsStandIn 5 = false by kernel_rfl)
theorem proved : Rows.RatchetTurnsCardSaid :=
  Claim7.holds_tied_plain_at .later [] _ _ _ _ said (fun _ h => by cases h) (by kernel_rfl) (fun _ h => by cases h) ratchetTurns_row_tie rfl ⟨rfl, rfl⟩ (by kernel_rfl) rfl plain (by kernel_rfl)
#print axioms proved
end Go.Proofs.YtlilcmjbaknafaaGreatDoor.ratchetTurns

