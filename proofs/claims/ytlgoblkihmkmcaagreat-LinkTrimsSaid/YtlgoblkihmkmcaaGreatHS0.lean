/- A piece of the run. -/
import Derived.Test.YtlgoblkihmkmcaaGreatHF
namespace Go.Hb
open Go.Proofs
namespace Kn
set_option maxRecDepth 100000
noncomputable section
def cd (f:Nat)(p:List Nat) :Code:=match PP.funcs[f]? with
 | some fn=>match fn.body with
  |some c=>Code.part c p
  |none=>.skip
 |none=>.skip
def od (f:Nat)(p:List Nat) :Array Oper:=match cd f p with
 | .region _ ops _=>ops
 |_=> #[]
def ops (f:Nat)(p:List Nat)(k:Nat) :AItem:=.ops (od f p) k (List.drop k (od f p).toList)
def cl (l:List AV) :AObj:=.cells (putCells .leaf 0 l) l.length [] false
def i (n:Nat) :AV:=.int .i64 (.ofNat n)
def u (n:Nat) :AV:=.int .u8 (.ofNat n)
def p (b o:Nat) :AV:=.ptr b o
def tt :AV:=.bool true
def ff :AV:=.bool false
def s (b l e:Nat) :AV:=.slice b 0 l l e true
def sl (b o l c e:Nat) :AV:=.slice b o l c e true
def sf (b o l c e:Nat) :AV:=.slice b o l c e false
def wK :bO:=aFx PP 100000000 30
def src :Nat:=258216143575769490455977141794184342566354890629696736993778484510097708856204408801057826219054296794322485427269671446064476183516531240900973314691737140859832989949055240924573775867218515310155430104510600143187018295779062662090723724288797233578814812911577624429
def zz (l k:Nat) :AV:=.str l (Nat.div src (Nat.pow 256 k))
def z0 :AV:=.str 96 758829042269268358421509413896140392834352537423065306467654342181421798227134367807743319665851018926987179585409891663844602278530611201891011863829927468785243675319168468682996603068192811626135409624149900861299923292990500717
def z1 :AV:=.str 0 0
def z2 :AV:=.str 6 758829042269268358421509413896140392834352537423065306467654342181421798227134367807743319665851018926987179585409891663844602278530611201891011863829927468785243675319168468682996603068192811626135409624149900861299923292990500717
def z3 :AV:=.str 1 10530868431019973474903470204935013077506729925790014780024516391230018894463937415114420099530187765010480199576318900198732029773332641324354473131157498410965296311003320649010658914104710143585178072968970575969
def z4 :AV:=.str 1 123
def z5 :AV:=.str 4 2451908875028596603056292562963211228490511403835847689775870272710458118110880585181158990489828345601093070482909423345404684025173224817112664024149416575898718161276383476567142390204758882425999751540
def z6 :AV:=.str 1 2229998131068529440250397386046835189054501282804128722796913528064085874676384796822420858452304260573412712331364148981633374228452544063759582080956003279333088504496466590869333586128740428
def z7 :AV:=.str 1 61
def z8 :AV:=.str 3 519211900203612037061340498283234236076125242468930949176874367535134282586254365002368776698667616716914976092838716921776853089326187983099273890479468572729520617168505348001917262
def z9 :AV:=.str 1 124
def z10 :AV:=.str 4 1844611220049373077718756868688509470914472538783467389496004669294159877019916269355692778826023984766333456139046791555020565629256836299629447816810556207405797896003
def z11 :AV:=.str 1 40
def z12 :AV:=.str 3 1677664131465801872508342847766934456480587449535475925127688851074853916561475006670382553080366037435245249197620788941113065110818603261240648695830310505
def z13 :AV:=.str 1 44
def z14 :AV:=.str 1 1525826638922628146709342079490792872530243993910949871067431423466454286027760651150295009829611478776537523297175347525911152034330919615277388
def z15 :AV:=.str 1 41
def z16 :AV:=.str 1 59
def z17 :AV:=.str 3 355259198444576036815844029069597104687766170574107642999717831487407508778330090257873528131659021316221338533138704375808861114627430
def oJ :AV:=.str 4 82715227837808438766711398276872258793508208024806259898403154566746090720018858615745214776056590796499824741189066408157549
def z19 :AV:=.str 1 75229061474427397812825254983974681448224335349374323321538353927049766498402149059752641529536586673657279553653
def z20 :AV:=.str 1 58
def z21 :AV:=.str 4 17515630804567457598826208846637672150559801456838455824539613427373060606979334042349979637548464041589
def z22 :AV:=.str 3 949524248538303073461015445344257740996677170108520000599392831701018008405859921513
def z23 :AV:=.str 3 3373387786134795879394997958457685673027545086130345455186560001340787
def z24 :AV:=.str 4 3068078318515104801367668149812457771101931108324011306819
def z25 :AV:=.str 1 2790400975313882373818767655222889307971791921
def z26 :AV:=.str 3 166320858914487503398583391620092946766
def z27 :AV:=.str 3 9016271828237121396
def z28 :AV:=.str 1 2099264373
def z29 :AV:=.str 1 125
def z30 :AV:=zz 112 0
def z31 :AV:=zz 6 0
def z32 :AV:=zz 1 7
def z33 :AV:=zz 4 11
def z34 :AV:=zz 1 16
def z35 :AV:=zz 3 20
def z36 :AV:=zz 4 26
def z37 :AV:=zz 3 31
def z38 :AV:=zz 1 36
def z39 :AV:=zz 3 40
def pS :AV:=zz 3 44
def z41 :AV:=zz 1 48
def z42 :AV:=zz 1 52
def z43 :AV:=zz 3 57
def z44 :AV:=zz 5 63
def z45 :AV:=zz 1 69
def z46 :AV:=zz 3 73
def z47 :AV:=.str 2 15917
def z48 :AV:=zz 1 80
def z49 :AV:=zz 4 84
def z50 :AV:=zz 1 89
def z51 :AV:=zz 1 92
def z52 :AV:=zz 1 98
def z53 :AV:=zz 3 102
def z54 :AV:=zz 1 106
def z55 :AV:=.str 77 132918246452123662242181372512676877816760810728008955027409191722415135055316759454948106000802224698204447636825610152205624558585958526554664187326784225951083765344545921859655593837
def z56 :AV:=.str 6 132918246452123662242181372512676877816760810728008955027409191722415135055316759454948106000802224698204447636825610152205624558585958526554664187326784225951083765344545921859655593837
def z57 :AV:=.str 1 1844611220049358932845681331889565704684208629182808822746924999924843722389166670513173468271026288176134939012307397579537923107211840425471496664560969529920772055139
def z58 :AV:=.str 3 429482017655241986002233189504958154792945978507122216454456793126846599017541546028380624081712748896362012953569041001502872236820831993937375178691225482598
def z59 :AV:=.str 3 99996574608432591427637541085704731473919464858975777508331647405132325137392977724871743489455606065774805134527627611882722060387216506976954447732
def z60 :AV:=.str 1 23282266829263556615365096620680934627055997228942759686226874451416620318170864536629930019717571806575824770733627400333695593380186824821
def z61 :AV:=.str 4 5420825171578572274969214718016082101281731675598481596966012020459543056360181545985380657882795624103356332223309995684236193397
def z62 :AV:=.str 3 293863521384479769298060588992448370739437651347294565814367634722371753540445237840103470600898050250262212201
def z63 :AV:=.str 1 1044012952123124795271495873523009730161837365426771973682092332759807197605700103224902870383410
def z64 :AV:=.str 4 2308165588028685377901
def z65 :AV:=.str 5 14488590218174679448030704364033939975956418808416714306715083093177287543253108
def z66 :AV:=.str 1 51473812654644317802985768978039757740661808357233703882780713077
def z67 :AV:=.str 1 112
def y1 :List (AItem) :=[(ops 203 [1,1,0] 1),(.code (cd 203 [1,1,1]))]
def y2 :LFr:= ⟨203,[(0,z0),(2,.nils),(3,(i 0))],19,y1,[],.run,.normal,none⟩
def y4 :LFr:= ⟨163,[(2,.nilp),(3,(i 0))],15,[(ops 163 [1,0] 1),(.code (cd 163 [1,1]))],[],.run,.normal,none⟩
def y5 :List (AItem) :=[(ops 108 [1,0] 1),(.code (cd 108 [1,1]))]
def y6 :List (AItem) :=[(ops 32 [1,0] 1),(.code (cd 32 [1,1]))]
def y7 :LFr:= ⟨32,[(2,(p 1 0))],11,y6,[],.run,.normal,none⟩
def y8 :List (AItem) :=[(ops 29 [1,0] 1),(.code (cd 29 [1,1]))]
def y9 :LFr:= ⟨29,[(2,(p 0 0))],12,y8,[],.run,.normal,none⟩
def y11 :LFr:= ⟨6,[(0,ff)],240,[(ops 6 [1,0] 0),(.code (cd 6 [1,1]))],[],.run,.normal,none⟩
def y15 :List (AV) :=[(i 3),z2,(i 0),(i 0),(i 1),z3,(i 0),(i 7),(i 5),z4,(i 0),(i 9),(i 3),z5,(i 0),(i 11),(i 2),z6,(i 0),(i 16),(i 5),z7,(i 0),(i 18),(i 2),z8,(i 0),(i 20),(i 5),z9,(i 0),(i 24),(i 2),z10,(i 0),(i 26),(i 5),z11,(i 0),(i 30),(i 3),z12,(i 0),(i 31),(i 5),z13,(i 0),(i 34),(i 2),z14,(i 0),(i 36),(i 5),z15,(i 0),(i 37),(i 5),z16,(i 0),(i 38),(i 3),z17,(i 0),(i 40),(i 1),oJ,(i 0),(i 44),(i 5),z11,(i 0),(i 48),(i 1),z19,(i 0),(i 49),(i 5),z20,(i 0),(i 51),(i 3),z21,(i 0),(i 53),(i 5),z15,(i 0),(i 57),(i 5),z20,(i 0),(i 59),(i 3),z22,(i 0),(i 61),(i 5),z7,(i 0),(i 65),(i 1),z23,(i 0),(i 67),(i 5),z11,(i 0),(i 71),(i 2),z24,(i 0),(i 72),(i 5),z11,(i 0),(i 76),(i 4),z25,(i 1),(i 77),(i 5),z13,(i 0),(i 78),(i 2),z26,(i 0),(i 80),(i 5),z15,(i 0),(i 83),(i 5),z15,(i 0),(i 84),(i 5),(.str 1 43),(i 0),(i 86),(i 1),z27,(i 0),(i 88),(i 1),z28,(i 0),(i 92),(i 5),z16,(i 0),(i 93),(i 5),z29,(i 0),(i 95)]
def y16 :List (AItem) :=[(ops 108 [1,1,1,1,1,0,0] 1),(.code (cd 108 [1,1,1,1,1,0,1])),(.code (cd 108 [1,1,1,1,1,1]))]
def y17 :List (AV) :=[(i 1),(i 0),z1,.nils,(i 8),(i 0),z14,.nils]
def y18 :List (AV) :=[(i 1),(i 1),z1,.nils,.nils,(i 14),(i 0),z26,.nils,.nils]
def y20 :List (AV) :=[(i 4),(i 0),z27,.nils,.nils,(i 4),(i 0),z28,.nils,.nils]
def y26 :List (AV) :=[z3,(sf 662 0 2 2 2),(sf 665 0 1 1 2),(sf 735 0 2 2 1),(sf 751 0 9 9 4)]
def y31 :LFr:= ⟨6,[(0,ff),(20,(.agg y26))],240,[(ops 6 [1,0] 1),(.code (cd 6 [1,1]))],[],.run,.normal,none⟩
def y33 :Nat×AObj:= (662,(.cells (putCells .leaf 0 [z8,(i 0),z10,(i 2)]) 4 [659] false))
def y35 :Nat×AObj:= (715,(.cells (putCells .leaf 0 [(i 4),(i 5)]) 2 [707] false))
def y37 :Nat×AObj:= (717,(.cells (putCells .leaf 0 [(i 2),(i 3)]) 2 [693] false))
def y39 :Nat×AObj:= (735,(.cells (putCells .leaf 0 [z23,z27]) 2 [688] false))
def y42 :Nat×AObj:= (751,(cl [(i 9),(i 0),(sf 755 0 2 2 1),.nils,(i 6),(i 0),(sf 717 0 2 2 1),.nils,(i 4),(.int .i64 (.negSucc 1)),.nils,.nils,(i 14),(i 1),(sf 715 0 2 2 1),.nils,(i 1),(i 1),.nils,.nils,(i 14),(i 0),.nils,.nils,(i 6),(i 0),(sf 753 0 2 2 1),.nils,(i 4),(.int .i64 (.negSucc 2)),.nils,.nils,(i 4),(i 0),.nils,.nils]))
def y44 :Nat×AObj:= (753,(.cells (putCells .leaf 0 [(i 7),(i 8)]) 2 [740] false))
def y46 :Nat×AObj:= (755,(.cells (putCells .leaf 0 [(i 1),(i 6)]) 2 [719] false))
def y47 :Nat×AObj:= (766,(cl [z1,.nils,.nils,.nils,.nils]))
def y48 :List (AItem) :=[(ops 239 [1,1,1,0,0,0,1,0,1,1,1] 6),(.inBlock 1),(.inLoop (cd 239 [1,1,1,0,0,0])),(.inBlock 0),(.code (cd 239 [1,1,1,1]))]
def y50 :LFr:= ⟨203,[(0,z30),(2,.nils),(3,(i 0))],19,y1,[],.run,.normal,none⟩
def y51 :LFr:= ⟨108,[(2,(p 768 0)),(3,(i 0))],27,y5,[],.run,.normal,none⟩
def y52 :LFr:= ⟨32,[(2,(p 767 0))],11,y6,[],.run,.normal,none⟩
def y53 :LFr:= ⟨29,[(2,(p 766 0))],12,y8,[],.run,.normal,none⟩
def y54 :Nat×AObj:= (767,(cl [z1,.nils,.nils]))
def y55 :Nat×AObj:= (768,(cl [z1,.nils,.nils]))
def y56 :List (AItem) :=[(ops 108 [1,1,1,0] 1),(.code (cd 108 [1,1,1,1]))]
def y57 :List (AV) :=[(i 3),z31,(i 0),(i 0),(i 1),z32,(i 0),(i 7),(i 5),z4,(i 0),(i 9),(i 3),z33,(i 0),(i 11),(i 2),z34,(i 0),(i 16),(i 5),z7,(i 0),(i 18),(i 2),z35,(i 0),(i 20),(i 5),z9,(i 0),(i 24),(i 2),z36,(i 0),(i 26),(i 5),z11,(i 0),(i 30),(i 3),z37,(i 0),(i 31),(i 5),z13,(i 0),(i 34),(i 2),z38,(i 0),(i 36),(i 5),z15,(i 0),(i 37),(i 5),z16,(i 0),(i 38),(i 3),z39,(i 0),(i 40),(i 1),pS,(i 0),(i 44),(i 5),z11,(i 0),(i 47),(i 1),z41,(i 0),(i 48),(i 5),z20,(i 0),(i 50),(i 2),z42,(i 0),(i 52),(i 5),z15,(i 0),(i 53),(i 5),z20,(i 0),(i 55),(i 3),z43,(i 0),(i 57),(i 5),z7,(i 0),(i 61),(i 3),z44,(i 0),(i 63),(i 1),z45,(i 0),(i 69),(i 5),z4,(i 0),(i 71),(i 2),z46,(i 0),(i 73),(i 5),z47,(i 0),(i 77),(i 4),z48,(i 0),(i 80),(i 5),z9,(i 0),(i 82),(i 2),z49,(i 0),(i 84),(i 5),z11,(i 0),(i 88),(i 1),z50,(i 0),(i 89),(i 5),z13,(i 0),(i 90),(i 1),z51,(i 0),(i 92),(i 5),z15,(i 0),(i 93),(i 5),z47,(i 0),(i 95),(i 1),z52,(i 0),(i 98),(i 5),(.str 1 43),(i 0),(i 100),(i 1),z53,(i 0),(i 102),(i 1),z54,(i 0),(i 106),(i 5),z29,(i 0),(i 108),(i 5),z16,(i 0),(i 109),(i 5),z29,(i 0),(i 111)]
def y58 :List (AV) :=[(i 1),(i 0),z1,.nils,(i 8),(i 0),z38,.nils]
def y63 :List (AItem) :=[(ops 8 [1,1,1,0,1,0,0,1,0,0,1,0] 25),(.code (cd 8 [1,1,1,0,1,0,0,1,0,0,1,1])),(.inBlock 3),(.code (cd 8 [1,1,1,0,1,0,0,1,1])),(.inLoop (cd 8 [1,1,1,0,1,0,0])),(.inBlock 2),(.code (cd 8 [1,1,1,1]))]
def y64 :List (AV) :=[(i 2),(i 0),z50,.nils,(i 2),(i 0),z51,.nils]
def y65 :List (AV) :=[(i 4),(i 0),z53,.nils,.nils,(i 4),(i 0),z54,.nils,.nils]
def y69 :LFr:= ⟨108,[(2,(p 1676 0)),(3,(i 0))],27,y5,[],.run,.normal,none⟩
def y70 :LFr:= ⟨32,[(2,(p 1675 0))],11,y6,[],.run,.normal,none⟩
def y71 :LFr:= ⟨29,[(2,(p 1674 0))],12,y8,[],.run,.normal,none⟩
def y72 :List (AV) :=[z32,(sf 1542 0 2 2 2),(sf 1545 0 1 1 2),.nils,(sf 1658 0 8 8 4)]
def y77 :LFr:= ⟨6,[(0,ff),(20,(.agg y26)),(21,(.agg y72))],240,[(ops 6 [1,0] 2),(.code (cd 6 [1,1]))],[],.run,.normal,none⟩
def y79 :Nat×AObj:= (1542,(.cells (putCells .leaf 0 [z35,(i 0),z36,(i 2)]) 4 [1539] false))
def y80 :List (AV) :=[(i 2),(i 0),z1,.nils,(i 2),(i 0),z1,.nils]
def y82 :Nat×AObj:= (1584,(.cells (putCells .leaf 0 y80) 8 [1575] false))
def y85 :Nat×AObj:= (1586,(.cells (putCells .leaf 0 [(i 6),(i 0),z1,.nils,(i 6),(i 1),z1,(sf 1584 0 2 2 4)]) 8 [1559] false))
def y88 :Nat×AObj:= (1658,(cl [(i 15),(i 0),(sf 1664 0 3 3 1),(sf 1586 0 2 2 4),(i 4),(i 0),.nils,.nils,(i 1),(i 0),.nils,.nils,(i 9),(i 0),(sf 1662 0 2 2 1),.nils,(i 4),(i 1),.nils,.nils,(i 6),(i 0),(sf 1660 0 2 2 1),.nils,(i 4),(.int .i64 (.negSucc 0)),.nils,.nils,(i 4),(i 2),.nils,.nils]))
def y90 :Nat×AObj:= (1660,(.cells (putCells .leaf 0 [(i 6),(i 7)]) 2 [1647] false))
def y92 :Nat×AObj:= (1662,(.cells (putCells .leaf 0 [(i 4),(i 5)]) 2 [1628] false))
def y94 :Nat×AObj:= (1664,(.cells (putCells .leaf 0 [(i 1),(i 2),(i 3)]) 3 [1609,1601] false))
def y95 :Nat×AObj:= (1674,(cl [z1,.nils,.nils,.nils,.nils]))
def y96 :Nat×AObj:= (1675,(cl [z1,.nils,.nils]))
def y97 :Nat×AObj:= (1676,(cl [z1,.nils,.nils]))
def y98 :LFr:= ⟨203,[(0,z55),(2,.nils),(3,(i 0))],19,y1,[],.run,.normal,none⟩
def y99 :List (AV) :=[(i 4),(i 0),z64,.nils,.nils,(i 4),(i 0),z28,.nils,.nils]
def oU :Nat×AObj:= (2099,(cl [z59,(i 0),z65,(i 1)]))
def oV :Nat×AObj:= (2139,(cl [(i 1),(i 2),.nils,.nils,(i 6),(i 0),(sf 2141 0 2 2 1),.nils,(i 4),(.int .i64 (.negSucc 2)),.nils,.nils,(i 4),(i 0),.nils,.nils]))
def oW :Nat×AObj:= (2141,(.cells (putCells .leaf 0 [(i 2),(i 3)]) 2 [2128] false))
def bHv :LFr:= ⟨21,[(2,(p 2302 0)),(3,(p 2303 0))],31,[(ops 21 [1,1,0] 1),(.code (cd 21 [1,1,1]))],[(.fn 44 [(p 2303 0),(.func 91 [] [(p 2302 0)])])],.run,.normal,none⟩
def bHw :LFr:= ⟨6,[(0,ff),(1,(p 2147 0)),(2,(p 2148 0)),(3,(p 2149 0)),(4,(sf 2300 0 2 2 1)),(5,(i 0))],240,[(ops 6 [1,1,1,0] 4),(.code (cd 6 [1,1,1,1]))],[],.run,.normal,none⟩
def pN :Nat×AObj:= (2147,(cl y26))
def qR :Nat×AObj:= (2148,(cl y72))
def pO :Nat×AObj:= (2149,(cl [z57,.nils,(sf 2099 0 2 2 2),(sf 2123 0 1 1 1),(sf 2139 0 4 4 4)]))
def pP :Nat×AObj:= (2300,(.cells (putCells .leaf 0 [z23,z27]) 2 [2298] false))
def bFY :List (AItem) :=[(ops 69 [1,1,1,0,1,0,0,1,1,0,0,1,0] 1),(.code (cd 69 [1,1,1,0,1,0,0,1,1,0,0,1,1])),(.inBlock 1),(.code (cd 69 [1,1,1,0,1,0,0,1,1,1])),(.inLoop (cd 69 [1,1,1,0,1,0,0])),(.inBlock 0),(.code (cd 69 [1,1,1,1]))]
def bHx :AObj:=.map [(z59,(i 0),0),(z65,(i 1),1),(pS,(i 2),2)] 3
def bHy :AObj:=.map [(z59,(i 0),0),(z65,(i 0),1),(pS,(i 1),2)] 3
def bDX :List (AItem) :=[(ops 12 [1,1,0] 1),(.code (cd 12 [1,1,1]))]
def qT :Nat×AObj:= (2697,(.cells (putCells .leaf 0 [(i 2),(i 1),(i 0)]) 3 [2695,2689] false))
def bDY :AObj:=cl [.nils,.nils,(i 0),.nils]
def bHz :AObj:=.map [(oJ,(i 0),0),(pS,(i 1),1),(z59,(i 2),2)] 3
def bHA :List (AV) :=[(p 3349 0),(.func 68 [] [(p 3348 0)])]
def bHB :LFr:= ⟨6,[(0,ff),(1,(p 2147 0)),(2,(p 2148 0)),(3,(p 2149 0)),(4,(sf 2300 0 2 2 1)),(5,(i 0)),(6,(sf 2697 0 3 3 1)),(7,(i 0)),(8,(p 3346 0)),(9,(i 0))],240,[(ops 6 [1,1,1,1,1,0] 4),(.code (cd 6 [1,1,1,1,1,1]))],[],.run,.normal,none⟩
def tP :Nat×AObj:= (3088,(.cells (putCells .leaf 0 [z8,(i 0),z10,(i 2)]) 4 [3081] false))
def tQ :Nat×AObj:= (3170,(.cells (putCells .leaf 0 [(i 4),(i 5)]) 2 [3164] false))
def tR :Nat×AObj:= (3172,(.cells (putCells .leaf 0 [(i 2),(i 3)]) 2 [3154] false))
def tU :Nat×AObj:= (3190,(.cells (putCells .leaf 0 [(i 7),(i 8)]) 2 [3184] false))
def tV :Nat×AObj:= (3192,(.cells (putCells .leaf 0 [(i 1),(i 6)]) 2 [3174] false))
def tW :Nat×AObj:= (3245,(.cells (putCells .leaf 0 y80) 8 [3239] false))
def tX :Nat×AObj:= (3246,(.cells (putCells .leaf 0 [(i 6),(i 0),z1,.nils,(i 6),(i 1),z1,(sf 3245 0 2 2 4)]) 8 [3228] false))
def tY :Nat×AObj:= (3286,(.cells (putCells .leaf 0 [(i 15),(i 16)]) 2 [3280] false))
def tZ :Nat×AObj:= (3288,(.cells (putCells .leaf 0 [(i 13),(i 14)]) 2 [3270] false))
def uA :Nat×AObj:= (3290,(.cells (putCells .leaf 0 [(i 10),(i 11),(i 12)]) 3 [3260,3254] false))
def uB :Nat×AObj:= (3330,(cl [(i 9),(i 0),(sf 3192 0 2 2 1),.nils,(i 6),(i 0),(sf 3172 0 2 2 1),.nils,(i 4),(.int .i64 (.negSucc 1)),.nils,.nils,(i 14),(i 1),(sf 3170 0 2 2 1),.nils,(i 1),(i 1),.nils,.nils,(i 14),(i 0),.nils,.nils,(i 6),(i 0),(sf 3190 0 2 2 1),.nils,(i 4),(.int .i64 (.negSucc 2)),.nils,.nils,(i 4),(i 0),.nils,.nils,(i 15),(i 0),(sf 3290 0 3 3 1),(sf 3246 0 2 2 4),(i 4),(i 0),.nils,.nils,(i 1),(i 0),.nils,.nils,(i 9),(i 0),(sf 3288 0 2 2 1),.nils,(i 4),(i 1),.nils,.nils,(i 6),(i 0),(sf 3286 0 2 2 1),.nils,(i 4),(.int .i64 (.negSucc 1)),.nils,.nils,(i 4),(i 2),.nils,.nils,(i 1),(i 2),.nils,.nils,(i 6),(i 0),(sf 3332 0 2 2 1),.nils,(i 4),(.int .i64 (.negSucc 0)),.nils,.nils,(i 4),(i 0),.nils,.nils]))
def uC :Nat×AObj:= (3332,(.cells (putCells .leaf 0 [(i 19),(i 20)]) 2 [3326] false))
def uD :Nat×AObj:= (3345,(.cells (putCells .leaf 0 [(i 0),(i 9),(i 17),(i 18)]) 4 [3342,3339,3336] false))
def uE :Nat×AObj:= (3346,(cl [(sf 3330 0 21 21 4),(sf 3345 0 4 4 1),(i 0),(sf 3088 0 2 2 2)]))
def wL :Nat×AObj:= (3738,(.cells (putCells .leaf 0 [z35,(i 0),z36,(i 2)]) 4 [3731] false))
def wM :Nat×AObj:= (3799,(.cells (putCells .leaf 0 [(i 2),(i 3)]) 2 [3793] false))
def wN :Nat×AObj:= (3852,(.cells (putCells .leaf 0 y80) 8 [3846] false))
def wO :Nat×AObj:= (3853,(.cells (putCells .leaf 0 [(i 6),(i 0),z1,.nils,(i 6),(i 1),z1,(sf 3852 0 2 2 4)]) 8 [3835] false))
def wP :Nat×AObj:= (3893,(.cells (putCells .leaf 0 [(i 10),(i 11)]) 2 [3887] false))
def wQ :Nat×AObj:= (3895,(.cells (putCells .leaf 0 [(i 8),(i 9)]) 2 [3877] false))
def wR :Nat×AObj:= (3897,(.cells (putCells .leaf 0 [(i 5),(i 6),(i 7)]) 3 [3867,3861] false))
def wS :Nat×AObj:= (3959,(.cells (putCells .leaf 0 [(i 16),(i 17)]) 2 [3953] false))
def wT :Nat×AObj:= (3961,(.cells (putCells .leaf 0 [(i 14),(i 15)]) 2 [3943] false))
def wU :Nat×AObj:= (3977,(cl [(i 1),(i 2),.nils,.nils,(i 6),(i 0),(sf 3799 0 2 2 1),.nils,(i 4),(.int .i64 (.negSucc 3)),.nils,.nils,(i 4),(i 0),.nils,.nils,(i 15),(i 0),(sf 3897 0 3 3 1),(sf 3853 0 2 2 4),(i 4),(i 0),.nils,.nils,(i 1),(i 0),.nils,.nils,(i 9),(i 0),(sf 3895 0 2 2 1),.nils,(i 4),(i 1),.nils,.nils,(i 6),(i 0),(sf 3893 0 2 2 1),.nils,(i 4),(.int .i64 (.negSucc 2)),.nils,.nils,(i 4),(i 2),.nils,.nils,(i 9),(i 0),(sf 3981 0 2 2 1),.nils,(i 6),(i 0),(sf 3961 0 2 2 1),.nils,(i 4),(.int .i64 (.negSucc 2)),.nils,.nils,(i 14),(i 1),(sf 3959 0 2 2 1),.nils,(i 1),(i 1),.nils,.nils,(i 14),(i 0),.nils,.nils,(i 6),(i 0),(sf 3979 0 2 2 1),.nils,(i 4),(.int .i64 (.negSucc 0)),.nils,.nils,(i 4),(i 0),.nils,.nils]))
def wV :Nat×AObj:= (3979,(.cells (putCells .leaf 0 [(i 19),(i 20)]) 2 [3973] false))
def wW :Nat×AObj:= (3981,(.cells (putCells .leaf 0 [(i 13),(i 18)]) 2 [3963] false))
def xC :Nat×AObj:= (3994,(.cells (putCells .leaf 0 [(i 0),(i 1),(i 4),(i 12)]) 4 [3991,3988,3985] false))
def xE :Nat×AObj:= (3995,(cl [(sf 3977 0 21 21 4),(sf 3994 0 4 4 1),(i 3),(sf 3738 0 2 2 2)]))
def bHC :LFr:= ⟨108,[(2,(p 4702 0)),(3,(i 0))],27,y5,[],.run,.normal,none⟩
def bDZ :LFr:= ⟨32,[(2,(p 4701 0))],11,y6,[],.run,.normal,none⟩
def bHD :List (Nat×AV) :=[(0,ff),(1,(p 2147 0)),(2,(p 2148 0)),(3,(p 2149 0)),(4,(sf 2300 0 2 2 1)),(5,(i 0)),(6,(sf 2697 0 3 3 1)),(7,(i 0)),(8,(p 3346 0)),(9,(i 0)),(10,(p 3995 0)),(11,(i 0)),(13,(i 7)),(14,(p 4700 0)),(15,(i 0))]
def bD0 :LFr:= ⟨6,bHD,240,[(ops 6 [1,1,1,1,1,1,1,1,0] 0),(.code (cd 6 [1,1,1,1,1,1,1,1,1]))],[],.run,.normal,none⟩
def aAH :Nat×AObj:= (4565,(.cells (putCells .leaf 0 [z8,(i 0),z10,(i 2)]) 4 [4558] false))
def aAI :Nat×AObj:= (4634,(.cells (putCells .leaf 0 [(i 4),(i 5)]) 2 [4628] false))
def aAJ :Nat×AObj:= (4636,(.cells (putCells .leaf 0 [(i 2),(i 3)]) 2 [4618] false))
def aAK :Nat×AObj:= (4654,(.cells (putCells .leaf 0 [(i 7),(i 8)]) 2 [4648] false))
def aAL :Nat×AObj:= (4656,(.cells (putCells .leaf 0 [(i 1),(i 6)]) 2 [4638] false))
def aAM :Nat×AObj:= (4696,(cl [(i 9),(i 0),(sf 4656 0 2 2 1),.nils,(i 6),(i 0),(sf 4636 0 2 2 1),.nils,(i 4),(.int .i64 (.negSucc 3)),.nils,.nils,(i 14),(i 1),(sf 4634 0 2 2 1),.nils,(i 1),(i 1),.nils,.nils,(i 14),(i 0),.nils,.nils,(i 6),(i 0),(sf 4654 0 2 2 1),.nils,(i 4),(.int .i64 (.negSucc 1)),.nils,.nils,(i 4),(i 0),.nils,.nils,(i 1),(i 2),.nils,.nils,(i 6),(i 0),(sf 4698 0 2 2 1),.nils,(i 4),(.int .i64 (.negSucc 0)),.nils,.nils,(i 4),(i 0),.nils,.nils]))
def aAN :Nat×AObj:= (4698,(.cells (putCells .leaf 0 [(i 11),(i 12)]) 2 [4692] false))
def aAO :Nat×AObj:= (4699,(.cells (putCells .leaf 0 [oJ,(i 0),z59,(i 9),z65,(i 10)]) 6 [4680,4657] false))
def aAP :Nat×AObj:= (4700,(cl [z67,(sf 4565 0 2 2 2),(sf 4699 0 3 3 2),(sf 4569 0 1 1 1),(sf 4696 0 13 13 4)]))
def bD1 :Nat×AObj:= (4701,(cl [z1,.nils,.nils]))
def bD2 :Nat×AObj:= (4702,(cl [z1,.nils,.nils]))
def aIc :Nat×AObj:= (4979,(.cells (putCells .leaf 0 y17) 8 [4961] false))
def bHE :List (AV) :=[z8,.nils,z10,(sf 4979 0 2 2 4)]
def aId :Nat×AObj:= (4983,(.cells (putCells .leaf 0 bHE) 4 [4948] false))
def aIe :Nat×AObj:= (4988,(cl [z6,(sf 4983 0 2 2 2)]))
def aIf :Nat×AObj:= (5096,(cl y18))
def aIg :Nat×AObj:= (5115,(cl [(i 4),(i 0),z23,.nils,.nils,(i 14),(i 0),z24,(sf 5096 0 2 2 5),.nils]))
def aIh :Nat×AObj:= (5136,(cl y20))
def aIi :Nat×AObj:= (5144,(cl [(i 6),(i 0),z1,(s 5115 2 5),.nils,(i 6),(i 0),z1,(s 5136 2 5),.nils]))
def aIj :Nat×AObj:= (5153,(cl [oJ,z19,(i 3),(i 0),z1,.nils,(i 1),(i 0),z1,.nils,(i 9),(i 0),z1,(s 5144 2 5),.nils]))
def bD3 :List (AV) :=[z3,(sf 4988 0 1 1 2),(sf 5153 0 1 1 15)]
def bHF :LFr:= ⟨108,[(2,(p 5219 0)),(3,(i 0))],27,y5,[],.run,.normal,none⟩
def bD4 :LFr:= ⟨32,[(2,(p 5218 0))],11,y6,[],.run,.normal,none⟩
def aY8 :LFr:= ⟨6,[(0,ff),(1,(p 2147 0)),(2,(p 2148 0)),(3,(p 2149 0)),(4,(sf 2300 0 2 2 1)),(5,(i 0)),(6,(sf 2697 0 3 3 1)),(7,(i 0)),(8,(p 3346 0)),(9,(i 0)),(10,(p 3995 0)),(11,(i 0)),(13,(i 7)),(14,(p 4700 0)),(15,(i 0)),(68,(.agg bD3))],240,[(ops 6 [1,1,1,1,1,1,1,1,0] 1),(.code (cd 6 [1,1,1,1,1,1,1,1,1]))],[],.run,.normal,none⟩
def aY9 :Nat×AObj:= (5218,(cl [z1,.nils,.nils]))
def bD5 :Nat×AObj:= (5219,(cl [z1,.nils,.nils]))
def aUF :Nat×AObj:= (5537,(.cells (putCells .leaf 0 y58) 8 [5519] false))
def aUG :Nat×AObj:= (5541,(.cells (putCells .leaf 0 [z35,.nils,z36,(sf 5537 0 2 2 4)]) 4 [5506] false))
def bFZ :AObj:=cl [z34,(sf 5541 0 2 2 2)]
def aUH :Nat×AObj:= (5546,bFZ)
def aUI :Nat×AObj:= (5678,(.cells (putCells .leaf 0 y64) 8 [5670] false))
def aUJ :Nat×AObj:= (5715,(cl y65))
def aUK :Nat×AObj:= (5723,(cl [(i 4),(i 0),z52,.nils,.nils,(i 6),(i 0),z1,(s 5715 2 5),.nils]))
def aUL :Nat×AObj:= (5731,(.cells (putCells .leaf 0 [(i 6),(i 0),z46,.nils,(i 6),(i 0),z49,(sf 5678 0 2 2 4)]) 8 [5651] false))
def aUM :Nat×AObj:= (5733,(.cells (putCells .leaf 0 [(i 4),(i 0),z45,.nils,.nils,(i 1),(i 0),z1,.nils,.nils,(i 9),(i 0),z1,(s 5723 2 5),.nils]) 15 [5653] false))
def aUN :Nat×AObj:= (5749,(cl [pS,z41,(i 8),(i 0),z42,.nils,(i 1),(i 0),z1,.nils,(i 15),(i 0),z1,(sf 5733 0 3 3 5),(sf 5731 0 2 2 4)]))
def aZa :List (AV) :=[z32,(sf 5546 0 1 1 2),(sf 5749 0 1 1 15)]
def bHG :LFr:= ⟨32,[(2,(p 5831 0))],11,y6,[],.run,.normal,none⟩
def bHH :LFr:= ⟨6,[(0,ff),(1,(p 2147 0)),(2,(p 2148 0)),(3,(p 2149 0)),(4,(sf 2300 0 2 2 1)),(5,(i 0)),(6,(sf 2697 0 3 3 1)),(7,(i 0)),(8,(p 3346 0)),(9,(i 0)),(10,(p 3995 0)),(11,(i 0)),(13,(i 7)),(14,(p 4700 0)),(15,(i 0)),(68,(.agg bD3)),(69,(.agg aZa))],240,[(ops 6 [1,1,1,1,1,1,1,1,0] 2),(.code (cd 6 [1,1,1,1,1,1,1,1,1]))],[],.run,.normal,none⟩
def bD6 :List (AV) :=[(p 6167 0),(.func 45 [] [(p 6166 0)])]
def bD7 :LFr:= ⟨6,bHD,240,[(ops 6 [1,1,1,1,1,1,1,1,0] 4),(.code (cd 6 [1,1,1,1,1,1,1,1,1]))],[],.run,.normal,none⟩
def bD8 :Nat×AObj:= (6321,(.cells (putCells .leaf 0 y17) 8 [6316] false))
def bD9 :Nat×AObj:= (6323,(.cells (putCells .leaf 0 [z8,.nils,z10,(sf 6321 0 2 2 4)]) 4 [6309] false))
def bEa :Nat×AObj:= (6324,(cl [z6,(sf 6323 0 2 2 2)]))
def bEb :Nat×AObj:= (6354,(.cells (putCells .leaf 0 y18) 10 [6349] false))
def bEc :Nat×AObj:= (6356,(.cells (putCells .leaf 0 [(i 4),(i 0),z23,.nils,.nils,(i 14),(i 0),z24,(sf 6354 0 2 2 5),.nils]) 10 [6341] false))
def bEd :Nat×AObj:= (6371,(.cells (putCells .leaf 0 y20) 10 [6366] false))
def bEe :Nat×AObj:= (6373,(.cells (putCells .leaf 0 [(i 6),(i 0),z1,(sf 6356 0 2 2 5),.nils,(i 6),(i 0),z1,(sf 6371 0 2 2 5),.nils]) 10 [6358] false))
def bHI :List (AV) :=[oJ,z19,(i 3),(i 0),z1,.nils,(i 1),(i 0),z1,.nils,(i 9),(i 0),z1,(sf 6373 0 2 2 5),.nils]
def st0 :LS:=
 ⟨⟨6,[],240,[(.code (cd 6 []))],[],.run,.normal,none⟩,
 [],
 [],0⟩
def st1 :LS:=
 ⟨⟨239,[(0,z0),(2,.nils),(3,(i 0)),(4,(sf 106 0 18 18 4)),(5,(i 49)),(12,tt)],35,[(ops 239 [1,1,1,0,0,0,0,0] 0),(.code (cd 239 [1,1,1,0,0,0,0,1])),(.code (cd 239 [1,1,1,0,0,0,1])),(.inLoop (cd 239 [1,1,1,0,0,0])),(.inBlock 0),(.code (cd 239 [1,1,1,1]))],[],.run,.normal,none⟩,
 [y2,y4,⟨108,[(2,(p 2 0)),(3,(i 0))],27,y5,[],.run,.normal,none⟩,y7,y9,y11],
 [(0,(cl [z1,.nils,.nils,.nils,.nils])),(1,(cl [z1,.nils,.nils])),(2,(cl [z1,.nils,.nils])),(106,(.cells (putCells .leaf 0 [(i 3),z2,(i 0),(i 0),(i 1),z3,(i 0),(i 7),(i 5),z4,(i 0),(i 9),(i 3),z5,(i 0),(i 11),(i 2),z6,(i 0),(i 16),(i 5),z7,(i 0),(i 18),(i 2),z8,(i 0),(i 20),(i 5),z9,(i 0),(i 24),(i 2),z10,(i 0),(i 26),(i 5),z11,(i 0),(i 30),(i 3),z12,(i 0),(i 31),(i 5),z13,(i 0),(i 34),(i 2),z14,(i 0),(i 36),(i 5),z15,(i 0),(i 37),(i 5),z16,(i 0),(i 38),(i 3),z17,(i 0),(i 40),(i 1),oJ,(i 0),(i 44),(i 5),z11,(i 0),(i 48)]) 72 [100,94,88,82,76,71,65,59,53,48,42,37,31,26,20,14,8] false))],107⟩
def st2 :LS:=
 ⟨⟨108,[(2,(p 2 0)),(3,(i 0)),(4,(p 230 0)),(5,(i 0))],27,[(ops 108 [1,0] 7),(.code (cd 108 [1,1]))],[],.run,.normal,none⟩,
 [y7,y9,y11],
 [(0,(cl [z1,.nils,.nils,.nils,.nils])),(1,(cl [z1,.nils,.nils])),(2,(cl [z1,.nils,.nils])),(229,(.cells (putCells .leaf 0 y15) 156 [223,217,211,205,199,193,187,182,176,171,165,160,154,148,142,136,130,124,118,112,106,100,94,88,82,76,71,65,59,53,48,42,37,31,26,20,14,8] false)),(230,(cl [(sf 229 0 39 39 4),(i 0),ff]))],231⟩
def st3 :LS:=
 ⟨⟨8,[(1,(p 457 0)),(2,ff),(4,(i 0)),(5,(p 468 0)),(53,ff)],77,[(ops 8 [1,1,1,0,1,0,0,1,0,0,1,0] 5),(.code (cd 8 [1,1,1,0,1,0,0,1,0,0,1,1])),(.inBlock 3),(.code (cd 8 [1,1,1,0,1,0,0,1,1])),(.inLoop (cd 8 [1,1,1,0,1,0,0])),(.inBlock 2),(.code (cd 8 [1,1,1,1]))],[],.run,.normal,none⟩,
 [⟨108,[(2,(p 2 0)),(3,(i 0)),(6,(p 456 0))],27,y16,[],.run,.normal,none⟩,y7,y9,y11],
 [(0,(cl [z1,.nils,.nils,.nils,.nils])),(1,(cl [z1,.nils,.nils])),(2,(cl [z1,.nils,.nils])),(279,(.cells (putCells .leaf 0 y17) 8 [261] false)),(283,(.cells (putCells .leaf 0 [z8,.nils,z10,(sf 279 0 2 2 4)]) 4 [248] false)),(288,(cl [z6,(sf 283 0 2 2 2)])),(396,(cl y18)),(415,(cl [(i 4),(i 0),z23,.nils,.nils,(i 14),(i 0),z24,(sf 396 0 2 2 5),.nils])),(436,(cl y20)),(444,(cl [(i 6),(i 0),z1,(s 415 2 5),.nils,(i 6),(i 0),z1,(s 436 2 5),.nils])),(453,(cl [oJ,z19,(i 3),(i 0),z1,.nils,(i 1),(i 0),z1,.nils,(i 9),(i 0),z1,(s 444 2 5),.nils])),(456,(cl [z3,(sf 288 0 1 1 2),(sf 453 0 1 1 15)])),(457,(cl [z3,(sf 288 0 1 1 2),(sf 453 0 1 1 15)])),(468,(cl [oJ,z19,(i 3),(i 0),z1,.nils,(i 1),(i 0),z1,.nils,(i 9),(i 0),z1,(s 444 2 5),.nils]))],470⟩
def st4 :LS:=
 ⟨⟨29,[(2,(p 766 0)),(6,z30)],12,y8,[],.run,.normal,none⟩,
 [y31],
 [y33,(665,(cl [oJ,(i 0)])),y35,y37,y39,y42,y44,y46,y47],767⟩
def st5 :LS:=
 ⟨⟨264,[(0,z30),(1,(i 47)),(4,(i 0))],54,[(.code (cd 264 [1]))],[],.run,.normal,none⟩,
 [⟨239,[(0,z30),(2,.nils),(3,(i 0)),(4,(sf 866 0 17 17 4)),(5,(i 44)),(31,(i 44))],35,y48,[],.run,.normal,none⟩,y50,y4,y51,y52,y53,y31],
 [y33,(665,(cl [oJ,(i 0)])),y35,y37,y39,y42,y44,y46,y47,y54,y55,(866,(.cells (putCells .leaf 0 [(i 3),z31,(i 0),(i 0),(i 1),z32,(i 0),(i 7),(i 5),z4,(i 0),(i 9),(i 3),z33,(i 0),(i 11),(i 2),z34,(i 0),(i 16),(i 5),z7,(i 0),(i 18),(i 2),z35,(i 0),(i 20),(i 5),z9,(i 0),(i 24),(i 2),z36,(i 0),(i 26),(i 5),z11,(i 0),(i 30),(i 3),z37,(i 0),(i 31),(i 5),z13,(i 0),(i 34),(i 2),z38,(i 0),(i 36),(i 5),z15,(i 0),(i 37),(i 5),z16,(i 0),(i 38),(i 3),z39,(i 0),(i 40),(i 1),pS,(i 0),(i 44)]) 68 [860,854,848,842,837,831,825,819,814,808,803,797,792,786,780,774] false))],867⟩
def st6 :LS:=
 ⟨⟨239,[(0,z30),(2,.nils),(3,(i 0)),(4,(sf 976 0 36 36 4)),(5,(i 92))],35,[(.code .skip),(.code (cd 239 [1,1,1,0,0,0,1])),(.inLoop (cd 239 [1,1,1,0,0,0])),(.inBlock 0),(.code (cd 239 [1,1,1,1]))],[],.run,.normal,none⟩,
 [y50,y4,y51,y52,y53,y31],
 [y33,(665,(cl [oJ,(i 0)])),y35,y37,y39,y42,y44,y46,y47,y54,y55,(976,(.cells (putCells .leaf 0 [(i 3),z31,(i 0),(i 0),(i 1),z32,(i 0),(i 7),(i 5),z4,(i 0),(i 9),(i 3),z33,(i 0),(i 11),(i 2),z34,(i 0),(i 16),(i 5),z7,(i 0),(i 18),(i 2),z35,(i 0),(i 20),(i 5),z9,(i 0),(i 24),(i 2),z36,(i 0),(i 26),(i 5),z11,(i 0),(i 30),(i 3),z37,(i 0),(i 31),(i 5),z13,(i 0),(i 34),(i 2),z38,(i 0),(i 36),(i 5),z15,(i 0),(i 37),(i 5),z16,(i 0),(i 38),(i 3),z39,(i 0),(i 40),(i 1),pS,(i 0),(i 44),(i 5),z11,(i 0),(i 47),(i 1),z41,(i 0),(i 48),(i 5),z20,(i 0),(i 50),(i 2),z42,(i 0),(i 52),(i 5),z15,(i 0),(i 53),(i 5),z20,(i 0),(i 55),(i 3),z43,(i 0),(i 57),(i 5),z7,(i 0),(i 61),(i 3),z44,(i 0),(i 63),(i 1),z45,(i 0),(i 69),(i 5),z4,(i 0),(i 71),(i 2),z46,(i 0),(i 73),(i 5),z47,(i 0),(i 77),(i 4),z48,(i 0),(i 80),(i 5),z9,(i 0),(i 82),(i 2),z49,(i 0),(i 84),(i 5),z11,(i 0),(i 88),(i 1),z50,(i 0),(i 89),(i 5),z13,(i 0),(i 90)]) 144 [970,964,958,953,947,942,936,931,925,919,913,907,901,895,889,884,878,872,866,860,854,848,842,837,831,825,819,814,808,803,797,792,786,780,774] false))],977⟩
def st7 :LS:=
 ⟨⟨206,[(0,(p 1037 0)),(1,z20)],18,[(.code (cd 206 [0])),(.code (cd 206 [1]))],[],.run,.normal,none⟩,
 [⟨204,[(0,(p 1037 0))],11,[(ops 204 [0] 2),(.code (cd 204 [1]))],[],.run,.normal,none⟩,⟨208,[(0,(p 1037 0)),(2,(p 1098 0)),(3,(p 1101 0))],34,[(ops 208 [1,1,1,1,1,1,1,0] 1),(.code (cd 208 [1,1,1,1,1,1,1,1]))],[],.run,.normal,none⟩,⟨164,[(0,(p 1037 0)),(2,(p 1038 0)),(3,(p 1042 0))],37,[(ops 164 [1,1,1,1,1,0,0,0,1,0,0] 1),(.code (cd 164 [1,1,1,1,1,0,0,0,1,0,1])),(.inBlock 3),(.inLoop (cd 164 [1,1,1,1,1,0,0,0])),(.inBlock 2),(.code (cd 164 [1,1,1,1,1,1]))],[],.run,.normal,none⟩,⟨108,[(2,(p 768 0)),(3,(i 0)),(4,(p 1037 0))],27,y56,[],.run,.normal,none⟩,y52,y53,y31],
 [y33,(665,(cl [oJ,(i 0)])),y35,y37,y39,y42,y44,y46,y47,y54,y55,(1036,(.cells (putCells .leaf 0 y57) 184 [1030,1024,1018,1012,1006,1000,994,988,982,976,970,964,958,953,947,942,936,931,925,919,913,907,901,895,889,884,878,872,866,860,854,848,842,837,831,825,819,814,808,803,797,792,786,780,774] false)),(1037,(cl [(sf 1036 0 46 46 4),(i 22),ff])),(1038,(cl [z1,.nils,.nils])),(1042,(cl [z32,(sf 1095 0 1 1 2),.nils])),(1086,(.cells (putCells .leaf 0 y58) 8 [1068] false)),(1090,(.cells (putCells .leaf 0 [z35,.nils,z36,(sf 1086 0 2 2 4)]) 4 [1055] false)),(1095,(cl [z34,(sf 1090 0 2 2 2)])),(1098,(cl [z1,z1,(i 0),(i 0),z1,.nils,(i 0),(i 0),z1,.nils,(i 0),(i 0),z1,.nils,.nils])),(1101,(cl [pS,z41,(i 8),(i 0),z42,.nils,(i 0),(i 0),z1,.nils,(i 0),(i 0),z1,.nils,.nils]))],1121⟩
def st8 :LS:=
 ⟨⟨118,[(1,(p 1331 0)),(2,ff),(4,(i 0))],36,[(.code (cd 118 [1,1,1,0,1,0,0,1,0,0,0])),(.code (cd 118 [1,1,1,0,1,0,0,1,0,0,1])),(.inBlock 3),(.code (cd 118 [1,1,1,0,1,0,0,1,1])),(.inLoop (cd 118 [1,1,1,0,1,0,0])),(.inBlock 2),(.code (cd 118 [1,1,1,1]))],[],.run,.normal,none⟩,
 [⟨43,[(2,ff),(6,tt)],10,[(ops 43 [1,0] 5),(.code .ret)],[],.run,.normal,none⟩,⟨8,[(1,(p 1302 0)),(2,ff),(4,(i 0)),(71,ff)],77,y63,[],.run,.normal,none⟩,⟨108,[(2,(p 768 0)),(3,(i 0)),(6,(p 1301 0))],27,y16,[],.run,.normal,none⟩,y52,y53,y31],
 [y33,(665,(cl [oJ,(i 0)])),y35,y37,y39,y42,y44,y46,y47,y54,y55,(1086,(.cells (putCells .leaf 0 y58) 8 [1068] false)),(1090,(.cells (putCells .leaf 0 [z35,.nils,z36,(sf 1086 0 2 2 4)]) 4 [1055] false)),(1095,(cl [z34,(sf 1090 0 2 2 2)])),(1227,(.cells (putCells .leaf 0 y64) 8 [1219] false)),(1264,(cl y65)),(1272,(cl [(i 4),(i 0),z52,.nils,.nils,(i 6),(i 0),z1,(s 1264 2 5),.nils])),(1280,(.cells (putCells .leaf 0 [(i 6),(i 0),z46,.nils,(i 6),(i 0),z49,(sf 1227 0 2 2 4)]) 8 [1200] false)),(1282,(.cells (putCells .leaf 0 [(i 4),(i 0),z45,.nils,.nils,(i 1),(i 0),z1,.nils,.nils,(i 9),(i 0),z1,(s 1272 2 5),.nils]) 15 [1202] false)),(1298,(cl [pS,z41,(i 8),(i 0),z42,.nils,(i 1),(i 0),z1,.nils,(i 15),(i 0),z1,(sf 1282 0 3 3 5),(sf 1280 0 2 2 4)])),(1301,(cl [z32,(sf 1095 0 1 1 2),(sf 1298 0 1 1 15)])),(1302,(cl [z32,(sf 1095 0 1 1 2),(sf 1298 0 1 1 15)])),(1331,(cl [(i 15),(i 0),z1,(sf 1282 0 3 3 5),(sf 1280 0 2 2 4)]))],1354⟩
def st9 :LS:=
 ⟨⟨163,[(0,z55),(2,.nilp),(3,(i 0))],15,[(ops 163 [0] 2),(.code (cd 163 [1]))],[],.run,.normal,none⟩,
 [y69,y70,y71,y77],
 [y33,(665,(cl [oJ,(i 0)])),y35,y37,y39,y42,y44,y46,y79,(1545,(cl [pS,(i 0)])),y82,y85,y88,y90,y92,y94,y95,y96,y97],1677⟩
def st10 :LS:=
 ⟨⟨239,[(0,z55),(2,.nils),(3,(i 0)),(4,(sf 1759 0 14 14 4)),(5,(i 38))],35,[(.code (cd 239 [1,1,1,0,0,0,1,0])),(.inBlock 1),(.inLoop (cd 239 [1,1,1,0,0,0])),(.inBlock 0),(.code (cd 239 [1,1,1,1]))],[],.run,.normal,none⟩,
 [y98,y4,y69,y70,y71,y77],
 [y33,(665,(cl [oJ,(i 0)])),y35,y37,y39,y42,y44,y46,y79,(1545,(cl [pS,(i 0)])),y82,y85,y88,y90,y92,y94,y95,y96,y97,(1759,(.cells (putCells .leaf 0 [(i 3),z56,(i 0),(i 0),(i 1),z57,(i 0),(i 7),(i 5),z4,(i 0),(i 9),(i 3),z58,(i 0),(i 11),(i 1),z59,(i 0),(i 15),(i 5),z11,(i 0),(i 18),(i 1),z60,(i 0),(i 19),(i 5),z20,(i 0),(i 21),(i 3),z61,(i 0),(i 23),(i 5),z15,(i 0),(i 27),(i 5),z20,(i 0),(i 29),(i 3),z62,(i 0),(i 31),(i 5),z7,(i 0),(i 35),(i 4),z63,(i 2),(i 37)]) 56 [1754,1748,1742,1736,1730,1724,1718,1712,1706,1700,1694,1688,1682] false))],1760⟩
def st11 :LS:=
 ⟨⟨8,[(1,(p 1968 0)),(2,ff)],77,[(ops 8 [1,0,0] 0),(.code (cd 8 [1,0,1])),(.code (cd 8 [1,1]))],[],.run,.normal,none⟩,
 [⟨108,[(2,(p 1676 0)),(3,(i 0)),(6,(p 1967 0))],27,y16,[],.run,.normal,none⟩,y70,y71,y77],
 [y33,(665,(cl [oJ,(i 0)])),y35,y37,y39,y42,y44,y46,y79,(1545,(cl [pS,(i 0)])),y82,y85,y88,y90,y92,y94,y95,y96,y97,(1951,(cl y99)),(1964,(.cells (putCells .leaf 0 [z59,z60,(i 3),(i 0),z1,.nils,(i 1),(i 0),z1,.nils,(i 1),(i 2),z1,.nils,.nils,z65,z66,(i 3),(i 0),z1,.nils,(i 1),(i 0),z1,.nils,(i 6),(i 0),z1,(s 1951 2 5),.nils]) 30 [1906] false)),(1967,(cl [z57,.nils,(sf 1964 0 2 2 15)])),(1968,(cl [z57,.nils,(sf 1964 0 2 2 15)]))],1969⟩
def st12 :LS:=
 ⟨⟨44,[(7,.nili)],19,[(ops 44 [1,0,1,0] 0),(.inBlock 0)],[],.run,.deferred,none⟩,
 [⟨17,[(2,(p 2010 0)),(3,(p 2011 0))],170,[(.code .ret)],[],.ret,.normal,none⟩,⟨29,[(2,(p 1674 0))],12,[(ops 29 [1,0] 2),(.code (cd 29 [1,1]))],[],.run,.normal,none⟩,y77],
 [y33,(665,(cl [oJ,(i 0)])),y35,y37,y39,y42,y44,y46,y79,(1545,(cl [pS,(i 0)])),y82,y85,y88,y90,y92,y94,y95,(2010,(cl [z57,.nils,(sf 2099 0 2 2 2),(sf 2123 0 1 1 1),(sf 2139 0 4 4 4)])),(2011,(cl [(i 0)])),oU,(2123,(cl [z64])),oV,oW],2146⟩
def st13 :LS:=
 ⟨⟨69,[(2,.nilp),(3,(p 2306 0)),(4,(i 0)),(7,(p 2387 0)),(19,(s 2301 3 5)),(20,(i 3)),(21,(i 0)),(31,(sf 2099 0 2 2 2)),(32,(i 2)),(33,(i 1))],87,[(.code (cd 69 [1,1,1,0,1,0,0,1,1,0,0,1,1,1,0,0,1,1,0,0,1])),(.inBlock 3),(.code (cd 69 [1,1,1,0,1,0,0,1,1,0,0,1,1,1,0,0,1,1,1])),(.inLoop (cd 69 [1,1,1,0,1,0,0,1,1,0,0,1,1,1,0,0])),(.inBlock 2),(.inBlock 1),(.code (cd 69 [1,1,1,0,1,0,0,1,1,1])),(.inLoop (cd 69 [1,1,1,0,1,0,0])),(.inBlock 0),(.code (cd 69 [1,1,1,1]))],[],.run,.normal,none⟩,
 [bHv,bHw],
 [y33,(665,(cl [oJ,(i 0)])),y35,y37,y39,y42,y44,y46,y79,(1545,(cl [pS,(i 0)])),y82,y85,y88,y90,y92,y94,oU,(2123,(cl [z64])),oV,oW,pN,qR,pO,pP,(2301,(cl [z57,.nils,(sf 2099 0 2 2 2),(sf 2123 0 1 1 1),(sf 2139 0 4 4 4),z32,(sf 1542 0 2 2 2),(sf 1545 0 1 1 2),.nils,(sf 1658 0 8 8 4),z3,(sf 662 0 2 2 2),(sf 665 0 1 1 2),(sf 735 0 2 2 1),(sf 751 0 9 9 4)])),(2302,(cl [.nils])),(2303,(cl [(i 0)])),(2304,(.map [(z59,(i 0),0)] 1)),(2305,(.map [(z59,(i 0),0)] 1)),(2306,(cl [(s 2301 3 5),(.map 2304),(.map 2305),(sf 2386 0 1 1 1),ff])),(2386,(cl [z59])),(2387,(cl [z65,(i 1)]))],2388⟩
def st14 :LS:=
 ⟨⟨190,[(1,(p 2573 0)),(2,ff),(3,(i 9))],128,[(.code (cd 190 [1,1]))],[],.run,.normal,none⟩,
 [⟨141,[(2,(i 0))],7,[(ops 141 [1,0,0] 2),(.code (cd 141 [1,0,1])),(.code (cd 141 [1,1]))],[],.run,.normal,none⟩,⟨77,[(2,ff)],114,[(ops 77 [1,1,1,1,1,1,1,0] 1),(.code .ret)],[],.run,.normal,none⟩,⟨69,[(2,.nilp),(3,(p 2306 0)),(4,(i 2)),(5,(p 2539 0)),(19,(s 2301 3 5)),(20,(i 3)),(21,(i 2)),(27,tt)],87,bFY,[],.run,.normal,none⟩,bHv,bHw],
 [y33,(665,(cl [oJ,(i 0)])),y35,y37,y39,y42,y44,y46,y79,(1545,(cl [pS,(i 0)])),y82,y85,y88,y90,y92,y94,oU,(2123,(cl [z64])),oV,oW,pN,qR,pO,pP,(2301,(cl [z57,.nils,(sf 2099 0 2 2 2),(sf 2123 0 1 1 1),(sf 2139 0 4 4 4),z32,(sf 1542 0 2 2 2),(sf 1545 0 1 1 2),.nils,(sf 1658 0 8 8 4),z3,(sf 662 0 2 2 2),(sf 665 0 1 1 2),(sf 735 0 2 2 1),(sf 751 0 9 9 4)])),(2302,(cl [.nils])),(2303,(cl [(i 0)])),(2304,bHx),(2305,bHy),(2306,(cl [(s 2301 3 5),(.map 2304),(.map 2305),(sf 2538 0 3 3 1),ff])),(2538,(.cells (putCells .leaf 0 [z59,z65,pS]) 3 [2389,2386] false)),(2539,(cl y26)),(2559,(cl [(i 9),(i 0),(sf 755 0 2 2 1),.nils,(i 6),(i 0),(sf 717 0 2 2 1),.nils,(i 4),(.int .i64 (.negSucc 0)),.nils,.nils,(i 14),(i 1),(sf 715 0 2 2 1),.nils,(i 1),(i 1),.nils,.nils,(i 14),(i 0),.nils,.nils,(i 6),(i 0),(sf 753 0 2 2 1),.nils,(i 4),(.int .i64 (.negSucc 0)),.nils,.nils,(i 4),(i 0),.nils,.nils])),(2562,(cl [(i 0)])),(2573,(cl [(sf 2559 0 9 9 4),(sf 2562 0 1 1 1),(i 0),(sf 662 0 2 2 2)]))],2574⟩
def st15 :LS:=
 ⟨⟨69,[(2,.nilp),(3,(p 2703 0)),(4,(i 0)),(5,(p 2704 0)),(19,(s 2698 3 5)),(20,(i 3)),(21,(i 0))],87,[(.code (cd 69 [1,1,1,0,1,0,0,1,1,0,0,1,1,0])),(.code (cd 69 [1,1,1,0,1,0,0,1,1,0,0,1,1,1])),(.inBlock 1),(.code (cd 69 [1,1,1,0,1,0,0,1,1,1])),(.inLoop (cd 69 [1,1,1,0,1,0,0])),(.inBlock 0),(.code (cd 69 [1,1,1,1]))],[],.run,.normal,none⟩,
 [⟨12,[(2,(p 2699 0)),(3,(p 2700 0))],74,bDX,[(.fn 44 [(p 2700 0),(.func 68 [] [(p 2699 0)])])],.run,.normal,none⟩,⟨6,[(0,ff),(1,(p 2147 0)),(2,(p 2148 0)),(3,(p 2149 0)),(4,(sf 2300 0 2 2 1)),(5,(i 0)),(6,(sf 2697 0 3 3 1)),(7,(i 0))],240,[(ops 6 [1,1,1,1,0] 4),(.code (cd 6 [1,1,1,1,1]))],[],.run,.normal,none⟩],
 [y33,(665,(cl [oJ,(i 0)])),y35,y37,y39,y42,y44,y46,y79,(1545,(cl [pS,(i 0)])),y82,y85,y88,y90,y92,y94,oU,(2123,(cl [z64])),oV,oW,pN,qR,pO,pP,qT,(2698,(cl [z3,(sf 662 0 2 2 2),(sf 665 0 1 1 2),(sf 735 0 2 2 1),(sf 751 0 9 9 4),z32,(sf 1542 0 2 2 2),(sf 1545 0 1 1 2),.nils,(sf 1658 0 8 8 4),z57,.nils,(sf 2099 0 2 2 2),(sf 2123 0 1 1 1),(sf 2139 0 4 4 4)])),(2699,bDY),(2700,(cl [(i 0)])),(2701,(.map [] 0)),(2702,(.map [] 0)),(2703,(cl [(s 2698 3 5),(.map 2701),(.map 2702),.nils,ff])),(2704,(cl y26))],2841⟩
def st16 :LS:=
 ⟨⟨69,[(2,.nilp),(3,(p 2703 0)),(4,(i 2)),(19,(s 2698 3 5)),(20,(i 3)),(21,(i 2)),(31,(sf 2099 0 2 2 2)),(32,(i 2)),(33,(i 0)),(84,(i 1))],87,[(ops 69 [1,1,1,0,1,0,0,1,1,0,0,1,1,1,0,0,1,1,1] 1),(.inLoop (cd 69 [1,1,1,0,1,0,0,1,1,0,0,1,1,1,0,0])),(.inBlock 2),(.inBlock 1),(.code (cd 69 [1,1,1,0,1,0,0,1,1,1])),(.inLoop (cd 69 [1,1,1,0,1,0,0])),(.inBlock 0),(.code (cd 69 [1,1,1,1]))],[],.run,.normal,none⟩,
 [⟨12,[(2,(p 2699 0)),(3,(p 2700 0))],74,bDX,[(.fn 44 [(p 2700 0),(.func 68 [] [(p 2699 0)])])],.run,.normal,none⟩,⟨6,[(0,ff),(1,(p 2147 0)),(2,(p 2148 0)),(3,(p 2149 0)),(4,(sf 2300 0 2 2 1)),(5,(i 0)),(6,(sf 2697 0 3 3 1)),(7,(i 0))],240,[(ops 6 [1,1,1,1,0] 4),(.code (cd 6 [1,1,1,1,1]))],[],.run,.normal,none⟩],
 [y33,(665,(cl [oJ,(i 0)])),y35,y37,y39,y42,y44,y46,y79,(1545,(cl [pS,(i 0)])),y82,y85,y88,y90,y92,y94,oU,(2123,(cl [z64])),oV,oW,pN,qR,pO,pP,qT,(2698,(cl [z3,(sf 662 0 2 2 2),(sf 665 0 1 1 2),(sf 735 0 2 2 1),(sf 751 0 9 9 4),z32,(sf 1542 0 2 2 2),(sf 1545 0 1 1 2),.nils,(sf 1658 0 8 8 4),z57,.nils,(sf 2099 0 2 2 2),(sf 2123 0 1 1 1),(sf 2139 0 4 4 4)])),(2699,bDY),(2700,(cl [(i 0)])),(2701,bHz),(2702,bHz),(2703,(cl [(s 2698 3 5),(.map 2701),(.map 2702),(sf 3072 0 3 3 1),ff])),(3072,(.cells (putCells .leaf 0 [oJ,pS,z59]) 3 [2992,2843] false))],3073⟩
def st17 :LS:=
 ⟨⟨69,[(2,.nilp),(3,(p 3352 0)),(4,(i 1)),(5,(p 3436 0)),(19,(s 3347 3 5)),(20,(i 3)),(21,(i 2))],87,[(ops 69 [1,1,1,0,1,0,0,1,1,0,0,0] 0),(.code (cd 69 [1,1,1,0,1,0,0,1,1,0,0,1])),(.inBlock 1),(.code (cd 69 [1,1,1,0,1,0,0,1,1,1])),(.inLoop (cd 69 [1,1,1,0,1,0,0])),(.inBlock 0),(.code (cd 69 [1,1,1,1]))],[],.run,.normal,none⟩,
 [⟨12,[(2,(p 3348 0)),(3,(p 3349 0))],74,bDX,[(.fn 44 bHA)],.run,.normal,none⟩,bHB],
 [y33,(665,(cl [oJ,(i 0)])),y35,y37,y39,y42,y44,y46,y79,(1545,(cl [pS,(i 0)])),y82,y85,y88,y90,y92,y94,oU,(2123,(cl [z64])),oV,oW,pN,qR,pO,pP,qT,tP,tQ,tR,tU,tV,tW,tX,tY,tZ,uA,uB,uC,uD,uE,(3347,(cl [z57,.nils,(sf 2099 0 2 2 2),(sf 2123 0 1 1 1),(sf 2139 0 4 4 4),z32,(sf 1542 0 2 2 2),(sf 1545 0 1 1 2),.nils,(sf 1658 0 8 8 4),z3,(sf 662 0 2 2 2),(sf 665 0 1 1 2),(sf 735 0 2 2 1),(sf 751 0 9 9 4)])),(3348,bDY),(3349,(cl [(i 0)])),(3350,bHx),(3351,bHy),(3352,(cl [(s 3347 3 5),(.map 3350),(.map 3351),(sf 3584 0 3 3 1),ff])),(3436,(cl y72)),(3584,(.cells (putCells .leaf 0 [z59,z65,pS]) 3 [3435,3432] false))],3585⟩
def st18 :LS:=
 ⟨⟨12,[(2,(p 3348 0)),(3,(p 3349 0)),(59,(sf 3982 0 4 4 2)),(60,(i 4)),(61,(i 0))],74,[(ops 12 [1,1,1,1,1,1,1,1,1,0,1,0,0,1,1,0,0,1] 8),(.inBlock 1),(.code (cd 12 [1,1,1,1,1,1,1,1,1,0,1,0,0,1,1,1])),(.inLoop (cd 12 [1,1,1,1,1,1,1,1,1,0,1,0,0])),(.inBlock 0),(.code (cd 12 [1,1,1,1,1,1,1,1,1,1]))],[(.fn 44 bHA)],.run,.normal,none⟩,
 [bHB],
 [y33,(665,(cl [oJ,(i 0)])),y35,y37,y39,y42,y44,y46,y79,(1545,(cl [pS,(i 0)])),y82,y85,y88,y90,y92,y94,oU,(2123,(cl [z64])),oV,oW,pN,qR,pO,pP,qT,tP,tQ,tR,tU,tV,tW,tX,tY,tZ,uA,uB,uC,uD,uE,(3348,(cl [(sf 3977 0 21 21 4),(sf 3985 0 1 1 1),(i 3),(sf 3738 0 2 2 2)])),(3349,(cl [(i 0)])),wL,wM,wN,wO,wP,wQ,wR,wS,wT,wU,wV,wW,(3982,(.cells (putCells .leaf 0 [z59,(i 0),z65,(i 1),pS,(i 4),oJ,(i 12)]) 8 [3898,3800,3781] false)),(3985,(cl [(i 0)]))],3986⟩
def st19 :LS:=
 ⟨⟨77,[(1,(p 4143 0)),(2,ff),(3,(sf 4147 0 1 1 1))],114,[(.code .skip),(.code (cd 77 [1,1,1]))],[],.run,.normal,none⟩,
 [⟨69,[(2,.nilp),(3,(p 4001 0)),(4,(i 1)),(5,(p 4142 0)),(19,(s 3996 2 5)),(20,(i 2)),(21,(i 1)),(27,tt)],87,bFY,[],.run,.normal,none⟩,⟨12,[(2,(p 3997 0)),(3,(p 3998 0))],74,bDX,[(.fn 44 [(p 3998 0),(.func 68 [] [(p 3997 0)])])],.run,.normal,none⟩,⟨6,[(0,ff),(1,(p 2147 0)),(2,(p 2148 0)),(3,(p 2149 0)),(4,(sf 2300 0 2 2 1)),(5,(i 0)),(6,(sf 2697 0 3 3 1)),(7,(i 0)),(8,(p 3346 0)),(9,(i 0)),(10,(p 3995 0)),(11,(i 0))],240,[(ops 6 [1,1,1,1,1,1,0] 3),(.code (cd 6 [1,1,1,1,1,1,1]))],[],.run,.normal,none⟩],
 [y33,(665,(cl [oJ,(i 0)])),y35,y37,y39,y42,y44,y46,y79,(1545,(cl [pS,(i 0)])),y82,y85,y88,y90,y92,y94,oU,(2123,(cl [z64])),oV,oW,pN,qR,pO,pP,qT,tP,tQ,tR,tU,tV,tW,tX,tY,tZ,uA,uB,uC,uD,uE,wL,wM,wN,wO,wP,wQ,wR,wS,wT,wU,wV,wW,xC,xE,(3996,(cl [z3,(sf 662 0 2 2 2),(sf 665 0 1 1 2),(sf 735 0 2 2 1),(sf 751 0 9 9 4),z32,(sf 1542 0 2 2 2),(sf 1545 0 1 1 2),.nils,(sf 1658 0 8 8 4)])),(3997,bDY),(3998,(cl [(i 0)])),(3999,(.map [(oJ,(i 0),0)] 1)),(4000,(.map [(oJ,(i 0),0)] 1)),(4001,(cl [(s 3996 2 5),(.map 3999),(.map 4000),(sf 4141 0 1 1 1),ff])),(4141,(cl [oJ])),(4142,(cl y72)),(4143,(cl y72)),(4147,(cl [pS]))],4156⟩
def st20 :LS:=
 ⟨⟨69,[(2,.nilp),(3,(p 4329 0)),(4,(i 0)),(19,(s 4323 2 5)),(20,(i 2)),(21,(i 0)),(31,(sf 665 0 1 1 2)),(32,(i 1)),(33,(i 0))],87,[(.code .skip),(.code (cd 69 [1,1,1,0,1,0,0,1,1,0,0,1,1,1,0,0,1,1])),(.inLoop (cd 69 [1,1,1,0,1,0,0,1,1,0,0,1,1,1,0,0])),(.inBlock 2),(.inBlock 1),(.code (cd 69 [1,1,1,0,1,0,0,1,1,1])),(.inLoop (cd 69 [1,1,1,0,1,0,0])),(.inBlock 0),(.code (cd 69 [1,1,1,1]))],[],.run,.normal,none⟩,
 [⟨31,[(0,z67),(4,(p 4324 0)),(5,(p 4325 0))],54,[(ops 31 [1,1,1,0] 1),(.code (cd 31 [1,1,1,1]))],[(.fn 44 [(p 4325 0),(.func 106 [] [(p 4324 0)])])],.run,.normal,none⟩,⟨6,[(0,ff),(1,(p 2147 0)),(2,(p 2148 0)),(3,(p 2149 0)),(4,(sf 2300 0 2 2 1)),(5,(i 0)),(6,(sf 2697 0 3 3 1)),(7,(i 0)),(8,(p 3346 0)),(9,(i 0)),(10,(p 3995 0)),(11,(i 0)),(13,(i 7))],240,[(ops 6 [1,1,1,1,1,1,1,0] 3),(.code (cd 6 [1,1,1,1,1,1,1,1]))],[],.run,.normal,none⟩],
 [y33,(665,(cl [oJ,(i 0)])),y35,y37,y39,y42,y44,y46,y79,(1545,(cl [pS,(i 0)])),y82,y85,y88,y90,y92,y94,oU,(2123,(cl [z64])),oV,oW,pN,qR,pO,pP,qT,tP,tQ,tR,tU,tV,tW,tX,tY,tZ,uA,uB,uC,uD,uE,wL,wM,wN,wO,wP,wQ,wR,wS,wT,wU,wV,wW,xC,xE,(4323,(cl [z3,(sf 662 0 2 2 2),(sf 665 0 1 1 2),(sf 735 0 2 2 1),(sf 751 0 9 9 4),z57,.nils,(sf 2099 0 2 2 2),(sf 2123 0 1 1 1),(sf 2139 0 4 4 4)])),(4324,(cl [z1,.nils,.nils,.nils,.nils])),(4325,(cl [(i 0)])),(4327,(.map [] 0)),(4328,(.map [] 0)),(4329,(cl [(s 4323 2 5),(.map 4327),(.map 4328),.nils,ff]))],4467⟩
def st21 :LS:=
 ⟨⟨264,[(0,z0),(1,(i 17)),(4,(i 0))],54,[(ops 264 [1,0,0,0,1,0,1,0] 0),(.inBlock 1),(.inLoop (cd 264 [1,0,0,0])),(.inBlock 0),(.code (cd 264 [1,1]))],[],.run,.normal,none⟩,
 [⟨239,[(0,z0),(2,.nils),(3,(i 0)),(4,(sf 4731 0 5 5 4)),(5,(i 16)),(31,(i 16))],35,y48,[],.run,.normal,none⟩,y2,y4,bHC,bDZ,bD0],
 [y33,(665,(cl [oJ,(i 0)])),y35,y37,y39,y42,y44,y46,y79,(1545,(cl [pS,(i 0)])),y82,y85,y88,y90,y92,y94,oU,(2123,(cl [z64])),oV,oW,pN,qR,pO,pP,qT,tP,tQ,tR,tU,tV,tW,tX,tY,tZ,uA,uB,uC,uD,uE,wL,wM,wN,wO,wP,wQ,wR,wS,wT,wU,wV,wW,xC,xE,aAH,(4569,(cl [z23])),aAI,aAJ,aAK,aAL,aAM,aAN,aAO,aAP,bD1,bD2,(4731,(.cells (putCells .leaf 0 [(i 3),z2,(i 0),(i 0),(i 1),z3,(i 0),(i 7),(i 5),z4,(i 0),(i 9),(i 3),z5,(i 0),(i 11),(i 2),z6,(i 0),(i 16)]) 20 [4726,4720,4714,4708] false))],4732⟩
def st22 :LS:=
 ⟨⟨239,[(0,z0),(2,.nils),(3,(i 0)),(4,(sf 4830 0 22 22 4)),(5,(i 59)),(6,(p 4828 0)),(15,(.agg [(i 5),z20,(i 0),(i 59)]))],35,[(ops 239 [1,1,1,0,0,0,1,0,0] 3),(.code (cd 239 [1,1,1,0,0,0,1,0,1])),(.inBlock 1),(.inLoop (cd 239 [1,1,1,0,0,0])),(.inBlock 0),(.code (cd 239 [1,1,1,1]))],[],.run,.normal,none⟩,
 [y2,y4,bHC,bDZ,bD0],
 [y33,(665,(cl [oJ,(i 0)])),y35,y37,y39,y42,y44,y46,y79,(1545,(cl [pS,(i 0)])),y82,y85,y88,y90,y92,y94,oU,(2123,(cl [z64])),oV,oW,pN,qR,pO,pP,qT,tP,tQ,tR,tU,tV,tW,tX,tY,tZ,uA,uB,uC,uD,uE,wL,wM,wN,wO,wP,wQ,wR,wS,wT,wU,wV,wW,xC,xE,aAH,(4569,(cl [z23])),aAI,aAJ,aAK,aAL,aAM,aAN,aAO,aAP,bD1,bD2,(4828,(cl [(i 5),z15,(i 0),(i 57)])),(4830,(.cells (putCells .leaf 0 [(i 3),z2,(i 0),(i 0),(i 1),z3,(i 0),(i 7),(i 5),z4,(i 0),(i 9),(i 3),z5,(i 0),(i 11),(i 2),z6,(i 0),(i 16),(i 5),z7,(i 0),(i 18),(i 2),z8,(i 0),(i 20),(i 5),z9,(i 0),(i 24),(i 2),z10,(i 0),(i 26),(i 5),z11,(i 0),(i 30),(i 3),z12,(i 0),(i 31),(i 5),z13,(i 0),(i 34),(i 2),z14,(i 0),(i 36),(i 5),z15,(i 0),(i 37),(i 5),z16,(i 0),(i 38),(i 3),z17,(i 0),(i 40),(i 1),oJ,(i 0),(i 44),(i 5),z11,(i 0),(i 48),(i 1),z19,(i 0),(i 49),(i 5),z20,(i 0),(i 51),(i 3),z21,(i 0),(i 53),(i 5),z15,(i 0),(i 57)]) 88 [4824,4818,4812,4806,4800,4794,4788,4782,4776,4771,4765,4759,4753,4748,4742,4737,4731,4726,4720,4714,4708] false))],4834⟩
def st23 :LS:=
 ⟨⟨206,[(4,ff),(5,tt),(10,(p 4930 0)),(13,(i 3))],18,[(ops 206 [1,1,0,1,0] 4),(.code (cd 206 [1,1,1]))],[],.run,.normal,none⟩,
 [⟨164,[(0,(p 4930 0)),(2,(p 4931 0)),(3,(p 4935 0))],37,[(ops 164 [1,1,1,1,0,0,0,0,0] 1),(.code (cd 164 [1,1,1,1,0,0,0,0,1])),(.code (cd 164 [1,1,1,1,0,0,0,1])),(.inLoop (cd 164 [1,1,1,1,0,0,0])),(.inBlock 0),(.code (cd 164 [1,1,1,1,1]))],[],.run,.normal,none⟩,⟨108,[(2,(p 4702 0)),(3,(i 0)),(4,(p 4930 0))],27,y56,[],.run,.normal,none⟩,bDZ,bD0],
 [y33,(665,(cl [oJ,(i 0)])),y35,y37,y39,y42,y44,y46,y79,(1545,(cl [pS,(i 0)])),y82,y85,y88,y90,y92,y94,oU,(2123,(cl [z64])),oV,oW,pN,qR,pO,pP,qT,tP,tQ,tR,tU,tV,tW,tX,tY,tZ,uA,uB,uC,uD,uE,wL,wM,wN,wO,wP,wQ,wR,wS,wT,wU,wV,wW,xC,xE,aAH,(4569,(cl [z23])),aAI,aAJ,aAK,aAL,aAM,aAN,aAO,aAP,bD1,bD2,(4929,(.cells (putCells .leaf 0 y15) 156 [4923,4917,4911,4905,4899,4893,4887,4882,4876,4871,4865,4860,4854,4848,4842,4836,4830,4824,4818,4812,4806,4800,4794,4788,4782,4776,4771,4765,4759,4753,4748,4742,4737,4731,4726,4720,4714,4708] false)),(4930,(cl [(sf 4929 0 39 39 4),(i 3),ff])),(4931,(cl [z1,.nils,.nils])),(4935,(cl [z3,.nils,.nils]))],4938⟩
def st24 :LS:=
 ⟨⟨43,[(0,(.agg [(i 9),(i 0),z1,(s 5144 2 5),.nils]))],10,[(ops 43 [0] 0),(.code (cd 43 [1]))],[],.run,.normal,none⟩,
 [⟨8,[(1,(p 5157 0)),(2,ff),(4,(i 0)),(71,ff)],77,y63,[],.run,.normal,none⟩,⟨108,[(2,(p 4702 0)),(3,(i 0)),(6,(p 5156 0))],27,y16,[],.run,.normal,none⟩,bDZ,bD0],
 [y33,(665,(cl [oJ,(i 0)])),y35,y37,y39,y42,y44,y46,y79,(1545,(cl [pS,(i 0)])),y82,y85,y88,y90,y92,y94,oU,(2123,(cl [z64])),oV,oW,pN,qR,pO,pP,qT,tP,tQ,tR,tU,tV,tW,tX,tY,tZ,uA,uB,uC,uD,uE,wL,wM,wN,wO,wP,wQ,wR,wS,wT,wU,wV,wW,xC,xE,aAH,(4569,(cl [z23])),aAI,aAJ,aAK,aAL,aAM,aAN,aAO,aAP,bD1,bD2,aIc,aId,aIe,aIf,aIg,aIh,aIi,aIj,(5156,(cl bD3)),(5157,(cl bD3))],5177⟩
def st25 :LS:=
 ⟨⟨264,[(0,z30),(1,(i 20)),(4,(i 0))],54,[(.code (cd 264 [1,0,0,0,1,0])),(.inBlock 1),(.inLoop (cd 264 [1,0,0,0])),(.inBlock 0),(.code (cd 264 [1,1]))],[],.run,.normal,none⟩,
 [⟨239,[(0,z30),(2,.nils),(3,(i 0)),(4,(sf 5254 0 6 6 4)),(5,(i 18)),(31,(i 18))],35,y48,[],.run,.normal,none⟩,y50,y4,bHF,bD4,aY8],
 [y33,(665,(cl [oJ,(i 0)])),y35,y37,y39,y42,y44,y46,y79,(1545,(cl [pS,(i 0)])),y82,y85,y88,y90,y92,y94,oU,(2123,(cl [z64])),oV,oW,pN,qR,pO,pP,qT,tP,tQ,tR,tU,tV,tW,tX,tY,tZ,uA,uB,uC,uD,uE,wL,wM,wN,wO,wP,wQ,wR,wS,wT,wU,wV,wW,xC,xE,aAH,(4569,(cl [z23])),aAI,aAJ,aAK,aAL,aAM,aAN,aAO,aAP,aIc,aId,aIe,aIf,aIg,aIh,aIi,aIj,aY9,bD5,(5254,(.cells (putCells .leaf 0 [(i 3),z31,(i 0),(i 0),(i 1),z32,(i 0),(i 7),(i 5),z4,(i 0),(i 9),(i 3),z33,(i 0),(i 11),(i 2),z34,(i 0),(i 16),(i 5),z7,(i 0),(i 18)]) 24 [5248,5243,5237,5231,5225] false))],5255⟩
def st26 :LS:=
 ⟨⟨239,[(0,z30),(2,.nils),(3,(i 0)),(4,(sf 5352 0 23 23 4)),(5,(i 57)),(6,(p 5356 0))],35,[(.code (cd 239 [1,1,1,0,0,0,1,0,1,1,0])),(.code (cd 239 [1,1,1,0,0,0,1,0,1,1,1])),(.inBlock 1),(.inLoop (cd 239 [1,1,1,0,0,0])),(.inBlock 0),(.code (cd 239 [1,1,1,1]))],[],.run,.normal,none⟩,
 [y50,y4,bHF,bD4,aY8],
 [y33,(665,(cl [oJ,(i 0)])),y35,y37,y39,y42,y44,y46,y79,(1545,(cl [pS,(i 0)])),y82,y85,y88,y90,y92,y94,oU,(2123,(cl [z64])),oV,oW,pN,qR,pO,pP,qT,tP,tQ,tR,tU,tV,tW,tX,tY,tZ,uA,uB,uC,uD,uE,wL,wM,wN,wO,wP,wQ,wR,wS,wT,wU,wV,wW,xC,xE,aAH,(4569,(cl [z23])),aAI,aAJ,aAK,aAL,aAM,aAN,aAO,aAP,aIc,aId,aIe,aIf,aIg,aIh,aIi,aIj,aY9,bD5,(5352,(.cells (putCells .leaf 0 [(i 3),z31,(i 0),(i 0),(i 1),z32,(i 0),(i 7),(i 5),z4,(i 0),(i 9),(i 3),z33,(i 0),(i 11),(i 2),z34,(i 0),(i 16),(i 5),z7,(i 0),(i 18),(i 2),z35,(i 0),(i 20),(i 5),z9,(i 0),(i 24),(i 2),z36,(i 0),(i 26),(i 5),z11,(i 0),(i 30),(i 3),z37,(i 0),(i 31),(i 5),z13,(i 0),(i 34),(i 2),z38,(i 0),(i 36),(i 5),z15,(i 0),(i 37),(i 5),z16,(i 0),(i 38),(i 3),z39,(i 0),(i 40),(i 1),pS,(i 0),(i 44),(i 5),z11,(i 0),(i 47),(i 1),z41,(i 0),(i 48),(i 5),z20,(i 0),(i 50),(i 2),z42,(i 0),(i 52),(i 5),z15,(i 0),(i 53),(i 5),z20,(i 0),(i 55)]) 92 [5346,5340,5335,5329,5323,5317,5311,5305,5299,5293,5288,5282,5276,5270,5265,5259,5254,5248,5243,5237,5231,5225] false)),(5356,(cl [(i 3),z43,(i 0),(i 57)]))],5357⟩
def st27 :LS:=
 ⟨⟨108,[(2,(p 5219 0)),(3,(i 0)),(4,(p 5488 0))],27,[(.code (cd 108 [1,1,1,0])),(.code (cd 108 [1,1,1,1]))],[],.run,.normal,none⟩,
 [bD4,aY8],
 [y33,(665,(cl [oJ,(i 0)])),y35,y37,y39,y42,y44,y46,y79,(1545,(cl [pS,(i 0)])),y82,y85,y88,y90,y92,y94,oU,(2123,(cl [z64])),oV,oW,pN,qR,pO,pP,qT,tP,tQ,tR,tU,tV,tW,tX,tY,tZ,uA,uB,uC,uD,uE,wL,wM,wN,wO,wP,wQ,wR,wS,wT,wU,wV,wW,xC,xE,aAH,(4569,(cl [z23])),aAI,aAJ,aAK,aAL,aAM,aAN,aAO,aAP,aIc,aId,aIe,aIf,aIg,aIh,aIi,aIj,aY9,bD5,(5487,(.cells (putCells .leaf 0 y57) 184 [5481,5475,5469,5463,5457,5451,5445,5439,5433,5427,5421,5415,5409,5404,5398,5393,5387,5382,5376,5370,5364,5358,5352,5346,5340,5335,5329,5323,5317,5311,5305,5299,5293,5288,5282,5276,5270,5265,5259,5254,5248,5243,5237,5231,5225] false)),(5488,(cl [(sf 5487 0 46 46 4),(i 0),ff]))],5489⟩
def st28 :LS:=
 ⟨⟨41,[(1,(p 5755 0)),(2,ff),(3,(i 1))],53,[(.inBlock 1),(.code (cd 41 [1,1,0,1,0,0,1,1])),(.inLoop (cd 41 [1,1,0,1,0,0])),(.inBlock 0),(.code (cd 41 [1,1,1]))],[],.run,.normal,none⟩,
 [⟨8,[(1,(p 5753 0)),(2,ff),(3,(i 0))],77,[(ops 8 [1,1,0,1,0,0,1,0,0,0] 5),(.code (cd 8 [1,1,0,1,0,0,1,0,0,1])),(.inBlock 1),(.code (cd 8 [1,1,0,1,0,0,1,1])),(.inLoop (cd 8 [1,1,0,1,0,0])),(.inBlock 0),(.code (cd 8 [1,1,1]))],[],.run,.normal,none⟩,⟨108,[(2,(p 5219 0)),(3,(i 0)),(6,(p 5752 0))],27,y16,[],.run,.normal,none⟩,bD4,aY8],
 [y33,(665,(cl [oJ,(i 0)])),y35,y37,y39,y42,y44,y46,y79,(1545,(cl [pS,(i 0)])),y82,y85,y88,y90,y92,y94,oU,(2123,(cl [z64])),oV,oW,pN,qR,pO,pP,qT,tP,tQ,tR,tU,tV,tW,tX,tY,tZ,uA,uB,uC,uD,uE,wL,wM,wN,wO,wP,wQ,wR,wS,wT,wU,wV,wW,xC,xE,aAH,(4569,(cl [z23])),aAI,aAJ,aAK,aAL,aAM,aAN,aAO,aAP,aIc,aId,aIe,aIf,aIg,aIh,aIi,aIj,aY9,bD5,aUF,aUG,aUH,aUI,aUJ,aUK,aUL,aUM,aUN,(5752,(cl aZa)),(5753,(cl aZa)),(5755,bFZ)],5764⟩
def st29 :LS:=
 ⟨⟨32,[(2,(p 5218 0)),(7,(.tup [(.agg aZa),(i 0)]))],11,[(ops 32 [1,0] 2),(.code (cd 32 [1,1]))],[],.run,.normal,none⟩,
 [aY8],
 [y33,(665,(cl [oJ,(i 0)])),y35,y37,y39,y42,y44,y46,y79,(1545,(cl [pS,(i 0)])),y82,y85,y88,y90,y92,y94,oU,(2123,(cl [z64])),oV,oW,pN,qR,pO,pP,qT,tP,tQ,tR,tU,tV,tW,tX,tY,tZ,uA,uB,uC,uD,uE,wL,wM,wN,wO,wP,wQ,wR,wS,wT,wU,wV,wW,xC,xE,aAH,(4569,(cl [z23])),aAI,aAJ,aAK,aAL,aAM,aAN,aAO,aAP,aIc,aId,aIe,aIf,aIg,aIh,aIi,aIj,aY9,aUF,aUG,aUH,aUI,aUJ,aUK,aUL,aUM,aUN],5830⟩
def st30 :LS:=
 ⟨⟨239,[(0,z55),(2,.nils),(3,(i 0)),(4,(sf 5904 0 12 12 4)),(5,(i 35)),(6,(p 5908 0)),(21,(sf 5904 0 12 12 4)),(22,(.agg [(i 5),z7,(i 0),(i 35)]))],35,[(ops 239 [1,1,1,0,0,0,1,0,1,1,0] 2),(.code (cd 239 [1,1,1,0,0,0,1,0,1,1,1])),(.inBlock 1),(.inLoop (cd 239 [1,1,1,0,0,0])),(.inBlock 0),(.code (cd 239 [1,1,1,1]))],[],.run,.normal,none⟩,
 [y98,y4,⟨108,[(2,(p 5832 0)),(3,(i 0))],27,y5,[],.run,.normal,none⟩,bHG,bHH],
 [y33,(665,(cl [oJ,(i 0)])),y35,y37,y39,y42,y44,y46,y79,(1545,(cl [pS,(i 0)])),y82,y85,y88,y90,y92,y94,oU,(2123,(cl [z64])),oV,oW,pN,qR,pO,pP,qT,tP,tQ,tR,tU,tV,tW,tX,tY,tZ,uA,uB,uC,uD,uE,wL,wM,wN,wO,wP,wQ,wR,wS,wT,wU,wV,wW,xC,xE,aAH,(4569,(cl [z23])),aAI,aAJ,aAK,aAL,aAM,aAN,aAO,aAP,aIc,aId,aIe,aIf,aIg,aIh,aIi,aIj,aUF,aUG,aUH,aUI,aUJ,aUK,aUL,aUM,aUN,(5831,(cl [z1,.nils,.nils])),(5832,(cl [z1,.nils,.nils])),(5904,(.cells (putCells .leaf 0 [(i 3),z56,(i 0),(i 0),(i 1),z57,(i 0),(i 7),(i 5),z4,(i 0),(i 9),(i 3),z58,(i 0),(i 11),(i 1),z59,(i 0),(i 15),(i 5),z11,(i 0),(i 18),(i 1),z60,(i 0),(i 19),(i 5),z20,(i 0),(i 21),(i 3),z61,(i 0),(i 23),(i 5),z15,(i 0),(i 27),(i 5),z20,(i 0),(i 29),(i 3),z62,(i 0),(i 31)]) 48 [5898,5892,5886,5880,5874,5868,5862,5856,5850,5844,5838] false)),(5908,(cl [(i 5),z7,(i 0),(i 35)]))],5909⟩
def st31 :LS:=
 ⟨⟨164,[(0,(p 6006 0)),(2,(p 6007 0))],37,[(ops 164 [1,0] 0),(.code (cd 164 [1,1]))],[],.run,.normal,none⟩,
 [⟨108,[(2,(p 5832 0)),(3,(i 0)),(4,(p 6006 0))],27,y56,[],.run,.normal,none⟩,bHG,bHH],
 [y33,(665,(cl [oJ,(i 0)])),y35,y37,y39,y42,y44,y46,y79,(1545,(cl [pS,(i 0)])),y82,y85,y88,y90,y92,y94,oU,(2123,(cl [z64])),oV,oW,pN,qR,pO,pP,qT,tP,tQ,tR,tU,tV,tW,tX,tY,tZ,uA,uB,uC,uD,uE,wL,wM,wN,wO,wP,wQ,wR,wS,wT,wU,wV,wW,xC,xE,aAH,(4569,(cl [z23])),aAI,aAJ,aAK,aAL,aAM,aAN,aAO,aAP,aIc,aId,aIe,aIf,aIg,aIh,aIi,aIj,aUF,aUG,aUH,aUI,aUJ,aUK,aUL,aUM,aUN,(5831,(cl [z1,.nils,.nils])),(5832,(cl [z1,.nils,.nils])),(6005,(.cells (putCells .leaf 0 [(i 3),z56,(i 0),(i 0),(i 1),z57,(i 0),(i 7),(i 5),z4,(i 0),(i 9),(i 3),z58,(i 0),(i 11),(i 1),z59,(i 0),(i 15),(i 5),z11,(i 0),(i 18),(i 1),z60,(i 0),(i 19),(i 5),z20,(i 0),(i 21),(i 3),z61,(i 0),(i 23),(i 5),z15,(i 0),(i 27),(i 5),z20,(i 0),(i 29),(i 3),z62,(i 0),(i 31),(i 5),z7,(i 0),(i 35),(i 4),z63,(i 2),(i 37),(i 5),z16,(i 0),(i 38),(i 3),(.str 3 62228021152205753044575206847370250830759845103429077487116595075118970728260284854465894),(i 0),(i 40),(i 1),z65,(i 0),(i 44),(i 5),z11,(i 0),(i 49),(i 1),z66,(i 0),(i 50),(i 5),z20,(i 0),(i 52),(i 3),(.str 4 11984680931699536229247639183429944734243165784802684533),(i 0),(i 54),(i 5),z15,(i 0),(i 58),(i 5),z20,(i 0),(i 60),(i 3),(.str 3 649690855134711828182383788203208297),(i 0),(i 62),(i 5),z7,(i 0),(i 66),(i 1),z64,(i 0),(i 68),(i 1),z28,(i 0),(i 73),(i 5),z16,(i 0),(i 74),(i 5),z29,(i 0),(i 76)]) 116 [5999,5993,5987,5981,5975,5969,5963,5957,5951,5945,5939,5933,5927,5921,5915,5910,5904,5898,5892,5886,5880,5874,5868,5862,5856,5850,5844,5838] false)),(6006,(cl [(sf 6005 0 29 29 4),(i 0),ff])),(6007,(cl [z1,.nils,.nils]))],6008⟩
def st32 :LS:=
 ⟨⟨10,[(0,(s 6165 3 3)),(2,(p 6166 0)),(3,(p 6167 0)),(13,(i 3))],109,[(ops 10 [1,1,0] 2),(.code (cd 10 [1,1,1]))],[(.fn 44 bD6)],.run,.normal,none⟩,
 [bD7],
 [y33,(665,(cl [oJ,(i 0)])),y35,y37,y39,y42,y44,y46,y79,(1545,(cl [pS,(i 0)])),y82,y85,y88,y90,y92,y94,oU,(2123,(cl [z64])),oV,oW,pN,qR,pO,pP,qT,tP,tQ,tR,tU,tV,tW,tX,tY,tZ,uA,uB,uC,uD,uE,wL,wM,wN,wO,wP,wQ,wR,wS,wT,wU,wV,wW,xC,xE,aAH,(4569,(cl [z23])),aAI,aAJ,aAK,aAL,aAM,aAN,aAO,aAP,aIc,aId,aIe,aIf,aIg,aIh,aIi,aIj,aUF,aUG,aUH,aUI,aUJ,aUK,aUL,aUM,aUN,(6107,(cl y99)),(6120,(.cells (putCells .leaf 0 [z59,z60,(i 3),(i 0),z1,.nils,(i 1),(i 0),z1,.nils,(i 1),(i 2),z1,.nils,.nils,z65,z66,(i 3),(i 0),z1,.nils,(i 1),(i 0),z1,.nils,(i 6),(i 0),z1,(s 6107 2 5),.nils]) 30 [6062] false)),(6165,(cl [z3,(sf 4988 0 1 1 2),(sf 5153 0 1 1 15),z32,(sf 5546 0 1 1 2),(sf 5749 0 1 1 15),z57,.nils,(sf 6120 0 2 2 15)])),(6166,(cl [z1,.nils,.nils])),(6167,(cl [(i 0)]))],6168⟩
def st33 :LS:=
 ⟨⟨121,[(0,(sf 6324 0 1 1 2)),(1,(.func 49 [] [(p 6526 0)])),(4,(i 0)),(7,(i 1)),(8,(i 0))],19,[(.code (cd 121 [1,0,1,0,0,0])),(.code (cd 121 [1,0,1,0,0,1])),(.inLoop (cd 121 [1,0,1,0,0])),(.inBlock 0),(.code (cd 121 [1,1]))],[],.run,.normal,none⟩,
 [⟨48,[(4,ff)],9,[(ops 48 [1,0] 2),(.code .ret)],[],.run,.normal,none⟩,⟨10,[(0,(s 6165 3 3)),(2,(p 6166 0)),(3,(p 6167 0)),(4,(sf 6325 0 2 2 2)),(6,(p 6375 0)),(8,(p 6526 0)),(16,(s 6165 3 3)),(17,(i 3)),(18,(i 1)),(27,(sf 5546 0 1 1 2)),(28,(i 1)),(29,(i 0)),(36,ff),(37,tt)],109,[(ops 10 [1,1,1,1,0,1,0,0,1,1,0,0,1,1,0,1,0,0,1,1,0,0,1,0] 3),(.code (cd 10 [1,1,1,1,0,1,0,0,1,1,0,0,1,1,0,1,0,0,1,1,0,0,1,1])),(.inBlock 3),(.code (cd 10 [1,1,1,1,0,1,0,0,1,1,0,0,1,1,0,1,0,0,1,1,1])),(.inLoop (cd 10 [1,1,1,1,0,1,0,0,1,1,0,0,1,1,0,1,0,0])),(.inBlock 2),(.code (cd 10 [1,1,1,1,0,1,0,0,1,1,0,0,1,1,1])),(.inBlock 1),(.code (cd 10 [1,1,1,1,0,1,0,0,1,1,1])),(.inLoop (cd 10 [1,1,1,1,0,1,0,0])),(.inBlock 0),(.code (cd 10 [1,1,1,1,1]))],[(.fn 44 bD6)],.run,.normal,none⟩,bD7],
 [y33,(665,(cl [oJ,(i 0)])),y35,y37,y39,y42,y44,y46,y79,(1545,(cl [pS,(i 0)])),y82,y85,y88,y90,y92,y94,oU,(2123,(cl [z64])),oV,oW,pN,qR,pO,pP,qT,tP,tQ,tR,tU,tV,tW,tX,tY,tZ,uA,uB,uC,uD,uE,wL,wM,wN,wO,wP,wQ,wR,wS,wT,wU,wV,wW,xC,xE,aAH,(4569,(cl [z23])),aAI,aAJ,aAK,aAL,aAM,aAN,aAO,aAP,aIc,aId,aIe,aIf,aIg,aIh,aIi,aIj,aUF,aUG,aUH,aUI,aUJ,aUK,aUL,aUM,aUN,(6107,(cl y99)),(6120,(.cells (putCells .leaf 0 [z59,z60,(i 3),(i 0),z1,.nils,(i 1),(i 0),z1,.nils,(i 1),(i 2),z1,.nils,.nils,z65,z66,(i 3),(i 0),z1,.nils,(i 1),(i 0),z1,.nils,(i 6),(i 0),z1,(s 6107 2 5),.nils]) 30 [6062] false)),(6165,(cl [z3,(sf 4988 0 1 1 2),(sf 5153 0 1 1 15),z32,(sf 5546 0 1 1 2),(sf 5749 0 1 1 15),z57,.nils,(sf 6120 0 2 2 15)])),(6166,(cl [z1,(sf 6324 0 1 1 2),(sf 6374 0 1 1 15)])),(6167,(cl [(i 0)])),bD8,bD9,bEa,(6325,(cl bHE)),bEb,bEc,bEd,bEe,(6374,(cl bHI)),(6375,(cl aZa)),(6526,bFZ)],6527⟩
def st34 :LS:=
 ⟨⟨120,[(2,tt)],65,[(.code .ret),(.inBlock 0),(.code (cd 120 [1,1]))],[],.run,.normal,none⟩,
 [⟨170,[(3,ff)],8,[(ops 170 [1,0] 2),(.code .ret)],[],.run,.normal,none⟩,⟨211,[(0,(sf 6758 0 5 5 1)),(1,(.func 170 [] [(p 6759 0)])),(4,(i 0)),(5,(i 1)),(7,(i 5)),(8,(i 1)),(16,ff)],19,[(ops 211 [1,0,1,0,0,1,1,0,0,1,0] 5),(.code (cd 211 [1,0,1,0,0,1,1,0,0,1,1])),(.inBlock 1),(.code (cd 211 [1,0,1,0,0,1,1,1])),(.inLoop (cd 211 [1,0,1,0,0])),(.inBlock 0),(.code (cd 211 [1,1]))],[],.run,.normal,none⟩,⟨169,[(4,ff)],9,[(ops 169 [1,0] 2),(.code .ret)],[],.run,.normal,none⟩,⟨119,[(4,ff)],9,[(ops 119 [1,0] 2),(.code .ret)],[],.run,.normal,none⟩,⟨47,[(2,(i 0))],61,[(ops 47 [1,1,1,1,1,0,0] 1),(.code (cd 47 [1,1,1,1,1,0,1])),(.code (cd 47 [1,1,1,1,1,1]))],[],.run,.normal,none⟩,⟨10,[(2,(p 6166 0)),(3,(p 6167 0))],109,[(ops 10 [1,1,1,1,1,1,1,0] 1),(.code (cd 10 [1,1,1,1,1,1,1,1]))],[(.fn 44 bD6)],.run,.normal,none⟩,bD7],
 [y33,(665,(cl [oJ,(i 0)])),y35,y37,y39,y42,y44,y46,y79,(1545,(cl [pS,(i 0)])),y82,y85,y88,y90,y92,y94,oU,(2123,(cl [z64])),oV,oW,pN,qR,pO,pP,qT,tP,tQ,tR,tU,tV,tW,tX,tY,tZ,uA,uB,uC,uD,uE,wL,wM,wN,wO,wP,wQ,wR,wS,wT,wU,wV,wW,xC,xE,aAH,(4569,(cl [z23])),aAI,aAJ,aAK,aAL,aAM,aAN,aAO,aAP,(6166,(cl [z3,(sf 6324 0 1 1 2),(sf 6717 0 4 4 15)])),(6167,(cl [(i 0)])),bD8,bD9,bEa,bEb,bEc,bEd,bEe,(6584,(.cells (putCells .leaf 0 y65) 10 [6579] false)),(6586,(.cells (putCells .leaf 0 [(i 4),(i 0),z52,.nils,.nils,(i 6),(i 0),z1,(sf 6584 0 2 2 5),.nils]) 10 [6571] false)),(6588,(.cells (putCells .leaf 0 [(i 4),(i 0),z45,.nils,.nils,(i 1),(i 0),z1,.nils,.nils,(i 9),(i 0),z1,(sf 6586 0 2 2 5),.nils]) 15 [6563,6558] false)),(6606,(.cells (putCells .leaf 0 y64) 8 [6601] false)),(6608,(.cells (putCells .leaf 0 [(i 6),(i 0),z46,.nils,(i 6),(i 0),z49,(sf 6606 0 2 2 4)]) 8 [6593] false)),(6716,(.cells (putCells .leaf 0 y99) 10 [6711] false)),(6717,(.cells (putCells .leaf 0 [oJ,z19,(i 3),(i 0),z1,.nils,(i 1),(i 0),z1,.nils,(i 9),(i 0),z1,(sf 6373 0 2 2 5),.nils,pS,z41,(i 8),(i 0),z42,.nils,(i 1),(i 0),z1,.nils,(i 15),(i 0),z1,(sf 6588 0 3 3 5),(sf 6608 0 2 2 4),z59,z60,(i 3),(i 0),z1,.nils,(i 1),(i 0),z1,.nils,(i 1),(i 2),z1,.nils,.nils,z65,z66,(i 3),(i 0),z1,.nils,(i 1),(i 0),z1,.nils,(i 6),(i 0),z1,(sf 6716 0 2 2 5),.nils]) 60 [6698,6609,6374] false)),(6758,(.cells (putCells .leaf 0 [(.iface 177 (.agg [z6,(sf 6323 0 2 2 2)])),(.iface 179 (.agg bHI)),(.iface 179 (.agg [pS,z41,(i 8),(i 0),z42,.nils,(i 1),(i 0),z1,.nils,(i 15),(i 0),z1,(sf 6588 0 3 3 5),(sf 6608 0 2 2 4)])),(.iface 179 (.agg [z59,z60,(i 3),(i 0),z1,.nils,(i 1),(i 0),z1,.nils,(i 1),(i 2),z1,.nils,.nils])),(.iface 179 (.agg [z65,z66,(i 3),(i 0),z1,.nils,(i 1),(i 0),z1,.nils,(i 6),(i 0),z1,(sf 6716 0 2 2 5),.nils]))]) 5 [6755,6752,6749,6746] false)),(6759,(cl [(.func 120 [] [])]))],6883⟩
def st35 :LS:=
 ⟨⟨10,[(2,(p 6166 0)),(3,(p 6167 0)),(105,(i 0))],109,[(ops 10 [1,1,1,1,1,1,1,0] 2),(.code (cd 10 [1,1,1,1,1,1,1,1]))],[(.fn 44 bD6)],.run,.normal,none⟩,
 [bD7],
 [y33,(665,(cl [oJ,(i 0)])),y35,y37,y39,y42,y44,y46,y79,(1545,(cl [pS,(i 0)])),y82,y85,y88,y90,y92,y94,oU,(2123,(cl [z64])),oV,oW,pN,qR,pO,pP,qT,tP,tQ,tR,tU,tV,tW,tX,tY,tZ,uA,uB,uC,uD,uE,wL,wM,wN,wO,wP,wQ,wR,wS,wT,wU,wV,wW,xC,xE,aAH,(4569,(cl [z23])),aAI,aAJ,aAK,aAL,aAM,aAN,aAO,aAP,(6166,(cl [z3,(sf 6324 0 1 1 2),(sf 6717 0 4 4 15)])),(6167,(cl [(i 0)])),bD8,bD9,bEa,bEb,bEc,bEd,bEe,(6584,(.cells (putCells .leaf 0 y65) 10 [6579] false)),(6586,(.cells (putCells .leaf 0 [(i 4),(i 0),z52,.nils,.nils,(i 6),(i 0),z1,(sf 6584 0 2 2 5),.nils]) 10 [6571] false)),(6588,(.cells (putCells .leaf 0 [(i 4),(i 0),z45,.nils,.nils,(i 1),(i 0),z1,.nils,.nils,(i 9),(i 0),z1,(sf 6586 0 2 2 5),.nils]) 15 [6563,6558] false)),(6606,(.cells (putCells .leaf 0 y64) 8 [6601] false)),(6608,(.cells (putCells .leaf 0 [(i 6),(i 0),z46,.nils,(i 6),(i 0),z49,(sf 6606 0 2 2 4)]) 8 [6593] false)),(6716,(.cells (putCells .leaf 0 y99) 10 [6711] false)),(6717,(.cells (putCells .leaf 0 [oJ,z19,(i 3),(i 0),z1,.nils,(i 1),(i 0),z1,.nils,(i 9),(i 0),z1,(sf 6373 0 2 2 5),.nils,pS,z41,(i 8),(i 0),z42,.nils,(i 1),(i 0),z1,.nils,(i 15),(i 0),z1,(sf 6588 0 3 3 5),(sf 6608 0 2 2 4),z59,z60,(i 3),(i 0),z1,.nils,(i 1),(i 0),z1,.nils,(i 1),(i 2),z1,.nils,.nils,z65,z66,(i 3),(i 0),z1,.nils,(i 1),(i 0),z1,.nils,(i 6),(i 0),z1,(sf 6716 0 2 2 5),.nils]) 60 [6698,6609,6374] false))],7066⟩
def st36 :LS:=
 ⟨⟨77,[(1,(p 7214 0)),(2,ff),(3,(sf 7218 0 1 1 1)),(41,ff)],114,[(ops 77 [1,1,0,0] 30),(.code (cd 77 [1,1,0,1])),(.code (cd 77 [1,1,1]))],[],.run,.normal,none⟩,
 [⟨69,[(2,.nilp),(3,(p 7072 0)),(4,(i 1)),(5,(p 7213 0)),(19,(s 7067 3 5)),(20,(i 3)),(21,(i 1)),(27,tt)],87,bFY,[],.run,.normal,none⟩,⟨33,[(0,(s 7067 3 5)),(2,(p 7068 0)),(3,(p 7069 0))],35,[(ops 33 [1,1,0] 1),(.code (cd 33 [1,1,1]))],[(.fn 44 [(p 7069 0),(.func 109 [] [(p 7068 0)])])],.run,.normal,none⟩,⟨6,[(0,ff),(1,(p 2147 0)),(3,(p 2149 0)),(4,(sf 2300 0 2 2 1)),(5,(i 0)),(6,(sf 2697 0 3 3 1)),(7,(i 0)),(8,(p 3346 0)),(9,(i 0)),(10,(p 3995 0)),(11,(i 0)),(13,(i 7)),(14,(p 4700 0)),(15,(i 0)),(16,(p 7066 0)),(17,(i 0))],240,[(ops 6 [1,1,1,1,1,1,1,1,1,0] 4),(.code (cd 6 [1,1,1,1,1,1,1,1,1,1]))],[],.run,.normal,none⟩],
 [y33,(665,(cl [oJ,(i 0)])),y35,y37,y39,y42,y44,y46,y79,(1545,(cl [pS,(i 0)])),y82,y85,y88,y90,y92,y94,oU,(2123,(cl [z64])),oV,oW,pN,pO,pP,qT,tP,tQ,tR,tU,tV,tW,tX,tY,tZ,uA,uB,uC,uD,uE,wL,wM,wN,wO,wP,wQ,wR,wS,wT,wU,wV,wW,xC,xE,aAH,(4569,(cl [z23])),aAI,aAJ,aAK,aAL,aAM,aAN,aAO,aAP,bD8,bD9,bEa,bEb,bEc,bEd,bEe,(6584,(.cells (putCells .leaf 0 y65) 10 [6579] false)),(6586,(.cells (putCells .leaf 0 [(i 4),(i 0),z52,.nils,.nils,(i 6),(i 0),z1,(sf 6584 0 2 2 5),.nils]) 10 [6571] false)),(6588,(.cells (putCells .leaf 0 [(i 4),(i 0),z45,.nils,.nils,(i 1),(i 0),z1,.nils,.nils,(i 9),(i 0),z1,(sf 6586 0 2 2 5),.nils]) 15 [6563,6558] false)),(6606,(.cells (putCells .leaf 0 y64) 8 [6601] false)),(6608,(.cells (putCells .leaf 0 [(i 6),(i 0),z46,.nils,(i 6),(i 0),z49,(sf 6606 0 2 2 4)]) 8 [6593] false)),(6716,(.cells (putCells .leaf 0 y99) 10 [6711] false)),(6717,(.cells (putCells .leaf 0 [oJ,z19,(i 3),(i 0),z1,.nils,(i 1),(i 0),z1,.nils,(i 9),(i 0),z1,(sf 6373 0 2 2 5),.nils,pS,z41,(i 8),(i 0),z42,.nils,(i 1),(i 0),z1,.nils,(i 15),(i 0),z1,(sf 6588 0 3 3 5),(sf 6608 0 2 2 4),z59,z60,(i 3),(i 0),z1,.nils,(i 1),(i 0),z1,.nils,(i 1),(i 2),z1,.nils,.nils,z65,z66,(i 3),(i 0),z1,.nils,(i 1),(i 0),z1,.nils,(i 6),(i 0),z1,(sf 6716 0 2 2 5),.nils]) 60 [6698,6609,6374] false)),(7066,(cl [z3,(sf 6324 0 1 1 2),(sf 6717 0 4 4 15)])),(7067,(cl [z3,(sf 662 0 2 2 2),(sf 665 0 1 1 2),(sf 735 0 2 2 1),(sf 751 0 9 9 4),z32,(sf 1542 0 2 2 2),(sf 1545 0 1 1 2),.nils,(sf 1658 0 8 8 4),z57,.nils,(sf 2099 0 2 2 2),(sf 2123 0 1 1 1),(sf 2139 0 4 4 4)])),(7068,(cl [.nils])),(7069,(cl [(i 0)])),(7070,(.map [(oJ,(i 0),0)] 1)),(7071,(.map [(oJ,(i 0),0)] 1)),(7072,(cl [(s 7067 3 5),(.map 7070),(.map 7071),(sf 7212 0 1 1 1),ff])),(7212,(cl [oJ])),(7213,(cl y72)),(7214,(cl y72)),(7218,(cl [pS]))],7227⟩
def st37 :LS:=
 ⟨⟨6,[(0,tt)],240,[(.code .ret)],[],.ret,.normal,none⟩,
 [],
 [],7460⟩
end
end Kn
end Go.Hb
