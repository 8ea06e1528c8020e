/-
  OWN WORK (V111, H38, H39, V112, V113, V40, V41, V23, H5, H6, V24, V25, V26, V42, V43, V44, H16, V47, H17, V48, H14, V45, H40, V114): a machine on abstract values, its soundness, ways through the text (the ways WRITTEN BY A PROGRAM), plain laws.
-/
import Derived.Test.YtabmpnmmkeieiaaGreatHF
import Derived.Test.YtabmpnmmkeieiaaGreatHG
import Derived.Test.YtabmpnmmkeieiaaGreatHH
import Derived.Test.YtabmpnmmkeieiaaGreatHI
import Derived.Test.YtabmpnmmkeieiaaGreatHJ
set_option linter.defProp false
set_option linter.unusedVariables false
set_option linter.unusedSimpArgs false
set_option linter.unusedSectionVars false
set_option maxRecDepth 100000
namespace Go.Hb
open Go.Proofs
structure ConD where
 name:aC
 args:List Typ
def ConD.av (c:ConD) :AV:=.agg [aA c.name,.ilst 4 (Typs.av c.args) false]
structure DataD where
 name:aC
 cons:List ConD
def DataD.av (d:DataD) :AV:=.agg [aA d.name,.ilst 2 (List.map ConD.av d.cons) false]
inductive FunD where
 |mk (name param:aC) (frm to:Typ) (body:Term)
def FunD.av :FunD→AV
 | .mk n p (.mk f0 f1 f2 f3) (.mk g0 g1 g2 g3) (.mk b0 b1 b2 b3 b4) =>.agg [aA n,aA p,.int .i64 f0,.int .i64 f1,aA f2,.ilst 4 (Typs.av f3) false,.int .i64 g0,.int .i64 g1,aA g2,.ilst 4 (Typs.av g3) false,.int .i64 b0,.int .i64 b1,aA b2,.ilst 5 (Terms.av b3) false,.ilst 4 (Pats.av b4) false]
def FunDs.av (l:List FunD) :List AV:=List.map FunD.av l
theorem cD :∀l,FunDs.av l=List.map FunD.av l:=fun _=>rfl
theorem aXf :∀f,AV.keyless (FunD.av f) =true
 | .mk n p (.mk f0 f1 f2 f3) (.mk g0 g1 g2 g3) (.mk b0 b1 b2 b3 b4) =>by simp [FunD.av,AV.keyless,AV.keylessL,aA]
structure Mod where
 name:aC
 datas:List DataD
 funs:List FunD
def Mod.av (m:Mod) :AV:=.agg [aA m.name,.ilst 2 (List.map DataD.av m.datas) false,.ilst 15 (FunDs.av m.funs) false]
inductive Part where
 |data (d:DataD)
 |fn (f:FunD)
def Part.av :Part→AV
 | .data d=>.iface 177 (DataD.av d)
 | .fn f=>.iface 179 (FunD.av f)
def Parts.av (l:List Part) :List AV:=List.map Part.av l
theorem nO :∀l,Parts.av l=List.map Part.av l:=fun _=>rfl
theorem aFZ :∀x,AV.keyless (Part.av x) =true
 | .data d=>by simp [Part.av,DataD.av,AV.keyless,AV.keylessL,aA]
 | .fn f=>by simp only [Part.av,AV.keyless];exact aXf f
theorem uZ {l:List Part}:AV.keylessL (Parts.av l) =true:=aL _ aFZ _
end Go.Hb
namespace Go.Hb
open Go.Proofs
noncomputable section
open Go.Proofs Tryz
def aC8(a:DataD)(b:Int):TS:=⟨(tf 61 53 [kp 1 0,(2,(bV false)),(3,(nI b))] [kc f61 116,kl f61 116,.inBlock 0,kc f61 15]),[],[oC 0 [(aA a.name),(.ilst 2 (List.map ConD.av a.cons) false)]],1⟩
def aF0(a:DataD)(b:aC)(c:List Typ)(d e:Int):TS:=⟨(tf 61 53 [kp 1 0,(2,(bV false)),(3,(nI e)),kp 4 1,(5,(nI d))] [kc f61 29852,kl f61 29852,.inBlock 2,.inBlock 1,kc f61 467,kl f61 116,.inBlock 0,kc f61 15]),[],[oC 0 [(aA a.name),(.ilst 2 (List.map ConD.av a.cons) false)],oC 1 [(aA b),(.ilst 4 (Typs.av c) false)]],2⟩
def aF1(a:Mod)(b:Int):TS:=⟨(tf 14 77 [kp 1 0,(2,(bV false)),(3,(nI b))] [kc f14 116,kl f14 116,.inBlock 0,kc f14 15]),[],[oC 0 [(aA a.name),(.ilst 2 (List.map DataD.av a.datas) false),(.ilst 15 (FunDs.av a.funs) false)]],1⟩
def aF2(a:Mod)(b:Int):TS:=⟨(tf 14 77 [kp 1 0,(2,(bV false)),(4,(nI b))] [kc f14 244,kl f14 244,.inBlock 2,kc f14 31]),[],[oC 0 [(aA a.name),(.ilst 2 (List.map DataD.av a.datas) false),(.ilst 15 (FunDs.av a.funs) false)]],1⟩
def aC9(a:DataD)(b:Int):TS:=⟨(tf 34 52 [kp 1 0,(2,(bV false)),(3,(nI b))] [kc f34 116,kl f34 116,.inBlock 0,kc f34 15]),[],[oC 0 [(aA a.name),(.ilst 2 (List.map ConD.av a.cons) false)]],1⟩
def aF3(a:DataD)(b:aC)(c:List Typ)(d e:Int):TS:=⟨(tf 34 52 [kp 1 0,(2,(bV false)),(3,(nI e)),kp 4 1,(5,(nI d))] [kc f34 29852,kl f34 29852,.inBlock 2,.inBlock 1,kc f34 467,kl f34 116,.inBlock 0,kc f34 15]),[],[oC 0 [(aA a.name),(.ilst 2 (List.map ConD.av a.cons) false)],oC 1 [(aA b),(.ilst 4 (Typs.av c) false)]],2⟩
def aF4(a:Mod)(b:Int):TS:=⟨(tf 8 76 [kp 1 0,(2,(bV false)),(3,(nI b))] [kc f8 116,kl f8 116,.inBlock 0,kc f8 15]),[],[oC 0 [(aA a.name),(.ilst 2 (List.map DataD.av a.datas) false),(.ilst 15 (FunDs.av a.funs) false)]],1⟩
def aF5(a:Mod)(b:Int):TS:=⟨(tf 8 76 [kp 1 0,(2,(bV false)),(4,(nI b))] [kc f8 244,kl f8 244,.inBlock 2,kc f8 31]),[],[oC 0 [(aA a.name),(.ilst 2 (List.map DataD.av a.datas) false),(.ilst 15 (FunDs.av a.funs) false)]],1⟩
def aF6(a b:Int)(c:aC)(d:List Term)(e:List Pat)(f:Int):TS:=⟨(tf 58 43 [kp 1 0,(2,(bV false)),(3,(nI f))] [kc f58 116,kl f58 116,.inBlock 0,kc f58 15]),[],[oC 0 [(nI a),(nI b),(aA c),(.ilst 5 (Terms.av d) false),(iP e)]],1⟩
def aF7(a b:Int)(c:aC)(d:List Term)(e:List Pat)(f:Int):TS:=⟨(tf 58 43 [kp 1 0,(2,(bV false)),(4,(nI f))] [kc f58 244,kl f58 244,.inBlock 2,kc f58 31]),[],[oC 0 [(nI a),(nI b),(aA c),(.ilst 5 (Terms.av d) false),(iP e)]],1⟩
def aRH(a:DataD):=tT 0 (start PP 61 [(.agg [(aA a.name),(.ilst 2 (List.map ConD.av a.cons) false)])])<|dG 10 120 [(aA a.name)]<|fun b=>.b 2 10 (!b) (gE 13 1 (bV false))<|gl 2 ConD.av a.cons<|dG 0 60 [(nI (a.cons.length:Int)),(nI 1),(nI 5)]<|fun c=>.b 3 16 (!c) (gE 6 1 (bV false))<|.W 9 1 [0] (aC8 a 0)
def aXg:=fun a b c d=>aRH a b c|>.t d tv
def aXh:=fun a b c d e f g=>aRH a b d|>.f e c f|>.t g tv
def aXi:=fun a b c d e f g=>aRH a b d|>.f e c f|>.f g tv
def aLa(a:DataD)(c:Int):=tT 0 (aC8 a c)<|gl 6 ConD.av a.cons<|gd 2 21 (c< (a.cons.length:Int)) (gX ConD.av 9 a.cons c<|fun b=>dG 9 120 [(aA b.name)]<|fun d=>.b 2 33 (!d) (gE 12 2 (bV false))<|gm 2 cT b.args<|gd 3 38 ((b.args.length:Int) >3) (gE 6 2 (bV false))<|.W 8 2 [0,1] (aF0 a b.name b.args 0 c))<|gE 7 1 (bV true)
def aXj:=fun a b c d e f g i j=>aLa a b|>.t e c f g d i|>.t j tv
def aXk:=fun a b c d e f g i j k=>aLa a b|>.t e c f g d i|>.f j|>.t k tv
def aXl:=fun a b c d e f g i j k=>aLa a b|>.t e c f g d i|>.f j|>.f k tv
def aXm:=fun a b c=>aLa a b|>.f c tv
def aRI(d:DataD)(e:aC)(a:List Typ)(b c:Int):=tT 0 (aF0 d e a b c)<|gm 6 cT a<|gd 2 43 (b< (a.length:Int)) (aHs 9 a b<|fun f g i j=>dG 1 62 [(.agg [(nI f),(nI g),(aA i),(.ilst 4 (Typs.av j) false)])]<|fun k=>.b 2 52 (!k) (gE 6 2 (bV false))<|gw 6 45 (b+1)<|.W 3 2 [0,1] (aF0 d e a (b+1) c))<|gw 6 23 (c+1)<|.W 3 2 [0] (aC8 d (c+1))
def aXn:=fun a b c d e f g i j k l m n o p=>aRI a b c d e|>.t l f g i j m n k o|>.t p tv
def aXo:=fun a b c d e f g i j k l m n o p q=>aRI a b c d e|>.t l f g i j m n k o|>.f p q tv
def aXp:=fun a b c d e f g=>aRI a b c d e|>.f f g tv
def aLb(a:Mod):=tT 0 (start PP 14 [(.agg [(aA a.name),(.ilst 2 (List.map DataD.av a.datas) false),(.ilst 15 (FunDs.av a.funs) false)])])<|dG 10 59 [(aA a.name)]<|fun b=>.b 2 10 (!b) (gE 19 1 (bV false))<|gl 2 DataD.av a.datas<|gd 3 16 ((a.datas.length:Int) >4) (gE 13 1 (bV false))<|gm 2 cD a.funs<|dG 0 60 [(nI (a.funs.length:Int)),(nI 1),(nI 5)]<|fun c=>.b 3 22 (!c) (gE 6 1 (bV false))<|.W 9 1 [0] (aF1 a 0)
def aXq:=fun a b c d=>aLb a b c|>.t d tv
def aXr:=fun a b c d e=>aLb a b c|>.f d|>.t e tv
def aXs:=fun a b c d e f g i=>aLb a b d|>.f e|>.f f c g|>.t i tv
def aXt:=fun a b c d e f g i=>aLb a b d|>.f e|>.f f c g|>.f i tv
def aRJ(a:Mod)(b:Int):=tT 0 (aF1 a b)<|gl 6 DataD.av a.datas<|gd 2 27 (b< (a.datas.length:Int)) (gX DataD.av 9 a.datas b<|fun c=>dG 1 61 [(.agg [(aA c.name),(.ilst 2 (List.map ConD.av c.cons) false)])]<|fun d=>.b 2 36 (!d) (gE 6 1 (bV false))<|gw 6 29 (b+1)<|.W 3 1 [0] (aF1 a (b+1)))<|.W 9 1 [0] (aF2 a 0)
def aXu:=fun a b c d e f g i j=>aRJ a b|>.t e c f g d i|>.t j tv
def aXv:=fun a b c d e f g i j k=>aRJ a b|>.t e c f g d i|>.f j k tv
def aXw:=fun a b c=>aRJ a b|>.f c tv
def aDa(a:Mod)(b:Int):=tT 0 (aF2 a b)<|gm 6 cD a.funs<|gd 2 41 (b< (a.funs.length:Int)) (.y fun c:aC=>.y fun d:aC=>.y fun e:Int=>.y fun f:Int=>.y fun g:aC=>.y fun i:List Typ=>.y fun j:Int=>.y fun k:Int=>.y fun l:aC=>.y fun m:List Typ=>.y fun n:Int=>.y fun o:Int=>.y fun p:aC=>.y fun q:List Term=>.y fun r:List Pat=>giF cD 9 a.funs b (FunD.mk c d (Typ.mk e f g i) (Typ.mk j k l m) (Term.mk n o p q r))<|dG 8 59 [(aA c)]<|fun s=>.b 2 53 (!s) (gE 30 2 (bV false))<|dG 2 59 [(aA d)]<|fun t=>.b 3 59 (!t) (gE 24 2 (bV false))<|dG 2 62 [(.agg [(nI e),(nI f),(aA g),(.ilst 4 (Typs.av i) false)])]<|fun u=>.b 3 65 (!u) (gE 18 2 (bV false))<|dG 2 62 [(.agg [(nI j),(nI k),(aA l),(.ilst 4 (Typs.av m) false)])]<|fun v=>.b 3 71 (!v) (gE 12 2 (bV false))<|dG 2 15 [(.agg [(nI n),(nI o),(aA p),(.ilst 5 (Terms.av q) false),(iP r)])]<|fun w=>.b 3 76 (!w) (gE 6 2 (bV false))<|gw 6 43 (b+1)<|.W 3 2 [0] (aF2 a (b+1)))<|gE 7 1 (bV true)
def aXx:=fun a b c d e f g i j k l m n o p q r s t u v w x=>aDa a b|>.t t c d e f g i j k l m n o p q r u v s w|>.t x tv
def aXy:=fun a b c d e f g i j k l m n o p q r s t u v w x y z A=>aDa a b|>.t u c d e f g i j k l m n o p q r v w s x|>.f y t z|>.t A tv
def aXz:=fun a b c d e f g i j k l m n o p q r s t u v w x y z A B C D=>aDa a b|>.t v c d e f g i j k l m n o p q r w x s y|>.f z t A|>.f B u C|>.t D tv
def aXA:=fun a b c d e f g i j k l m n o p q r s t u v w x y z A B C D F G H=>aDa a b|>.t w c d e f g i j k l m n o p q r x y s z|>.f A t B|>.f C u D|>.f F v G|>.t H tv
def aXB:=fun a b c d e f g i j k l m n o p q r s t u v w x y z A B C D F G H I J K=>aDa a b|>.t x c d e f g i j k l m n o p q r y z s A|>.f B t C|>.f D u F|>.f G v H|>.f I w J|>.t K tv
def aXC:=fun a b c d e f g i j k l m n o p q r s t u v w x y z A B C D F G H I J K L=>aDa a b|>.t x c d e f g i j k l m n o p q r y z s A|>.f B t C|>.f D u F|>.f G v H|>.f I w J|>.f K L tv
def aXD:=fun a b c=>aDa a b|>.f c tv
def aRK(a:DataD):=tT 0 (start PP 34 [(.agg [(aA a.name),(.ilst 2 (List.map ConD.av a.cons) false)])])<|gd 13 10 ((a.name.length:Int) >30) (gE 12 1 (bV false))<|gl 2 ConD.av a.cons<|gd 3 15 ((a.cons.length:Int) >8) (gE 6 1 (bV false))<|.W 9 1 [0] (aC9 a 0)
def aXE:=fun a b=>aRK a|>.t b tv
def aXF:=fun a b c=>aRK a|>.f b|>.t c tv
def aXG:=fun a b c=>aRK a|>.f b|>.f c tv
def aLc(a:DataD)(c:Int):=tT 0 (aC9 a c)<|gl 6 ConD.av a.cons<|gd 2 20 (c< (a.cons.length:Int)) (gX ConD.av 9 a.cons c<|fun b=>gd 12 32 ((b.name.length:Int) >30) (gE 12 2 (bV false))<|gm 2 cT b.args<|gd 3 37 ((b.args.length:Int) >6) (gE 6 2 (bV false))<|.W 8 2 [0,1] (aF3 a b.name b.args 0 c))<|gE 7 1 (bV true)
def aXH:=fun a b c d e f g=>aLc a b|>.t d c e f|>.t g tv
def aXI:=fun a b c d e f g i=>aLc a b|>.t d c e f|>.f g|>.t i tv
def aXJ:=fun a b c d e f g i=>aLc a b|>.t d c e f|>.f g|>.f i tv
def aXK:=fun a b c=>aLc a b|>.f c tv
def aRL(d:DataD)(e:aC)(a:List Typ)(b c:Int):=tT 0 (aF3 d e a b c)<|gm 6 cT a<|gd 2 42 (b< (a.length:Int)) (aHs 9 a b<|fun f g i j=>dG 1 35 [(.agg [(nI f),(nI g),(aA i),(.ilst 4 (Typs.av j) false)])]<|fun k=>.b 2 51 (!k) (gE 6 2 (bV false))<|gw 6 44 (b+1)<|.W 3 2 [0,1] (aF3 d e a (b+1) c))<|gw 6 22 (c+1)<|.W 3 2 [0] (aC9 d (c+1))
def aXL:=fun a b c d e f g i j k l m n o p=>aRL a b c d e|>.t l f g i j m n k o|>.t p tv
def aXM:=fun a b c d e f g i j k l m n o p q=>aRL a b c d e|>.t l f g i j m n k o|>.f p q tv
def aXN:=fun a b c d e f g=>aRL a b c d e|>.f f g tv
def aLd(a:Mod):=tT 0 (start PP 8 [(.agg [(aA a.name),(.ilst 2 (List.map DataD.av a.datas) false),(.ilst 15 (FunDs.av a.funs) false)])])<|gd 13 10 ((a.name.length:Int) >30) (gE 18 1 (bV false))<|gl 2 DataD.av a.datas<|gd 3 16 ((a.datas.length:Int) >6) (gE 12 1 (bV false))<|gm 2 cD a.funs<|gd 3 21 ((a.funs.length:Int) >8) (gE 6 1 (bV false))<|.W 9 1 [0] (aF4 a 0)
def aXO:=fun a b=>aLd a|>.t b tv
def aXP:=fun a b c=>aLd a|>.f b|>.t c tv
def aXQ:=fun a b c d=>aLd a|>.f b|>.f c|>.t d tv
def aXR:=fun a b c d=>aLd a|>.f b|>.f c|>.f d tv
def aJS(a:Mod)(b:Int):=tT 0 (aF4 a b)<|gl 6 DataD.av a.datas<|gd 2 26 (b< (a.datas.length:Int)) (gX DataD.av 9 a.datas b<|fun c=>dG 1 34 [(.agg [(aA c.name),(.ilst 2 (List.map ConD.av c.cons) false)])]<|fun d=>.b 2 35 (!d) (gE 6 1 (bV false))<|gw 6 28 (b+1)<|.W 3 1 [0] (aF4 a (b+1)))<|.W 9 1 [0] (aF5 a 0)
def aXS:=fun a b c d e f g i j=>aJS a b|>.t e c f g d i|>.t j tv
def aXT:=fun a b c d e f g i j k=>aJS a b|>.t e c f g d i|>.f j k tv
def aXU:=fun a b c=>aJS a b|>.f c tv
def xY(a:Mod)(b:Int):=tT 0 (aF5 a b)<|gm 6 cD a.funs<|gd 2 40 (b< (a.funs.length:Int)) (.y fun c:aC=>.y fun d:aC=>.y fun e:Int=>.y fun f:Int=>.y fun g:aC=>.y fun i:List Typ=>.y fun j:Int=>.y fun k:Int=>.y fun l:aC=>.y fun m:List Typ=>.y fun n:Int=>.y fun o:Int=>.y fun p:aC=>.y fun q:List Term=>.y fun r:List Pat=>giF cD 9 a.funs b (FunD.mk c d (Typ.mk e f g i) (Typ.mk j k l m) (Term.mk n o p q r))<|gd 11 52 ((c.length:Int) >30) (gE 30 2 (bV false))<|gd 6 58 ((d.length:Int) >30) (gE 24 2 (bV false))<|dG 2 35 [(.agg [(nI e),(nI f),(aA g),(.ilst 4 (Typs.av i) false)])]<|fun s=>.b 3 64 (!s) (gE 18 2 (bV false))<|dG 2 35 [(.agg [(nI j),(nI k),(aA l),(.ilst 4 (Typs.av m) false)])]<|fun t=>.b 3 70 (!t) (gE 12 2 (bV false))<|dG 2 13 [(.agg [(nI n),(nI o),(aA p),(.ilst 5 (Terms.av q) false),(iP r)])]<|fun u=>.b 3 75 (!u) (gE 6 2 (bV false))<|gw 6 42 (b+1)<|.W 3 2 [0] (aF5 a (b+1)))<|gE 7 1 (bV true)
def aXV:=fun a b c d e f g i j k l m n o p q r s t u v=>xY a b|>.t s c d e f g i j k l m n o p q r t u|>.t v tv
def aXW:=fun a b c d e f g i j k l m n o p q r s t u v w=>xY a b|>.t s c d e f g i j k l m n o p q r t u|>.f v|>.t w tv
def aXX:=fun a b c d e f g i j k l m n o p q r s t u v w x y z=>xY a b|>.t t c d e f g i j k l m n o p q r u v|>.f w|>.f x s y|>.t z tv
def aXY:=fun a b c d e f g i j k l m n o p q r s t u v w x y z A B C=>xY a b|>.t u c d e f g i j k l m n o p q r v w|>.f x|>.f y s z|>.f A t B|>.t C tv
def aXZ:=fun a b c d e f g i j k l m n o p q r s t u v w x y z A B C D F G=>xY a b|>.t v c d e f g i j k l m n o p q r w x|>.f y|>.f z s A|>.f B t C|>.f D u F|>.t G tv
def aX0:=fun a b c d e f g i j k l m n o p q r s t u v w x y z A B C D F G H=>xY a b|>.t v c d e f g i j k l m n o p q r w x|>.f y|>.f z s A|>.f B t C|>.f D u F|>.f G H tv
def aX1:=fun a b c=>xY a b|>.f c tv
def aJT(c d:Int)(b:aC)(e:List Term)(a:List Pat):=tT 0 (start PP 58 [(.agg [(nI c),(nI d),(aA b),(.ilst 5 (Terms.av e) false),(iP a)])])<|gd 13 9 ((b.length:Int) >30) (gE 12 1 (bV false))<|gm 2 aH a<|gd 3 14 ((a.length:Int) >8) (gE 6 1 (bV false))<|.W 9 1 [0] (aF6 c d b e a 0)
def aX2:=fun a b c d e f=>aJT a b c d e|>.t f tv
def aX3:=fun a b c d e f g=>aJT a b c d e|>.f f|>.t g tv
def aX4:=fun a b c d e f g=>aJT a b c d e|>.f f|>.f g tv
def aJU(c d:Int)(e:aC)(f:List Term)(a:List Pat)(b:Int):=tT 0 (aF6 c d e f a b)<|gm 6 aH a<|gd 2 19 (b< (a.length:Int)) (mU 9 a b<|fun g i j k=>dG 1 64 [(.agg [(nI g),(nI i),(aA j),(iP k)])]<|fun l=>.b 2 28 (!l) (gE 6 1 (bV false))<|gw 6 21 (b+1)<|.W 3 1 [0] (aF6 c d e f a (b+1)))<|.W 9 1 [0] (aF7 c d e f a 0)
def aX5:=fun a b c d e f g i j k l m n o p q=>aJU a b c d e f|>.t m g i j k n o l p|>.t q tv
def aX6:=fun a b c d e f g i j k l m n o p q r=>aJU a b c d e f|>.t m g i j k n o l p|>.f q r tv
def aX7:=fun a b c d e f g=>aJU a b c d e f|>.f g tv
def aJV(c d:Int)(e:aC)(a:List Term)(f:List Pat)(b:Int):=tT 0 (aF7 c d e a f b)<|gm 6 bG a<|gd 2 33 (b< (a.length:Int)) (aCR 9 a b<|fun g i j k l=>dG 1 58 [(.agg [(nI g),(nI i),(aA j),(.ilst 5 (Terms.av k) false),(iP l)])]<|fun m=>.b 2 42 (!m) (gE 6 1 (bV false))<|gw 6 35 (b+1)<|.W 3 1 [0] (aF7 c d e a f (b+1)))<|gE 7 1 (bV true)
def aX8:=fun a b c d e f g i j k l m n o p q r=>aJV a b c d e f|>.t n g i j k l o p m q|>.t r tv
def aX9:=fun a b c d e f g i j k l m n o p q r s=>aJV a b c d e f|>.t n g i j k l o p m q|>.f r s tv
def aYa:=fun a b c d e f g=>aJV a b c d e f|>.f g tv
def aRM(a b:Int)(c:aC)(d:List Term)(e:List Pat):=tT 0 (start PP 13 [(.agg [(nI a),(nI b),(aA c),(.ilst 5 (Terms.av d) false),(iP e)])])<|gpI 8 57 [(.agg [(nI a),(nI b),(aA c),(.ilst 5 (Terms.av d) false),(iP e)]),(nI 80),(nI 16)]<|fun f=>gd 2 6 (f≥0) (dG 1 58 [(.agg [(nI a),(nI b),(aA c),(.ilst 5 (Terms.av d) false),(iP e)])]<|fun g=>gE 4 1 (bV g))<|gE 6 1 (bV false)
def aYb:=fun a b c d e f g i j k=>aRM a b c d e f i|>.t j g k tv
def aYc:=fun a b c d e f g i=>aRM a b c d e f g|>.f i tv
end
end Go.Hb
namespace Go.Hb
open Go.Proofs
noncomputable section
open Go.Proofs Tryz
def bFn(a:List Typ):TS:=bF PP 182 [(.ilst 4 (Typs.av a) false),(.func 183 [] [])] [] 0
def aLe(a:List Typ)(b:Int):TS:=⟨(tf 264 19 [(0,(.ilst 4 (Typs.av a) false)),(1,(.func 232 [] [(.ptr 0 0)])),(4,(nI 0)),(7,(nI (a.length:Int))),(8,(nI b))] [kc f264 52,kl f264 52,.inBlock 0,kc f264 7]),[(tf 231 9 [(4,(bV false)),(5,(.ilst 4 (Typs.av a) false)),(6,(.func 232 [] [(.ptr 0 0)]))] [ko f231 6 2,kc f231 7]),(tf 182 9 [(4,(bV false)),(5,(.ilst 4 (Typs.av a) false)),(6,(.func 232 [] [(.ptr 0 0)]))] [ko f182 6 2,kc f182 7])],[oC 0 [(.func 183 [] [])]],1⟩
def bFo(a:List ConD):TS:=bF PP 180 [(.ilst 2 (List.map ConD.av a) false),(.func 181 [] [])] [] 0
def aLf(a:List ConD)(b:Int):TS:=⟨(tf 263 19 [(0,(.ilst 2 (List.map ConD.av a) false)),(1,(.func 230 [] [(.ptr 0 0)])),(4,(nI 0)),(7,(nI (a.length:Int))),(8,(nI b))] [kc f263 52,kl f263 52,.inBlock 0,kc f263 7]),[(tf 229 9 [(4,(bV false)),(5,(.ilst 2 (List.map ConD.av a) false)),(6,(.func 230 [] [(.ptr 0 0)]))] [ko f229 6 2,kc f229 7]),(tf 180 9 [(4,(bV false)),(5,(.ilst 2 (List.map ConD.av a) false)),(6,(.func 230 [] [(.ptr 0 0)]))] [ko f180 6 2,kc f180 7])],[oC 0 [(.func 181 [] [])]],1⟩
def bCn(a:DataD):TS:=bF PP 105 [(.iface 177 (.agg [(aA a.name),(.ilst 2 (List.map ConD.av a.cons) false)]))] [] 0
def bCo(a b:aC)(c d:Int)(e:aC)(f:List Typ)(g i:Int)(j:aC)(k:List Typ)(l m:Int)(n:aC)(o:List Term)(p:List Pat):TS:=bF PP 105 [(.iface 179 (.agg [(aA a),(aA b),(nI c),(nI d),(aA e),(.ilst 4 (Typs.av f) false),(nI g),(nI i),(aA j),(.ilst 4 (Typs.av k) false),(nI l),(nI m),(aA n),(.ilst 5 (Terms.av o) false),(iP p)]))] [] 0
def bCp(a:List Part):TS:=bF PP 104 [(.ilst 1 (Parts.av a) false),(.func 105 [] [])] [] 0
def aF8(a:List Part)(b:Int):TS:=⟨(tf 228 19 [(0,(.ilst 1 (Parts.av a) false)),(1,(.func 178 [] [(.ptr 0 0)])),(4,(nI 0)),(7,(nI (a.length:Int))),(8,(nI b))] [kc f228 52,kl f228 52,.inBlock 0,kc f228 7]),[(tf 177 9 [(4,(bV false)),(5,(.ilst 1 (Parts.av a) false)),(6,(.func 178 [] [(.ptr 0 0)]))] [ko f177 6 2,kc f177 7]),(tf 104 9 [(4,(bV false)),(5,(.ilst 1 (Parts.av a) false)),(6,(.func 178 [] [(.ptr 0 0)]))] [ko f104 6 2,kc f104 7])],[oC 0 [(.func 105 [] [])]],1⟩
def aRN(a:List Part)(b:Int):TS:=⟨(tf 228 19 [(0,(.ilst 1 (Parts.av a) false)),(1,(.func 178 [] [(.ptr 0 0)])),(4,(nI 0)),(7,(nI (a.length:Int))),(8,(nI b))] [kc f228 52,kl f228 52,.inBlock 0,kc f228 7]),[(tf 177 9 [(4,(bV false)),(5,(.ilst 1 (Parts.av a) false)),(6,(.func 178 [] [(.ptr 0 0)]))] [ko f177 6 2,kc f177 7]),(tf 104 9 [(4,(bV false)),(5,(.ilst 1 (Parts.av a) false)),(6,(.func 178 [] [(.ptr 0 0)]))] [ko f104 6 2,kc f104 7])],[oC 0 [(.func 105 [] [])]],1⟩
def bCq(a:Mod):TS:=bF PP 41 [(.agg [(aA a.name),(.ilst 2 (List.map DataD.av a.datas) false),(.ilst 15 (FunDs.av a.funs) false)])] [] 0
def aF9(a:Mod)(c:Int)(b:List Part):TS:=⟨(tf 41 61 [kp 1 0,(2,(nI 0)),(3,(.gl 1 1 0 b.length false)),(31,(.ilst 2 (List.map DataD.av a.datas) false)),(32,(nI (a.datas.length:Int))),(33,(nI c))] [kc f41 244,kl f41 244,.inBlock 0,kc f41 31]),[],[oC 0 [(aA a.name),(.ilst 2 (List.map DataD.av a.datas) false),(.ilst 15 (FunDs.av a.funs) false)],oL 1 1 (Parts.av b)],2⟩
def aGa(a:Mod)(b:List Part)(c:Int):TS:=⟨(tf 41 61 [(2,(nI 0)),(3,(.gl 0 1 0 b.length false)),(45,(.ilst 15 (FunDs.av a.funs) false)),(46,(nI (a.funs.length:Int))),(47,(nI c))] [kc f41 500,kl f41 500,.inBlock 2,kc f41 63]),[],[oL 0 1 (Parts.av b)],1⟩
def bEb (a:List Typ):=(tT 0 (bFn a)<|gm 27 cT a<|.W 4 1 [0] (aLe a 0)) tv
def aRO(b:List Typ)(a:Int):=tT 0 (aLe b a)<|gd 5 9 (a< (b.length:Int)) (aHs 14 b a<|fun c d e f=>dG 11 183 [(.agg [(nI c),(nI d),(aA e),(.ilst 4 (Typs.av f) false)])]<|fun g=>.b 6 16 (!g) (gE 17 2 (bV (!(decide (a≥0)))))<|gw 5 18 (a+1)<|.W 3 2 [0] (aLe b (a+1)))<|gE 17 1 (bV true)
def bEc:=fun a b c d e f g i j k l m=>aRO a b|>.t i c d e f j k g l|>.t m tv
def bEd:=fun a b c d e f g i j k l m n=>aRO a b|>.t i c d e f j k g l|>.f m n tv
def bEe:=fun a b c=>aRO a b|>.f c tv
def aRP(a:ConD):=tT 0 (start PP 181 [(.agg [(aA a.name),(.ilst 4 (Typs.av a.args) false)])])<|dG 9 179 [(aA a.name)]<|fun b=>.b 1 6 b (gm 2 cT a.args<|gd 3 12 ((a.args.length:Int) ≤3) (dG 2 182 [(.ilst 4 (Typs.av a.args) false),(.func 183 [] [])]<|fun c=>gE 4 1 (bV c))<|gE 7 1 (bV false))<|gE 13 1 (bV false)
def aYd:=fun a b c d e f g=>aRP a b d|>.t e|>.t f c g tv
def aYe:=fun a b c d e=>aRP a b c|>.t d|>.f e tv
def aYf:=fun a b c d=>aRP a b c|>.f d tv
def bEf (a:List ConD):=(tT 0 (bFo a)<|gl 27 ConD.av a<|.W 4 1 [0] (aLf a 0)) tv
def aRQ(b:List ConD)(a:Int):=tT 0 (aLf b a)<|gd 5 9 (a< (b.length:Int)) (gX ConD.av 14 b a<|fun c=>dG 11 181 [(.agg [(aA c.name),(.ilst 4 (Typs.av c.args) false)])]<|fun d=>.b 6 16 (!d) (gE 17 2 (bV (!(decide (a≥0)))))<|gw 5 18 (a+1)<|.W 3 2 [0] (aLf b (a+1)))<|gE 17 1 (bV true)
def bEg:=fun a b c d e f g i j=>aRQ a b|>.t e c f g d i|>.t j tv
def bEh:=fun a b c d e f g i j k=>aRQ a b|>.t e c f g d i|>.f j k tv
def bEi:=fun a b c=>aRQ a b|>.f c tv
def aLg(a:DataD):=tT 0 (bCn a)<|dG 27 179 [(aA a.name)]<|fun b=>.b 1 13 b (gl 3 ConD.av a.cons<|gd 3 20 ((a.cons.length:Int) ≥1) (gl 3 ConD.av a.cons<|gd 3 27 ((a.cons.length:Int) ≤5) (dG 3 180 [(.ilst 2 (List.map ConD.av a.cons) false),(.func 181 [] [])]<|fun c=>gE 4 1 (bV c))<|gE 8 1 (bV false))<|gE 15 1 (bV false))<|gE 22 1 (bV false)
def aYg:=fun a b c d e f g i=>aLg a b d|>.t e|>.t f|>.t g c i tv
def aYh:=fun a b c d e f=>aLg a b c|>.t d|>.t e|>.f f tv
def aYi:=fun a b c d e=>aLg a b c|>.t d|>.f e tv
def aYj:=fun a b c d=>aLg a b c|>.f d tv
def aHW(a b:aC)(c d:Int)(e:aC)(f:List Typ)(g i:Int)(j:aC)(k:List Typ)(l m:Int)(n:aC)(o:List Term)(p:List Pat):=tT 0 (bCo a b c d e f g i j k l m n o p)<|dG 34 103 [(aA a)]<|fun q=>.b 1 40 q (dG 3 103 [(aA b)]<|fun r=>.b 2 46 r (dG 3 183 [(.agg [(nI c),(nI d),(aA e),(.ilst 4 (Typs.av f) false)])]<|fun s=>.b 2 52 s (dG 3 183 [(.agg [(nI g),(nI i),(aA j),(.ilst 4 (Typs.av k) false)])]<|fun t=>.b 2 58 t (gpI 3 80 [(.agg [(nI l),(nI m),(aA n),(.ilst 5 (Terms.av o) false),(iP p)])]<|fun u=>gE 5 1 (bV (u==0)))<|gE 9 1 (bV false))<|gE 15 1 (bV false))<|gE 21 1 (bV false))<|gE 27 1 (bV false)
def aYk:=fun a b c d e f g i j k l m n o p q r s t u v w x y z A B C D=>aHW a b c d e f g i j k l m n o p q v|>.t w r x|>.t y s z|>.t A t B|>.t C u D tv
def aYl:=fun a b c d e f g i j k l m n o p q r s t u v w x y z A B=>aHW a b c d e f g i j k l m n o p q u|>.t v r w|>.t x s y|>.t z t A|>.f B tv
def aYm:=fun a b c d e f g i j k l m n o p q r s t u v w x y=>aHW a b c d e f g i j k l m n o p q t|>.t u r v|>.t w s x|>.f y tv
def aYn:=fun a b c d e f g i j k l m n o p q r s t u v=>aHW a b c d e f g i j k l m n o p q s|>.t t r u|>.f v tv
def aYo:=fun a b c d e f g i j k l m n o p q r s=>aHW a b c d e f g i j k l m n o p q r|>.f s tv
def aYp (a:List Part):=(tT 0 (bCp a)<|gm 27 nO a<|.W 4 1 [0] (aF8 a 0)) tv
def aRR(b:List Part)(a:Int):=tT 0 (aF8 b a)<|gd 5 9 (a< (b.length:Int)) (.y fun c:DataD=>giF nO 14 b a (Part.data c)<|dG 10 105 [(.iface 177 (.agg [(aA c.name),(.ilst 2 (List.map ConD.av c.cons) false)]))]<|fun d=>.b 6 16 (!d) (gE 17 1 (bV (!(decide (a≥0)))))<|gw 5 18 (a+1)<|.W 3 1 [0] (aF8 b (a+1)))<|gE 17 1 (bV true)
def aYq:=fun a b c d e f g i j=>aRR a b|>.t e c f g d i|>.t j tv
def aYr:=fun a b c d e f g i j k=>aRR a b|>.t e c f g d i|>.f j k tv
def aYs:=fun a b c=>aRR a b|>.f c tv
def bCr(b:List Part)(a:Int):=tT 0 (aRN b a)<|gd 5 9 (a< (b.length:Int)) (.y fun c:aC=>.y fun d:aC=>.y fun e:Int=>.y fun f:Int=>.y fun g:aC=>.y fun i:List Typ=>.y fun j:Int=>.y fun k:Int=>.y fun l:aC=>.y fun m:List Typ=>.y fun n:Int=>.y fun o:Int=>.y fun p:aC=>.y fun q:List Term=>.y fun r:List Pat=>giF nO 14 b a (Part.fn (FunD.mk c d (Typ.mk e f g i) (Typ.mk j k l m) (Term.mk n o p q r)))<|dG 10 105 [(.iface 179 (.agg [(aA c),(aA d),(nI e),(nI f),(aA g),(.ilst 4 (Typs.av i) false),(nI j),(nI k),(aA l),(.ilst 4 (Typs.av m) false),(nI n),(nI o),(aA p),(.ilst 5 (Terms.av q) false),(iP r)]))]<|fun s=>.b 6 16 (!s) (gE 17 1 (bV (!(decide (a≥0)))))<|gw 5 18 (a+1)<|.W 3 1 [0] (aRN b (a+1)))<|gE 17 1 (bV true)
def aYt:=fun a b c d e f g i j k l m n o p q r s t u v w x=>bCr a b|>.t t c d e f g i j k l m n o p q r u v s w|>.t x tv
def aYu:=fun a b c d e f g i j k l m n o p q r s t u v w x y=>bCr a b|>.t t c d e f g i j k l m n o p q r u v s w|>.f x y tv
def aHX(a:Mod):=tT 0 (bCq a)<|dG 10 103 [(aA a.name)]<|fun b=>.b 2 12 (!b) (gE 24 1 (nI 2))<|gl 2 DataD.av a.datas<|gd 3 18 ((a.datas.length:Int) >4) (gE 18 1 (nI 2))<|gm 2 cD a.funs<|gd 3 24 ((a.funs.length:Int) <1) (gE 12 1 (nI 2))<|gm 2 cD a.funs<|gd 3 29 ((a.funs.length:Int) >5) (gE 6 1 (nI 2))<|gl 11 DataD.av a.datas<|.i [rn 4,.nilL 3 1] []<|gu 0 1 (Parts.av ([] :List Part))<|gs 0 3 (.gl 1 1 0 ([] :List Part).length false)<|.W 0 2 [0,1] (aF9 a 0 ([] :List Part))
def aYv:=fun a b c d=>aHX a b c|>.t d tv
def aYw:=fun a b c d e=>aHX a b c|>.f d|>.t e tv
def aYx:=fun a b c d e f=>aHX a b c|>.f d|>.f e|>.t f tv
def aYy:=fun a b c d e f g=>aHX a b c|>.f d|>.f e|>.f f|>.t g tv
def aYz:=fun a b c d e f g=>aHX a b c|>.f d|>.f e|>.f f|>.f g ⟨uZ,trivial⟩
def bCs(a:Mod)(b:Int)(c:List Part):=tT 0 (aF9 a b c)<|gd 5 34 (b< (a.datas.length:Int)) (gX DataD.av 6 a.datas b<|fun d=>gA 10 nO c [(Part.data d)]<|gw 5 43 (b+1)<|.W 3 5 [0,4] (aF9 a (b+1) (c++ [(Part.data d)])))<|gm 7 cD a.funs<|.W 4 2 [1] (aGa a c 0)
def aYA:=fun a b c d e f g i j=>bCs a b c|>.t e d f g i j ⟨uZ,trivial⟩
def aYB:=fun a b c d=>bCs a b c|>.f d ⟨uZ,trivial⟩
def aRS(c:Mod)(a:List Part)(b:Int):=tT 0 (aGa c a b)<|gd 5 48 (b< (c.funs.length:Int)) (.y fun d:aC=>.y fun e:aC=>.y fun f:Int=>.y fun g:Int=>.y fun i:aC=>.y fun j:List Typ=>.y fun k:Int=>.y fun l:Int=>.y fun m:aC=>.y fun n:List Typ=>.y fun o:Int=>.y fun p:Int=>.y fun q:aC=>.y fun r:List Term=>.y fun s:List Pat=>giF cD 6 c.funs b (FunD.mk d e (Typ.mk f g i j) (Typ.mk k l m n) (Term.mk o p q r s))<|gA 10 nO a [(Part.fn (FunD.mk d e (Typ.mk f g i j) (Typ.mk k l m n) (Term.mk o p q r s)))]<|gw 5 57 (b+1)<|.W 3 4 [3] (aGa c (a++ [(Part.fn (FunD.mk d e (Typ.mk f g i j) (Typ.mk k l m n) (Term.mk o p q r s)))]) (b+1)))<|gZ 6 58 0 1 nO uZ a false<|dG 0 104 [(.ilst 1 (Parts.av a) false),(.func 105 [] [])]<|fun t=>.b 2 60 (!t) (gE 6 1 (nI 2))<|gE 7 1 (nI 0)
def aYC:=fun a b c d e f g i j k l m n o p q r s t u v w x=>aRS a b c|>.t t d e f g i j k l m n o p q r s u v w x ⟨uZ,trivial⟩
def aYD:=fun a b c d e f g=>aRS a b c|>.f e d f|>.t g tv
def aYE:=fun a b c d e f g=>aRS a b c|>.f e d f|>.f g tv
end
end Go.Hb
namespace Go.Hb
open Go.Proofs
set_option maxHeartbeats 4000000
mutual
def tsm :Term→Bool
 | .mk _ _ s ks ps=>decide (((List.length s:Nat) :Int) ≤30) &&decide (((List.length ps:Nat) :Int) ≤8) &&ps.all jL&&xZ ks
def xZ :List Term→Bool
 | [] =>true
 |t::ts=>tsm t&&xZ ts
end
theorem lL :∀ts:List Term,ts.length≤bO ts
 | [] =>by simp
 | .mk o n s ks ps::ts=>by have:=lL ts;simp only [bO,bX,List.length_cons];omega
theorem bFp (o n:Int)(s:aC)(ks:List Term)(ps:List Pat)(hl:ks.length<1000000)(ih:∀t∈ks,Pure PP 58 [Term.av t] (.bool (tsm t))) :
  ∀ (ts:List Term) (i:Nat),ks.drop i=ts→Ends PP 0 (aF7 o n s ks ps (i:Int)).as (.ret (.bool (xZ ts))) (aG [] 0)
 | [],i,h=>by
  have:=bA h;exact aYa o n s ks ps i sd
 | .mk o' n' s' ks' ps'::ts,i,h=>by
  obtain⟨g1,g2,g3⟩ :=aZ h;have hp:=ih _ (List.mem_of_getElem? g1);rw [xZ];cases hb:tsm (.mk o' n' s' ks' ps')with
  | true=>
   rw [hb]at hp;exact(aX9 o n s ks ps i o' n' s' ks' ps' true sd sd sd hp rfl sd).ends (Ends.eqv (bFp o n s ks ps hl ih ts (i+1) g2) (by simp))
  | false=>
   rw [hb]at hp;exact Ends.eqv (aX8 o n s ks ps i o' n' s' ks' ps' false sd sd sd hp rfl) (by simp)
theorem bFq (o n:Int)(s:aC)(ks:List Term)(ps:List Pat)(hl:ks.length<1000000)(hl2:ps.length<1000000)(ih:∀t∈ks,Pure PP 58 [Term.av t] (.bool (tsm t))) :
  ∀ (qs:List Pat) (i:Nat),ps.drop i=qs→Ends PP 0 (aF6 o n s ks ps (i:Int)).as (.ret (.bool (qs.all jL&&xZ ks))) (aG [] 0)
 | [],i,h=>by
  have:=bA h;exact(aX7 o n s ks ps i sd).ends (Ends.eqv (bFp o n s ks ps hl ih ks 0 rfl) (by simp))
 | .mk f' n' s' ps'::qs,i,h=>by
  obtain⟨g1,g2,g3⟩ :=aZ h;have hp:=aAa (.mk f' n' s' ps');cases hb:jL (.mk f' n' s' ps')with
  | true=>
   rw [hb]at hp;exact(aX6 o n s ks ps i f' n' s' ps' true sd sd sd hp rfl sd).ends (Ends.eqv (bFq o n s ks ps hl hl2 ih qs (i+1) g2) (by simp [hb]))
  | false=>
   rw [hb]at hp;exact Ends.eqv (aX5 o n s ks ps i f' n' s' ps' false sd sd sd hp rfl) (by simp [hb])
mutual
theorem aHY :∀ (t:Term),bX t<1000000→Pure PP 58 [Term.av t] (.bool (tsm t))
 | .mk o n s ks ps,hf=>by
  simp only [bX]at hf;have:=lL ks;refine aV (by kernel_rfl) (by simp [AV.keylessL,gV]) rfl ?_;rw [tsm];by_cases h1: ((List.length s:Nat) :Int) ≤30
  · by_cases h2: ((List.length ps:Nat) :Int) ≤8
    ·exact(aX4 o n s ks ps (by simp;omega) (by simp;omega)).ends (Ends.eqv (bFq o n s ks ps (by omega) (by omega) (aLh ks (by omega)) ps 0 rfl) (by simp [h1,h2]))
    ·exact Ends.eqv (aX3 o n s ks ps (by simp;omega) (by simp;omega)) (by simp [h2])
  ·exact Ends.eqv (aX2 o n s ks ps (by simp;omega)) (by simp [h1])
theorem aLh :∀ (ts:List Term),bO ts<1000000→∀t∈ts,Pure PP 58 [Term.av t] (.bool (tsm t))
 | [],_,t,ht=>by cases ht
 | u::ts,hf,t,ht=>by
  simp only [bO]at hf;rcases List.mem_cons.1 ht with e|ht
  ·rw [e];exact aHY u (by omega)
  ·exact aLh ts (by omega) t ht
end
def sD (t:Term) :Bool:=decide (bX t≤80) &&decide (dX t≤16) &&tsm t
theorem aRT (t:Term) :Pure PP 13 [Term.av t] (.bool (sD t)) :=by
 have hw:=aCZ t 80 16 (by omega) (by omega) (by omega) (by omega);unfold sD;unfold iV at hw;obtain⟨o,n,s,ks,ps⟩ :=t;refine aV (by kernel_rfl) (by simp [AV.keylessL,gV]) rfl ?_;by_cases h:bX (.mk o n s ks ps) ≤80∧dX (.mk o n s ks ps) ≤16
 · rw [if_pos (by omega)]at hw;exact Ends.eqv (aYb o n s ks ps _ _ hw (by simp;omega) (aHY (.mk o n s ks ps) (by omega))) (by simp [h.1,h.2])
 · rw [if_neg (by omega)]at hw
   exact Ends.eqv (aYc o n s ks ps _ hw (by simp)) (by
    by_cases h1:bX (.mk o n s ks ps) ≤80
    · have:¬dX (.mk o n s ks ps) ≤16:=fun h2=>h ⟨h1,h2⟩;simp [this]
    ·simp [h1])
def aAk (s:aC) :Bool:=decide (((List.length s:Nat) :Int) ≤30)
def vV (c:ConD) :Bool:=aAk c.name&&decide (((List.length c.args:Nat) :Int) ≤6) &&c.args.all oQ
def yA (d:DataD) :Bool:=aAk d.name&&decide (((List.length d.cons:Nat) :Int) ≤8) &&d.cons.all vV
theorem bFr (d:DataD)(nm:aC)(tys:List Typ)(j:Int)(b:Bool)(hj: -1≤j∧j≤1000)(hl:tys.length<1000000)(hk:Ends PP 0 (aC9 d (j+1)).as (.ret (.bool b)) (aG [] 0)) :
  ∀ (ts:List Typ) (i:Nat),tys.drop i=ts→Ends PP 0 (aF3 d nm tys (i:Int) j).as (.ret (.bool (ts.all oQ&&b))) (aG [] 0)
 | [],i,h=>by
  have:=bA h;exact(aXN d nm tys i j sd sd).ends (Ends.eqv hk (by simp))
 | .mk o n s ps::ts,i,h=>by
  obtain⟨g1,g2,g3⟩ :=aZ h;have hp:=aC6 (.mk o n s ps);cases hb:oQ (.mk o n s ps)with
  | true=>
   rw [hb]at hp;exact(aXM d nm tys i j o n s ps true sd sd sd hp rfl sd).ends (Ends.eqv (bFr d nm tys j b hj hl hk ts (i+1) g2) (by simp [hb]))
  | false=>
   rw [hb]at hp;exact Ends.eqv (aXL d nm tys i j o n s ps false sd sd sd hp rfl) (by simp [hb])
theorem bFs (d:DataD)(hl:d.cons.length≤8) :∀ (cs:List ConD) (i:Nat),d.cons.drop i=cs→Ends PP 0 (aC9 d (i:Int)).as (.ret (.bool (cs.all vV))) (aG [] 0)
 | [],i,h=>by
  have:=bA h;exact aXK d i sd
 | c ::cs,i,h=>by
  obtain⟨g1,g2,g3⟩ :=aZ h;have hi:i<d.cons.length:= (List.getElem?_eq_some_iff.1 g1).1;rw [List.all_cons];by_cases h1: ((List.length c.name:Nat) :Int) ≤30
  · by_cases h2: ((List.length c.args:Nat) :Int) ≤6
    · have hk:=bFs d hl cs (i+1) g2;exact(aXJ d i c sd sd sd (by simp;omega) (by simp;omega)).ends (Ends.eqv (bFr d c.name c.args i _ (by omega) (by omega) hk c.args 0 rfl) (by simp [vV,aAk,h1,h2]))
    ·exact Ends.eqv (aXI d i c sd sd sd (by simp;omega) (by simp;omega)) (by simp [vV,h2])
  ·exact Ends.eqv (aXH d i c sd sd sd (by simp;omega)) (by simp [vV,aAk,h1])
theorem aRU (d:DataD) :Pure PP 34 [DataD.av d] (.bool (yA d)) :=by
 refine aV (by kernel_rfl) (by simp [AV.keylessL,DataD.av,AV.keyless,aA]) rfl ?_;unfold yA;by_cases h1: ((List.length d.name:Nat) :Int) ≤30
 · by_cases h2: ((List.length d.cons:Nat) :Int) ≤8
   ·exact(aXG d (by simp;omega) (by simp;omega)).ends (Ends.eqv (bFs d (by omega) d.cons 0 rfl) (by simp [aAk,h1,h2]))
   ·exact Ends.eqv (aXF d (by simp;omega) (by simp;omega)) (by simp [h2])
 ·exact Ends.eqv (aXE d (by simp;omega)) (by simp [aAk,h1])
def mY :FunD→Bool
 | .mk n p f g b=>aAk n&&aAk p&&oQ f&&oQ g&&sD b
def jQ (m:Mod) :Bool:=aAk m.name&&decide (((List.length m.datas:Nat) :Int) ≤6) &&decide (((List.length m.funs:Nat) :Int) ≤8) &&m.datas.all yA&&m.funs.all mY
theorem bFt (m:Mod)(hl:m.funs.length≤8) :∀ (fs:List FunD) (i:Nat),m.funs.drop i=fs→Ends PP 0 (aF5 m (i:Int)).as (.ret (.bool (fs.all mY))) (aG [] 0)
 | [],i,h=>by
  have:=bA h;exact aX1 m i sd
 | .mk n p (.mk f0 f1 f2 f3) (.mk g0 g1 g2 g3) (.mk b0 b1 b2 b3 b4) ::fs,i,h=>by
  obtain⟨g1',g2',g3'⟩ :=aZ h;have hf:=aC6 (.mk f0 f1 f2 f3);have hg:=aC6 (.mk g0 g1 g2 g3);have hb:=aRT (.mk b0 b1 b2 b3 b4);rw [List.all_cons];by_cases h1: ((List.length n:Nat) :Int) ≤30
  · by_cases h2: ((List.length p:Nat) :Int) ≤30
    · cases e1:oQ (.mk f0 f1 f2 f3)with
      | false=>
       rw [e1]at hf;exact Ends.eqv (aXX m i n p f0 f1 f2 f3 g0 g1 g2 g3 b0 b1 b2 b3 b4 false sd sd sd (by simp;omega) (by simp;omega) hf rfl) (by simp [mY,e1])
      | true=>
       rw [e1]at hf;cases e2:oQ (.mk g0 g1 g2 g3)with
       | false=>
        rw [e2]at hg;exact Ends.eqv (aXY m i n p f0 f1 f2 f3 g0 g1 g2 g3 b0 b1 b2 b3 b4 true false sd sd sd (by simp;omega) (by simp;omega) hf rfl hg rfl) (by simp [mY,e2])
       | true=>
        rw [e2]at hg;cases e3:sD (.mk b0 b1 b2 b3 b4)with
        | false=>
         rw [e3]at hb;exact Ends.eqv (aXZ m i n p f0 f1 f2 f3 g0 g1 g2 g3 b0 b1 b2 b3 b4 true true false sd sd sd (by simp;omega) (by simp;omega) hf rfl hg rfl hb rfl) (by simp [mY,e3])
        | true=>
         rw [e3]at hb;exact(aX0 m i n p f0 f1 f2 f3 g0 g1 g2 g3 b0 b1 b2 b3 b4 true true true sd sd sd (by simp;omega) (by simp;omega) hf rfl hg rfl hb rfl sd).ends (Ends.eqv (bFt m hl fs (i+1) g2') (by simp [mY,aAk,h1,h2,e1,e2,e3]))
    ·exact Ends.eqv (aXW m i n p f0 f1 f2 f3 g0 g1 g2 g3 b0 b1 b2 b3 b4 sd sd sd (by simp;omega) (by simp;omega)) (by simp [mY,aAk,h2])
  ·exact Ends.eqv (aXV m i n p f0 f1 f2 f3 g0 g1 g2 g3 b0 b1 b2 b3 b4 sd sd sd (by simp;omega)) (by simp [mY,aAk,h1])
theorem bFu (m:Mod)(hl:m.funs.length≤8)(hl2:m.datas.length≤6) :∀ (ds:List DataD) (i:Nat),m.datas.drop i=ds→Ends PP 0 (aF4 m (i:Int)).as (.ret (.bool (ds.all yA&&m.funs.all mY))) (aG [] 0)
 | [],i,h=>by
  have:=bA h;exact(aXU m i sd).ends (Ends.eqv (bFt m hl m.funs 0 rfl) (by simp))
 | d::ds,i,h=>by
  obtain⟨g1,g2,g3⟩ :=aZ h;have hp:=aRU d;rw [List.all_cons];cases hb:yA d with
  | true=>
   rw [hb]at hp;exact(aXT m i d true sd sd sd hp rfl sd).ends (Ends.eqv (bFu m hl hl2 ds (i+1) g2) (by simp))
  | false=>
   rw [hb]at hp;exact Ends.eqv (aXS m i d false sd sd sd hp rfl) (by simp)
theorem yB (m:Mod) :AV.keyless (Mod.av m) =true:=by simp [Mod.av,AV.keyless,AV.keylessL,aA]
theorem aRV (m:Mod) :Pure PP 8 [Mod.av m] (.bool (jQ m)) :=by
 refine aV (by kernel_rfl) (by simp [AV.keylessL,yB]) rfl ?_;unfold jQ;by_cases h1: ((List.length m.name:Nat) :Int) ≤30
 · by_cases h2: ((List.length m.datas:Nat) :Int) ≤6
   · by_cases h3: ((List.length m.funs:Nat) :Int) ≤8
     ·exact(aXR m (by simp;omega) (by simp;omega) (by simp;omega)).ends (Ends.eqv (bFu m (by omega) (by omega) m.datas 0 rfl) (by simp [aAk,h1,h2,h3]))
     ·exact Ends.eqv (aXQ m (by simp;omega) (by simp;omega) (by simp;omega)) (by simp [h3])
   ·exact Ends.eqv (aXP m (by simp;omega) (by simp;omega)) (by simp [h2])
 ·exact Ends.eqv (aXO m (by simp;omega)) (by simp [aAk,h1])
end Go.Hb
namespace Go.Hb
open Go.Proofs
set_option maxHeartbeats 4000000
def qB (c:ConD) :Bool:=cG c.name&&decide (((List.length c.args:Nat) :Int) ≤3) &&c.args.all uY
def oR (d:DataD) :Bool:=cG d.name&&bR (List.length d.cons) 1 5&&d.cons.all qB
def kY :FunD→Bool
 | .mk n p f g b=>eT n&&eT p&&uY f&&uY g&&aAd b
def sT (m:Mod) :Bool:=eT m.name&&decide (((List.length m.datas:Nat) :Int) ≤4) &&bR (List.length m.funs) 1 5&&m.datas.all oR&&m.funs.all kY
def qC :FunD→Prop
 | .mk _ _ f g b=>bY f<1000000∧bY g<1000000∧wB b<1000000
def aDb (d:DataD) :Prop:=∀c∈d.cons,∀t∈c.args,bY t<1000000
theorem bFv (d:DataD)(nm:aC)(tys:List Typ)(j:Int)(b:Bool)(hj: -1≤j∧j≤1000)(hl:tys.length<1000000)(hk:Ends PP 0 (aC8 d (j+1)).as (.ret (.bool b)) (aG [] 0)) :
  ∀ (ts:List Typ) (i:Nat),tys.drop i=ts→Ends PP 0 (aF0 d nm tys (i:Int) j).as (.ret (.bool (ts.all uY&&b))) (aG [] 0)
 | [],i,h=>by
  have:=bA h;exact(aXp d nm tys i j sd sd).ends (Ends.eqv hk (by simp))
 | .mk o n s ps::ts,i,h=>by
  obtain⟨g1,g2,g3⟩ :=aZ h;have hp:=aC5 (.mk o n s ps);cases hb:uY (.mk o n s ps)with
  | true=>
   rw [hb]at hp;exact(aXo d nm tys i j o n s ps true sd sd sd hp rfl sd).ends (Ends.eqv (bFv d nm tys j b hj hl hk ts (i+1) g2) (by simp [hb]))
  | false=>
   rw [hb]at hp;exact Ends.eqv (aXn d nm tys i j o n s ps false sd sd sd hp rfl) (by simp [hb])
theorem bFw (d:DataD)(hl:d.cons.length≤5) :∀ (cs:List ConD) (i:Nat),d.cons.drop i=cs→Ends PP 0 (aC8 d (i:Int)).as (.ret (.bool (cs.all qB))) (aG [] 0)
 | [],i,h=>by
  have:=bA h;exact aXm d i sd
 | c ::cs,i,h=>by
  obtain⟨g1,g2,g3⟩ :=aZ h;have hi:i<d.cons.length:= (List.getElem?_eq_some_iff.1 g1).1;have hg:=mC c.name;rw [List.all_cons];cases e1:cG c.name with
  | false=>
   rw [e1]at hg;exact Ends.eqv (aXj d i c false sd sd sd hg rfl) (by simp [qB,e1])
  | true=>
   rw [e1]at hg;by_cases h2: ((List.length c.args:Nat) :Int) ≤3
   · have hk:=bFw d hl cs (i+1) g2;exact(aXl d i c true sd sd sd hg rfl (by simp;omega)).ends (Ends.eqv (bFv d c.name c.args i _ (by omega) (by omega) hk c.args 0 rfl) (by simp [qB,e1,h2]))
   ·exact Ends.eqv (aXk d i c true sd sd sd hg rfl (by simp;omega)) (by simp [qB,h2])
theorem aRW (d:DataD) :Pure PP 61 [DataD.av d] (.bool (oR d)) :=by
 refine aV (by kernel_rfl) (by simp [AV.keylessL,DataD.av,AV.keyless,aA]) rfl ?_;have hg:=mC d.name;have hi:=fZ (List.length d.cons:Int) 1 5;unfold oR;cases e1:cG d.name with
 | false=>
  rw [e1]at hg;exact Ends.eqv (aXg d false hg rfl) (by simp)
 | true=>
  rw [e1]at hg;cases e2:bR (List.length d.cons:Int) 1 5 with
  | false=>
   rw [e2]at hi;exact Ends.eqv (aXh d true false hg rfl hi rfl) (by simp)
  | true=>
   rw [e2]at hi;have:=inB_iff.1 e2;exact(aXi d true true hg rfl hi rfl).ends (Ends.eqv (bFw d (by omega) d.cons 0 rfl) (by simp))
theorem bFx (m:Mod)(hl:m.funs.length≤5)(hf:∀f∈m.funs,qC f) :∀ (fs:List FunD) (i:Nat),m.funs.drop i=fs→Ends PP 0 (aF2 m (i:Int)).as (.ret (.bool (fs.all kY))) (aG [] 0)
 | [],i,h=>by
  have:=bA h;exact aXD m i sd
 | .mk n p (.mk f0 f1 f2 f3) (.mk g0 g1 g2 g3) (.mk b0 b1 b2 b3 b4) ::fs,i,h=>by
  obtain⟨g1',g2',g3'⟩ :=aZ h;obtain⟨_,_,hb'⟩ :=hf _ (List.mem_of_getElem? g1');have hn:=mG n;have hp:=mG p;have hf1:=aC5 (.mk f0 f1 f2 f3);have hg1:=aC5 (.mk g0 g1 g2 g3);have hb1:=aQo (.mk b0 b1 b2 b3 b4) hb';have ih:=bFx m hl hf fs (i+1) g2';rw [List.all_cons];cases e1:eT n with
  |false=>rw [e1]at hn;exact Ends.eqv (aXx m i n p f0 f1 f2 f3 g0 g1 g2 g3 b0 b1 b2 b3 b4 false sd sd sd hn rfl) (by simp [kY,e1])
  | true=>
   rw [e1]at hn;cases e2:eT p with
   |false=>rw [e2]at hp;exact Ends.eqv (aXy m i n p f0 f1 f2 f3 g0 g1 g2 g3 b0 b1 b2 b3 b4 true false sd sd sd hn rfl hp rfl) (by simp [kY,e2])
   | true=>
    rw [e2]at hp;cases e3:uY (.mk f0 f1 f2 f3)with
    |false=>rw [e3]at hf1;exact Ends.eqv (aXz m i n p f0 f1 f2 f3 g0 g1 g2 g3 b0 b1 b2 b3 b4 true true false sd sd sd hn rfl hp rfl hf1 rfl) (by simp [kY,e3])
    | true=>
     rw [e3]at hf1;cases e4:uY (.mk g0 g1 g2 g3)with
     |false=>rw [e4]at hg1;exact Ends.eqv (aXA m i n p f0 f1 f2 f3 g0 g1 g2 g3 b0 b1 b2 b3 b4 true true true false sd sd sd hn rfl hp rfl hf1 rfl hg1 rfl) (by simp [kY,e4])
     | true=>
      rw [e4]at hg1;cases e5:aAd (.mk b0 b1 b2 b3 b4)with
      |false=>rw [e5]at hb1;exact Ends.eqv (aXB m i n p f0 f1 f2 f3 g0 g1 g2 g3 b0 b1 b2 b3 b4 true true true true false sd sd sd hn rfl hp rfl hf1 rfl hg1 rfl hb1 rfl) (by simp [kY,e5])
      |true=>rw [e5]at hb1;exact(aXC m i n p f0 f1 f2 f3 g0 g1 g2 g3 b0 b1 b2 b3 b4 true true true true true sd sd sd hn rfl hp rfl hf1 rfl hg1 rfl hb1 rfl sd).ends (Ends.eqv ih (by simp [kY,e1,e2,e3,e4,e5]))
theorem bFy (m:Mod)(hl:m.funs.length≤5)(hl2:m.datas.length≤4)(hf:∀f∈m.funs,qC f) :∀ (ds:List DataD) (i:Nat),m.datas.drop i=ds→Ends PP 0 (aF1 m (i:Int)).as (.ret (.bool (ds.all oR&&m.funs.all kY))) (aG [] 0)
 | [],i,h=>by
  have:=bA h;exact(aXw m i sd).ends (Ends.eqv (bFx m hl hf m.funs 0 rfl) (by simp))
 | d::ds,i,h=>by
  obtain⟨g1,g2,g3⟩ :=aZ h;have hp:=aRW d;rw [List.all_cons];cases hb:oR d with
  | true=>
   rw [hb]at hp;exact(aXv m i d true sd sd sd hp rfl sd).ends (Ends.eqv (bFy m hl hl2 hf ds (i+1) g2) (by simp))
  | false=>
   rw [hb]at hp;exact Ends.eqv (aXu m i d false sd sd sd hp rfl) (by simp)
theorem aRX (m:Mod)(hf:∀f∈m.funs,qC f) :Pure PP 14 [Mod.av m] (.bool (sT m)) :=by
 refine aV (by kernel_rfl) (by simp [AV.keylessL,yB]) rfl ?_;have hn:=mG m.name;have hi:=fZ (List.length m.funs:Int) 1 5;unfold sT;cases e1:eT m.name with
 |false=>rw [e1]at hn;exact Ends.eqv (aXq m false hn rfl) (by simp)
 | true=>
  rw [e1]at hn;by_cases h2: ((List.length m.datas:Nat) :Int) ≤4
  · cases e2:bR (List.length m.funs:Int) 1 5 with
    | false=>
     rw [e2]at hi;exact Ends.eqv (aXs m true false hn rfl (by simp;omega) hi rfl) (by simp)
    | true=>
     rw [e2]at hi;have:=inB_iff.1 e2;exact(aXt m true true hn rfl (by simp;omega) hi rfl).ends (Ends.eqv (bFy m (by omega) (by omega) hf m.datas 0 rfl) (by simp [h2]))
  ·exact Ends.eqv (aXr m true hn rfl (by simp;omega)) (by simp [h2])
theorem aLi (l:List Typ)(hl:l.length<1000000)(hf:∀t∈l,bY t<1000000) :∀ (ts:List Typ) (i:Nat),l.drop i=ts→Ends PP 0 (aLe l (i:Int)).as (.ret (.bool (ts.all uY))) (aG [] 0)
 | [],i,h=>by
  have:=bA h;exact bEe l i sd
 | .mk o n s ps::ts,i,h=>by
  obtain⟨g1,g2,g3⟩ :=aZ h;have hp:=aC7 (.mk o n s ps) (hf _ (List.mem_of_getElem? g1));cases hb:uY (.mk o n s ps)with
  | true=>
   rw [hb]at hp;exact(bEd l i o n s ps true sd sd sd hp rfl sd).ends (Ends.eqv (aLi l hl hf ts (i+1) g2) (by simp [hb]))
  | false=>
   rw [hb]at hp;exact Ends.eqv (bEc l i o n s ps false sd sd sd hp rfl) (by simp [hb])
theorem aYF (l:List Typ)(hl:l.length<1000000)(hf:∀t∈l,bY t<1000000) :Pure PP 182 [.ilst 4 (Typs.av l) false,.func 183 [] []] (.bool (l.all uY)) :=
 cB (s:=bFn l) (by kernel_rfl) (by kernel_rfl) (by simp [AV.keylessL,AV.keyless]) rfl ((bEb l).ends (aLi l hl hf l 0 rfl))
theorem aRY (c:ConD)(hf:∀t∈c.args,bY t<1000000) :Pure PP 181 [ConD.av c] (.bool (qB c)) :=by
 refine aV (by kernel_rfl) (by simp [AV.keylessL,ConD.av,AV.keyless,aA]) rfl ?_;have hg:=gC c.name;unfold qB;cases e1:cG c.name with
 |false=>rw [e1]at hg;exact Ends.eqv (aYf c false hg rfl) (by simp)
 | true=>
  rw [e1]at hg;by_cases h2: ((List.length c.args:Nat) :Int) ≤3
  ·exact Ends.eqv (aYd c true _ hg rfl (by simp;omega) (aYF c.args (by omega) hf)) (by simp [h2])
  ·exact Ends.eqv (aYe c true hg rfl (by simp;omega)) (by simp [h2])
theorem aLj (l:List ConD)(hl:l.length<1000000)(hf:∀c∈l,∀t∈c.args,bY t<1000000) :∀ (ts:List ConD) (i:Nat),l.drop i=ts→Ends PP 0 (aLf l (i:Int)).as (.ret (.bool (ts.all qB))) (aG [] 0)
 | [],i,h=>by
  have:=bA h;exact bEi l i sd
 | c::ts,i,h=>by
  obtain⟨g1,g2,g3⟩ :=aZ h;have hp:=aRY c (hf _ (List.mem_of_getElem? g1));cases hb:qB c with
  | true=>
   rw [hb]at hp;exact(bEh l i c true sd sd sd hp rfl sd).ends (Ends.eqv (aLj l hl hf ts (i+1) g2) (by simp [hb]))
  | false=>
   rw [hb]at hp;exact Ends.eqv (bEg l i c false sd sd sd hp rfl) (by simp [hb])
theorem aYG (l:List ConD)(hl:l.length<1000000)(hf:∀c∈l,∀t∈c.args,bY t<1000000) :Pure PP 180 [.ilst 2 (List.map ConD.av l) false,.func 181 [] []] (.bool (l.all qB)) :=
 cB (s:=bFo l) (by kernel_rfl) (by kernel_rfl) (by simp [AV.keylessL,AV.keyless]) rfl ((bEf l).ends (aLj l hl hf l 0 rfl))
def sE :Part→Bool
 | .data d=>oR d
 | .fn f=>kY f
def aGb :Part→Prop
 | .data d=>aDb d
 | .fn f=>qC f
theorem aRZ (d:DataD)(hf:aDb d) :Pure PP 105 [Part.av (.data d)] (.bool (oR d)) :=by
 refine cB (s:=bCn d) (by kernel_rfl) (by kernel_rfl) (by simp [AV.keylessL,aFZ]) rfl ?_;have hg:=gC d.name;unfold oR;cases e1:cG d.name with
 |false=>rw [e1]at hg;exact Ends.eqv (aYj d false hg rfl) (by simp)
 | true=>
  rw [e1]at hg;by_cases h1: (1:Int) ≤ ((List.length d.cons:Nat) :Int)
  · by_cases h2: ((List.length d.cons:Nat) :Int) ≤5
    ·exact Ends.eqv (aYg d true _ hg rfl (by simp;omega) (by simp;omega) (aYG d.cons (by omega) hf)) (by simp [bR,h1,h2])
    ·exact Ends.eqv (aYh d true hg rfl (by simp;omega) (by simp;omega)) (by simp [bR,h2])
  ·exact Ends.eqv (aYi d true hg rfl (by simp;omega)) (by simp [bR,h1])
theorem aR0 :∀ (f:FunD),qC f→Pure PP 105 [Part.av (.fn f)] (.bool (kY f))
 | .mk n p (.mk f0 f1 f2 f3) (.mk g0 g1 g2 g3) (.mk b0 b1 b2 b3 b4),hf=>by
  obtain⟨hf1',hg1',hb1'⟩ :=hf;refine cB (s:=bCo n p f0 f1 f2 f3 g0 g1 g2 g3 b0 b1 b2 b3 b4) (by kernel_rfl) (by kernel_rfl) (by simp [AV.keylessL,aFZ]) rfl ?_;have hn:=kR n;have hp:=kR p;have hf1:=aC7 (.mk f0 f1 f2 f3) hf1';have hg1:=aC7 (.mk g0 g1 g2 g3) hg1';have hb1:=aRb (.mk b0 b1 b2 b3 b4) hb1';unfold kY;cases e1:eT n with
  |false=>rw [e1]at hn;exact Ends.eqv (aYo n p f0 f1 f2 f3 g0 g1 g2 g3 b0 b1 b2 b3 b4 false hn rfl) (by simp [e1])
  | true=>
   rw [e1]at hn;cases e2:eT p with
   |false=>rw [e2]at hp;exact Ends.eqv (aYn n p f0 f1 f2 f3 g0 g1 g2 g3 b0 b1 b2 b3 b4 true false hn rfl hp rfl) (by simp [e2])
   | true=>
    rw [e2]at hp;cases e3:uY (.mk f0 f1 f2 f3)with
    |false=>rw [e3]at hf1;exact Ends.eqv (aYm n p f0 f1 f2 f3 g0 g1 g2 g3 b0 b1 b2 b3 b4 true true false hn rfl hp rfl hf1 rfl) (by simp [e3])
    | true=>
     rw [e3]at hf1;cases e4:uY (.mk g0 g1 g2 g3)with
     |false=>rw [e4]at hg1;exact Ends.eqv (aYl n p f0 f1 f2 f3 g0 g1 g2 g3 b0 b1 b2 b3 b4 true true true false hn rfl hp rfl hf1 rfl hg1 rfl) (by simp [e4])
     | true=>
      rw [e4]at hg1;exact Ends.eqv (aYk n p f0 f1 f2 f3 g0 g1 g2 g3 b0 b1 b2 b3 b4 true true true true _ hn rfl hp rfl hf1 rfl hg1 rfl hb1) (by cases e5:aAd (.mk b0 b1 b2 b3 b4) <;>simp [e1,e2,e3,e4,e5])
theorem aGc (l:List Part)(hl:l.length<1000000)(hf:∀x∈l,aGb x) :∀ (ts:List Part) (i:Nat),l.drop i=ts→Ends PP 0 (aF8 l (i:Int)).as (.ret (.bool (ts.all sE))) (aG [] 0)
 | [],i,h=>by
  have:=bA h;exact aYs l i sd
 | .data d::ts,i,h=>by
  obtain⟨g1,g2,g3⟩ :=aZ h;have hp:=aRZ d (hf _ (List.mem_of_getElem? g1));rw [List.all_cons,sE];cases hb:oR d with
  | true=>
   rw [hb]at hp;exact(aYr l i d true sd sd sd hp rfl sd).ends (Ends.eqv (aGc l hl hf ts (i+1) g2) (by simp))
  | false=>
   rw [hb]at hp;exact Ends.eqv (aYq l i d false sd sd sd hp rfl) (by simp)
 | .fn (.mk n p (.mk f0 f1 f2 f3) (.mk g0 g1 g2 g3) (.mk b0 b1 b2 b3 b4)) ::ts,i,h=>by
  obtain⟨q1,q2,q3⟩ :=aZ h;have hp:=aR0 (.mk n p (.mk f0 f1 f2 f3) (.mk g0 g1 g2 g3) (.mk b0 b1 b2 b3 b4)) (hf _ (List.mem_of_getElem? q1));rw [List.all_cons,sE];cases hb:kY (.mk n p (.mk f0 f1 f2 f3) (.mk g0 g1 g2 g3) (.mk b0 b1 b2 b3 b4))with
  | true=>
   rw [hb]at hp;exact(aYu l i n p f0 f1 f2 f3 g0 g1 g2 g3 b0 b1 b2 b3 b4 true sd sd sd hp rfl sd).ends (Ends.eqv (aGc l hl hf ts (i+1) q2) (by simp))
  | false=>
   rw [hb]at hp;exact Ends.eqv (aYt l i n p f0 f1 f2 f3 g0 g1 g2 g3 b0 b1 b2 b3 b4 false sd sd sd hp rfl) (by simp)
theorem aYH (l:List Part)(hl:l.length<1000000)(hf:∀x∈l,aGb x) :Pure PP 104 [.ilst 1 (Parts.av l) false,.func 105 [] []] (.bool (l.all sE)) :=
 cB (s:=bCp l) (by kernel_rfl) (by kernel_rfl) (by simp [AV.keylessL,AV.keyless]) rfl ((aYp l).ends (aGc l hl hf l 0 rfl))
theorem bFz (m:Mod)(h5:m.funs.length≤5)(l0:List Part)(hl0:l0.length≤10)(hf0:∀x∈l0,aGb x)(hf:∀f∈m.funs,qC f) :∀ (fs:List FunD) (i:Nat) (l:List Part),m.funs.drop i=fs→l=l0++ (m.funs.take i).map Part.fn →
  Ends PP 0 (aGa m l (i:Int)).as (.ret (.int .i64 (if(l0.all sE&&m.funs.all kY) =true then 0 else 2))) (aG [] 0)
 | [],i,l,h,e=>by
  have:=bA h;have e2:l=l0++m.funs.map Part.fn:=by rw [e,List.take_of_length_le this]
  have hp:=aYH l (by rw [e2];simp;omega) (fun x hx=>by
   rw [e2]at hx;rcases List.mem_append.1 hx with hx|hx
   ·exact hf0 x hx
   · obtain⟨f,hf',rfl⟩ :=List.mem_map.1 hx;exact hf f hf')
  have ea:l.all sE= (l0.all sE&&m.funs.all kY) :=by
   rw [e2,List.all_append,List.all_map];rfl
  rw [ea]at hp;cases hb: (l0.all sE&&m.funs.all kY)with
  |true=>rw [hb]at hp;exact Ends.eqv (aYE m l i true sd hp rfl) (by simp)
  |false=>rw [hb]at hp;exact Ends.eqv (aYD m l i false sd hp rfl) (by simp)
 | .mk n p (.mk f0 f1 f2 f3) (.mk g0 g1 g2 g3) (.mk b0 b1 b2 b3 b4) ::fs,i,l,h,e=>by
  obtain⟨q1,q2,q3⟩ :=aZ h;have hi:i<m.funs.length:= (List.getElem?_eq_some_iff.1 q1).1;refine(aYC m l i n p f0 f1 f2 f3 g0 g1 g2 g3 b0 b1 b2 b3 b4 sd sd sd (by rw [e];simp;omega) sd).ends ?_;refine bFz m h5 l0 hl0 hf0 hf fs (i+1) _ q2 ?_;rw [e,List.take_add_one,q1];simp
theorem bFA (m:Mod)(h5:m.funs.length≤5)(h4:m.datas.length≤4)(hf:∀f∈m.funs,qC f)(hd:∀d∈m.datas,aDb d) :∀ (ds:List DataD) (i:Nat) (l:List Part),m.datas.drop i=ds→l= (m.datas.take i).map Part.data →
  Ends PP 0 (aF9 m (i:Int) l).as (.ret (.int .i64 (if(m.datas.all oR&&m.funs.all kY) =true then 0 else 2))) (aG [] 0)
 | [],i,l,h,e=>by
  have:=bA h;have e2:l=m.datas.map Part.data:=by rw [e,List.take_of_length_le this]
  have E:=bFz m h5 l (by rw [e2];simp;omega) (fun x hx=>by
   rw [e2]at hx;obtain⟨d,hd',rfl⟩ :=List.mem_map.1 hx;exact hd d hd') hf m.funs 0 l rfl (by simp)
  have ea:l.all sE=m.datas.all oR:=by rw [e2,List.all_map];rfl
  rw [ea]at E;exact(aYB m i l sd).ends E
 | d::ds,i,l,h,e=>by
  obtain⟨g1,g2,g3⟩ :=aZ h;have hi:i<m.datas.length:= (List.getElem?_eq_some_iff.1 g1).1;refine(aYA m i l d sd sd sd (by rw [e];simp;omega) sd).ends ?_;refine bFA m h5 h4 hf hd ds (i+1) _ g2 ?_;rw [e,List.take_add_one,g1];simp
theorem aR1 (m:Mod)(hf:∀f∈m.funs,qC f)(hd:∀d∈m.datas,aDb d) :Pure PP 41 [Mod.av m] (.int .i64 (if sT m=true then 0 else 2)) :=by
 refine cB (s:=bCq m) (by kernel_rfl) (by kernel_rfl) (by simp [AV.keylessL,yB]) (by simp [AV.keyless]) ?_;have hn:=kR m.name;unfold sT;cases e1:eT m.name with
 |false=>rw [e1]at hn;exact Ends.eqv (aYv m false hn rfl) (by simp)
 | true=>
  rw [e1]at hn;by_cases h2: ((List.length m.datas:Nat) :Int) ≤4
  · by_cases h3: (1:Int) ≤ ((List.length m.funs:Nat) :Int)
    · by_cases h4: ((List.length m.funs:Nat) :Int) ≤5
      ·exact(aYz m true hn rfl (by simp;omega) (by simp;omega) (by simp;omega)).ends (Ends.eqv (bFA m (by omega) (by omega) hf hd m.datas 0 [] rfl (by simp)) (by simp [bR,h2,h3,h4]))
      ·exact Ends.eqv (aYy m true hn rfl (by simp;omega) (by simp;omega) (by simp;omega)) (by simp [bR,h4])
    ·exact Ends.eqv (aYx m true hn rfl (by simp;omega) (by simp;omega)) (by simp [bR,h3])
  ·exact Ends.eqv (aYw m true hn rfl (by simp;omega)) (by simp [h2])
end Go.Hb
namespace Go.Hb
open Go.Proofs
def pre (p:Prog) :Nat→Int→List Int
 |0,_=>[]
 | f+1,a=>match p.nodes[a.toNat]? with
  |some x=>a:: (x.kids.map (pre p f)).flatten
  |none=>[]
def aR2 :List Int→Int→List Int→List Int
 |l,_,[] =>l
 |l,n,b::bs=>aR2 (l.set b.toNat n) (n+1) bs
section
variable {p :Prog}
end
end Go.Hb
namespace Go.Hb
open Go.Proofs
section
variable {p :Prog} {mf mc:List (Int×Int)} {F C:List Int} {to:List Int}
end
end Go.Hb
namespace Go.Hb
open Go.Proofs
set_option maxHeartbeats 1000000
end Go.Hb
namespace Go.Hb
open Go.Proofs
noncomputable section
end
end Go.Hb
namespace Go.Hb
open Go.Proofs
noncomputable section
end
end Go.Hb
namespace Go.Hb
open Go.Proofs
set_option maxHeartbeats 1000000
def aR3 (x:Node)(i:Nat) :Nat→List Int→List Int→List Int
 |_,[],l=>l
 |j,k::ks,l=>aR3 x i (j+1) ks (l.set k.toNat (l.getD i 0+aHI x j))
def aLk :Nat→List Node→List Int→List Int
 |_,[],l=>l
 |i,x::t,l=>aLk (i+1) t (aR3 x i 0 x.kids l)
def aR4 :List Int→List Int→List Int
 | [],l=>l
 |f::fs,l=>aR4 fs (l.set f.toNat 1)
def aJW (p:Prog) :List Int:=aLk 0 p.nodes (aR4 p.funs (List.replicate p.nodes.length 0))
end Go.Hb
namespace Go.Hb
open Go.Proofs
theorem aAl {lo n:Int}:∀ {ks:List Int} {u v:List Bool},marks lo n ks u=some v→∀k∈ks,lo≤k∧k≤n-1
 | [],_,_,_,k,hk=>by cases hk
 | a ::ks,u,v,h,k,hk=>by
  simp only [marks]at h;split at h
  · rename_i g;rcases List.mem_cons.1 hk with rfl|hk
    ·exact inB_iff.1 g.1
    ·exact aAl h k hk
  ·cases h
theorem aJX {lo n k:Int}{ks:List Int}{u v:List Bool}(h:marks lo n (k::ks) u=some v) :u[k.toNat]?=some false∧marks lo n ks (u.set k.toNat true) =some v:=by
 simp only [marks]at h;split at h
 ·rename_i g;exact⟨g.2,h⟩
 ·cases h
theorem qD {p:Prog}{i:Nat}{x:Node}{t:List Node}{u v:List Bool}(h:iZ p i (x::t) u=some v) :sC p x=true∧∃w,marks ((i:Int) +1) p.nodes.length x.kids u=some w∧iZ p (i+1) t w=some v:=by
 simp only [iZ]at h;split at h
 · rename_i g;split at h
   ·rename_i w hw;exact⟨g,w,hw,h⟩
   ·cases h
 ·cases h
theorem aAm {p:Prog}:∀ {t:List Node} {i:Nat} {u v:List Bool},iZ p i t u=some v→v.length=u.length
 | [],i,u,v,h=>by simp only [iZ,Option.some.injEq]at h;rw [h]
 | x::t,i,u,v,h=>by
  obtain⟨_,w,hw,h2⟩ :=qD h;rw [aAm h2,aAW hw]
theorem sF {p:Prog}:∀ {t:List Node} {i:Nat} {u v:List Bool},iZ p i t u=some v→∀ (j:Nat) (x:Node),t[j]?=some x→sC p x=true∧∀k∈x.kids,((i+j:Nat) :Int) <k∧k<p.nodes.length
 | [],i,u,v,h,j,x,hx=>by simp at hx
 | y::t,i,u,v,h,j,x,hx=>by
  obtain⟨g,w,hw,h2⟩ :=qD h;cases j with
  | zero=>
   simp at hx;subst hx;exact⟨g,fun k hk=>by have:=aAl hw k hk;omega⟩
  | succ j=>
   have:=sF h2 j x (by simpa using hx);exact⟨this.1,fun k hk=>by have:=this.2 k hk;omega⟩
structure Sprop (p:Prog) (S:List Int) :Prop where
 len:S.length=p.nodes.length
 root:∀f∈p.funs,S[f.toNat]?=some 1
 kid:∀ (i:Nat) (x:Node) (d:Nat) (k:Int),p.nodes[i]?=some x→x.kids[d]?=some k→∃s,S[i]?=some s∧S[k.toNat]?=some (s+aHI x d)
end Go.Hb
namespace Go.Hb
open Go.Proofs
inductive Reach (p:Prog) :Nat→Nat→Prop where
 |refl (a:Nat) :Reach p a a
 |step {a i:Nat} {x:Node} {k:Int}:Reach p a i→p.nodes[i]?=some x→k∈x.kids→Reach p a k.toNat
theorem Reach.first {p:Prog}{a m:Nat}(h:Reach p a m) :m=a∨∃ (x:Node) (k:Int),p.nodes[a]?=some x∧k∈x.kids∧Reach p k.toNat m:=by
 induction h with
 |refl=>exact .inl rfl
 | step h hx hk ih=>
  rename_i i x k;rcases ih with rfl| ⟨y,q,h1,h2,h3⟩
  ·exact .inr ⟨x,k,hx,hk,Reach.refl _⟩
  ·exact .inr ⟨y,q,h1,h2,h3.step hx hk⟩
end Go.Hb
namespace Go.Hb
open Go.Proofs
theorem aBB {p:Prog}(hp:lJ p=true)(hf:iT p=true) :FineP p:=by
 have hs:=hp;simp only [lJ,Bool.and_eq_true,decide_eq_true_eq]at hs;obtain⟨⟨⟨⟨s1,s2⟩,s3⟩,_⟩,s5⟩ :=hs;simp only [iT,Bool.and_eq_true]at hf;obtain⟨_,hf⟩ :=hf;split at hf
 · rename_i u hu;unfold allT at hf;split at hf
   · rename_i v hv;refine⟨s1,s2,fun i x hx=>?_,fun f hf=>?_⟩
     · have:=sF hv i x hx;have h10:=List.all_eq_true.1 s5 x (List.mem_of_getElem? hx);simp only [dQ,Bool.and_eq_true,decide_eq_true_eq]at h10;exact⟨aVF this.1,h10.1.1,fun k hk=>by have:=this.2 k hk;omega⟩
     ·have:=aAl hu f hf;omega
   ·cases hf
 ·cases hf
def bCt (n:Nat)(m:List (Int×Int))(l:List Int) :Prop:=∀i:Int,0≤i→i<n→l[i.toNat]?=some (sS m i)
mutual
theorem bEj (cons:List Con){mc:List (Int×Int)}{C:List Int}(hC:bCt cons.length mc C) :∀ (q:Pat),dB cons q=true→aJJ C q=some (mH mc q)
 | .mk f n s ps,h=>by
  rw [dB,Bool.and_eq_true]at h;have hps:=aLl cons hC ps h.2;have hN:aKK C f n=some (if f=6 then sS mc n else n) :=by
   unfold aKK;by_cases hf:f=6
   · subst hf;have hh:=h.1;simp only [cZ]at hh;simp [bR]at hh;obtain⟨⟨⟨h0,h1⟩,_⟩,_⟩ :=hh;rw [if_pos rfl,if_pos rfl,if_pos h0,hC n h0 (by omega)]
   ·rw [if_neg hf,if_neg hf]
  rw [aJJ,hN];simp only;rw [hps,mH]
theorem aLl (cons:List Con){mc:List (Int×Int)}{C:List Int}(hC:bCt cons.length mc C) :∀ (ps:List Pat),bS cons ps=true→aCX C ps=some (eH mc ps)
 | [],_=>rfl
 | q::ps,h=>by
  rw [bS,Bool.and_eq_true]at h;rw [aCX,bEj cons hC q h.1];simp only;rw [aLl cons hC ps h.2,eH]
end
theorem aDc {cons:List Con}:∀ {ps:List Pat},(∀q∈ps,dB cons q=true) →bS cons ps=true
 | [],_=>rfl
 | q::ps,h=>by
  rw [bS,h q (List.mem_cons_self ..),aDc (fun x hx=>h x (List.mem_cons_of_mem _ hx))];rfl
end Go.Hb
namespace Go.Hb
open Go.Proofs
def fC (p:Prog)(i:Int) :List Int:=match p.nodes[i.toNat]? with
 |some x=>x.kids
 |none=>[]
section
variable {p :Prog}
theorem yC {q:Int→List Int}(m:Int) :∀ (ks:List Int),(∀k∈ks,(q k).count m= [k].count m+ (((q k).map (fC p)).flatten).count m) →
  ((ks.map q).flatten).count m=ks.count m+ ((((ks.map q).flatten).map (fC p)).flatten).count m
 | [],_=>rfl
 | k::ks,h=>by
  have h1:=h k (List.mem_cons_self ..);have h2:=yC m ks (fun x hx=>h x (List.mem_cons_of_mem _ hx));rw [List.map_cons,List.flatten_cons,List.count_append,List.map_append,List.flatten_append,List.count_append,h1,h2,show k::ks= [k] ++ks from rfl,List.count_append];omega
theorem aEH (hp:FineP p)(m:Int) :∀ (f:Nat) (a:Int),0≤a→a<p.nodes.length→p.nodes.length-a.toNat≤f→ (pre p f a).count m= [a].count m+ (((pre p f a).map (fC p)).flatten).count m
 |0,a,ha,hn,hf=>by omega
 | f+1,a,ha,hn,hf=>by
  obtain⟨x,hx⟩ :∃x,p.nodes[a.toNat]?=some x:= ⟨_,List.getElem?_eq_getElem (by omega)⟩;obtain⟨_,_,hks⟩ :=hp.node _ _ hx;have e:pre p (f+1) a=a:: (x.kids.map (pre p f)).flatten:=by rw [pre,hx]
  have ek:fC p a=x.kids:=by unfold fC;rw [hx]
  have h2:=yC (p:=p) m x.kids (fun k hk=>by
   have:=hks k hk;exact aEH hp m f k (by omega) (by omega) (by omega))
  rw [e,List.map_cons,List.flatten_cons,List.count_append,ek,show a:: (x.kids.map (pre p f)).flatten= [a] ++ (x.kids.map (pre p f)).flatten from rfl,List.count_append,h2]
theorem aR5 (hp:FineP p) :∀ (f:Nat) (a:Int),0≤a→a<p.nodes.length→∀y∈pre p f a,0≤y∧y<p.nodes.length
 |0,a,_,_,y,hy=>by cases hy
 | f +1,a,ha,hn,y,hy=>by
  obtain⟨x,hx⟩ :∃x,p.nodes[a.toNat]?=some x:= ⟨_,List.getElem?_eq_getElem (by omega)⟩;obtain⟨_,_,hks⟩ :=hp.node _ _ hx;have e:pre p (f+1) a=a:: (x.kids.map (pre p f)).flatten:=by rw [pre,hx]
  rw [e]at hy;rcases List.mem_cons.1 hy with rfl|hy
  ·exact⟨ha,hn⟩
  · obtain⟨l,hl,hy⟩ :=List.mem_flatten.1 hy;obtain⟨k,hk,rfl⟩ :=List.mem_map.1 hl;have:=hks k hk;exact aR5 hp f k (by omega) (by omega) y hy
def vA (u:List Bool)(m:Int) :Nat:=if u[m.toNat]?=some true then 1 else 0
theorem pP {lo n:Int}(hlo:0≤lo){m:Int}(hm:0≤m) :∀ {ks:List Int} {u v:List Bool},marks lo n ks u=some v→ks.count m+vA u m=vA v m
 | [],u,v,h=>by cases h;simp
 | k ::ks,u,v,h=>by
  have hk:=aAl h k (List.mem_cons_self ..);obtain⟨h1,h2⟩ :=aJX h;have h3:=pP hlo hm h2;rw [←h3,show k::ks= [k] ++ks from rfl,List.count_append];have hlt:= (List.getElem?_eq_some_iff.1 h1).1;by_cases e:k=m
  · subst e;have a1:vA u k=0:=by unfold vA;rw [h1];rfl
    have a2:vA (u.set k.toNat true) k=1:=by unfold vA;rw [List.getElem?_set_self hlt];rfl
    rw [a1,a2];simp;omega
  · have a1:vA (u.set k.toNat true) m=vA u m:=by unfold vA;rw [List.getElem?_set_ne (by omega)]
    rw [a1,List.count_singleton,if_neg (by simpa using e)];omega
theorem oS {m:Int}(hm:0≤m) :∀ {t:List Node} {i:Nat} {u v:List Bool},iZ p i t u=some v→ ((t.map Node.kids).flatten).count m+vA u m=vA v m
 | [],i,u,v,h=>by simp only [iZ,Option.some.injEq]at h;subst h;simp
 | x::t,i,u,v,h=>by
  obtain⟨_,w,h1,h2⟩ :=qD h;have h3:=pP (by omega) hm h1;have h4:=oS hm h2;rw [List.map_cons,List.flatten_cons,List.count_append];omega
theorem aEI {m:Int}:∀ {t:List Node},((t.map Node.kids).flatten).count m≤1→∀ (i j:Nat) (x y:Node),t[i]?=some x→t[j]?=some y→m∈x.kids→m∈y.kids→i=j
 | [],_,i,j,x,y,hx,_,_,_=>by simp at hx
 | z ::t,h,i,j,x,y,hx,hy,mx,my=>by
  rw [List.map_cons,List.flatten_cons,List.count_append]at h;have inT:∀ {i:Nat} {x:Node},t[i]?=some x→m∈x.kids→0< ((t.map Node.kids).flatten).count m:=fun {i x} hx mx=>
   List.count_pos_iff.2 (List.mem_flatten.2 ⟨x.kids,List.mem_map.2 ⟨x,List.mem_of_getElem? hx,rfl⟩,mx⟩)
  cases i with
  | zero=>
   simp only [List.getElem?_cons_zero,Option.some.injEq]at hx;subst hx;cases j with
   |zero=>rfl
   | succ j=>
    simp only [List.getElem?_cons_succ]at hy;have:=inT hy my;have:=List.count_pos_iff.2 mx;omega
  | succ i=>
   simp only [List.getElem?_cons_succ]at hx;cases j with
   | zero=>
    simp only [List.getElem?_cons_zero,Option.some.injEq]at hy;subst hy;have:=inT hx mx;have:=List.count_pos_iff.2 my;omega
   | succ j=>
    simp only [List.getElem?_cons_succ]at hy;rw [aEI (by omega) i j x y hx hy mx my]
theorem aLm {m:Int}:∀ {t:List Node} {i:Nat} {x:Node},t[i]?=some x→x.kids.count m≤ ((t.map Node.kids).flatten).count m
 | [],i,x,hx=>by simp at hx
 | z::t,0,x,hx=>by
  simp only [List.getElem?_cons_zero,Option.some.injEq]at hx;subst hx;rw [List.map_cons,List.flatten_cons,List.count_append];omega
 | z::t,i+1,x,hx=>by
  simp only [List.getElem?_cons_succ]at hx;have:=aLm (m:=m) hx;rw [List.map_cons,List.flatten_cons,List.count_append];omega
theorem aLn {m i:Int}:∀ (L:List Int),(∀j∈L,m∈fC p j→j=i) → ((L.map (fC p)).flatten).count m≤L.count i* (fC p i).count m
 | [],_=>by simp
 | j ::L,h=>by
  have h1:=aLn L (fun x hx=>h x (List.mem_cons_of_mem _ hx));rw [List.map_cons,List.flatten_cons,List.count_append,show j::L= [j] ++L from rfl,List.count_append,Nat.add_mul];by_cases hm:m∈fC p j
  · have:=h j (List.mem_cons_self ..) hm;subst this;simp;exact h1
  · rw [List.count_eq_zero.2 hm];exact Nat.le_trans (by simpa using h1) (Nat.le_add_left ..)
theorem bGp (hp:FineP p)(hK:∀m:Int,0≤m→p.funs.count m+ ((p.nodes.map Node.kids).flatten).count m≤1){L:List Int}(hin:∀x∈L,0≤x∧x<p.nodes.length)(hL:∀m:Int,L.count m=p.funs.count m+ ((L.map (fC p)).flatten).count m) :∀ (b m:Nat),m≤b→L.count (m:Int) ≤1:=by
 intro b
 induction b with
 | zero=>
  intro m hmb;have hm:m=0:=by omega
  subst hm;have e:=hL ((0:Nat) :Int);have z: ((L.map (fC p)).flatten).count ((0:Nat) :Int) =0:=by
   refine List.count_eq_zero.2 (fun h=>?_);obtain⟨l,hl,hy⟩ :=List.mem_flatten.1 h;obtain⟨j,hj,rfl⟩ :=List.mem_map.1 hl;unfold fC at hy;split at hy
   · rename_i x hx;have:= (hp.node _ _ hx).2.2 _ hy;omega
   ·cases hy
  have:=hK ((0:Nat) :Int) (by omega);omega
 | succ b ih=>
  intro m hmb;have e:=hL (m:Int);have hk:=hK (m:Int) (by omega);by_cases hz: ((L.map (fC p)).flatten).count (m:Int) =0
  ·omega
  · have hpos:=List.count_pos_iff.1 (Nat.pos_of_ne_zero hz);obtain⟨l,hl,hy⟩ :=List.mem_flatten.1 hpos;obtain⟨i,hi,rfl⟩ :=List.mem_map.1 hl;have hir:=hin i hi;obtain⟨x,hx⟩ :∃x,p.nodes[i.toNat]?=some x:= ⟨_,List.getElem?_eq_getElem (by omega)⟩;have ei:fC p i=x.kids:=by unfold fC;rw [hx]
    rw [ei]at hy;have him:= (hp.node _ _ hx).2.2 _ hy;have hci:L.count i≤1:=by
     have:=ih i.toNat (by omega);rwa [show((i.toNat:Nat) :Int) =i by omega]at this
    have hle:=aLn (p:=p) (m:= (m:Int)) (i:=i) L (fun j hj hmj=>by
     have hjr:=hin j hj;obtain⟨y,hy'⟩ :∃y,p.nodes[j.toNat]?=some y:= ⟨_,List.getElem?_eq_getElem (by omega)⟩;have ej:fC p j=y.kids:=by unfold fC;rw [hy']
     rw [ej]at hmj;have:=aEI (by omega) _ _ y x hy' hx hmj hy;omega)
    rw [ei]at hle;have hkl:=aLm (m:= (m:Int)) hx;have:L.count i*x.kids.count (m:Int) ≤1*x.kids.count (m:Int) :=Nat.mul_le_mul_right _ hci;omega
theorem vW :∀ (n:Nat) (l:List Nat),l.Nodup→ (∀x∈l,x<n) →l.length≤n
 |0,[],_,_=>by simp
 |0,x::l,_,h=>by have:=h x (List.mem_cons_self ..);omega
 | n+1,l,hd,h=>by
  by_cases hm:n∈l
  · have h1:=vW n (l.erase n) (hd.erase n) (fun x hx=>by
     have:=h x (List.mem_of_mem_erase hx)
     have hne:x≠n:=fun e=>by
      subst e;exact hd.not_mem_erase hx
     omega)
    rw [List.length_erase_of_mem hm]at h1;omega
  · have:=vW n l hd (fun x hx=>by
     have:=h x hx;have hne:x≠n:=fun e=>hm (e ▸ hx);omega)
    omega
end
end Go.Hb
namespace Go.Hb
open Go.Proofs
theorem aDd {L:List Int}(h:∀a,L.count a≤1) :L.Nodup:=List.nodup_iff_count.2 h
theorem aLo :∀ (n:Nat) (l:List Int),(∀i:Nat,i<n→ (i:Int) ∈l) →n≤l.length
 |0,l,_=>Nat.zero_le _
 | n+1,l,h=>by
  have h0:=h n (Nat.lt_succ_self n);have h1:=aLo n (l.erase (n:Int)) (fun i hi=> (List.mem_erase_of_ne (by omega)).2 (h i (by omega)));rw [List.length_erase_of_mem h0]at h1;have:=List.length_pos_of_mem h0;omega
theorem all_in {p:Prog}(hp:FineP p)(hK:∀m:Nat,m<p.nodes.length→p.funs.count (m:Int) + ((p.nodes.map Node.kids).flatten).count (m:Int) =1){L:List Int}(hL:∀m:Int,L.count m=p.funs.count m+ ((L.map (fC p)).flatten).count m) :∀ (b m:Nat),m≤b→m<p.nodes.length→ (m:Int) ∈L:=by
 intro b
 induction b with
 | zero=>
  intro m hmb hm;have e:=hL (m:Int);have hk:=hK m hm;by_cases hz: ((p.nodes.map Node.kids).flatten).count (m:Int) =0
  ·exact List.count_pos_iff.1 (by omega)
  · obtain⟨l,hl,hy⟩ :=List.mem_flatten.1 (List.count_pos_iff.1 (Nat.pos_of_ne_zero hz));obtain⟨x,hx,rfl⟩ :=List.mem_map.1 hl;obtain⟨i,hi⟩ :=List.mem_iff_getElem?.1 hx;have:= (hp.node _ _ hi).2.2 _ hy;omega
 | succ b ih=>
  intro m hmb hm;have e:=hL (m:Int);have hk:=hK m hm;by_cases hz: ((p.nodes.map Node.kids).flatten).count (m:Int) =0
  ·exact List.count_pos_iff.1 (by omega)
  · obtain⟨l,hl,hy⟩ :=List.mem_flatten.1 (List.count_pos_iff.1 (Nat.pos_of_ne_zero hz));obtain⟨x,hx,rfl⟩ :=List.mem_map.1 hl;obtain⟨i,hi⟩ :=List.mem_iff_getElem?.1 hx;have him:= (hp.node _ _ hi).2.2 _ hy;have hiL:=ih i (by omega) (by omega);have: (m:Int) ∈ (L.map (fC p)).flatten:=List.mem_flatten.2 ⟨x.kids,List.mem_map.2 ⟨(i:Int),hiL,by unfold fC;rw [Int.toNat_natCast,hi]⟩,hy⟩;have:=List.count_pos_iff.2 this;exact List.count_pos_iff.1 (by omega)
theorem aJY {p:Prog}(hs:lJ p=true)(hf:iT p=true) : ((p.funs.map (pre p p.nodes.length)).flatten).Nodup∧ ((p.funs.map (pre p p.nodes.length)).flatten).length=p.nodes.length∧ (∀x∈ (p.funs.map (pre p p.nodes.length)).flatten,0≤x∧x<p.nodes.length) ∧
  (∀ (i:Nat) (x:Node),p.nodes[i]?=some x→sC p x=true) :=by
 have hp:=aBB hs hf;simp only [iT,Bool.and_eq_true]at hf;obtain⟨_,hf⟩ :=hf;split at hf
 · rename_i u hu;unfold allT at hf;split at hf
   · rename_i v hv
     have hK:∀m:Int,0≤m→p.funs.count m+ ((p.nodes.map Node.kids).flatten).count m≤1:=fun m hm=>by
      have h1:=pP (by omega) hm hu;have h2:=oS hm hv;have h3:vA v m≤1:=by unfold vA;split<;>omega
      omega
     have hin:∀x∈ (p.funs.map (pre p p.nodes.length)).flatten,0≤x∧x<p.nodes.length:=fun x hx=>by
      obtain⟨l,hl,hy⟩ :=List.mem_flatten.1 hx;obtain⟨k,hk,rfl⟩ :=List.mem_map.1 hl;have:=hp.funs k hk;exact aR5 hp _ k this.1 this.2 x hy
     have hL:∀m:Int,((p.funs.map (pre p p.nodes.length)).flatten).count m=p.funs.count m+ ((((p.funs.map (pre p p.nodes.length)).flatten).map (fC p)).flatten).count m:=fun m=>yC m p.funs (fun k hk=>by
      have:=hp.funs k hk;exact aEH hp m _ k this.1 this.2 (by omega))
     have hd: ((p.funs.map (pre p p.nodes.length)).flatten).Nodup:=aDd (fun a=>by
      by_cases ha:a∈ (p.funs.map (pre p p.nodes.length)).flatten
      · have hr:=hin a ha;have:=bGp hp hK hin hL a.toNat a.toNat (Nat.le_refl _);rwa [show((a.toNat:Nat) :Int) =a by omega]at this
      ·rw [List.count_eq_zero.2 ha];omega)
     refine⟨hd,?_,hin,fun i x hx=> (sF hv i x hx).1⟩;have hd2: (((p.funs.map (pre p p.nodes.length)).flatten).map Int.toNat).Nodup:=by
      rw [List.nodup_iff_pairwise_ne]at hd ⊢;refine List.pairwise_map.2 (hd.imp_of_mem (fun {a b} ha hb hne e=>?_));have:=hin a ha;have:=hin b hb;exact hne (by omega)
     have:=vW p.nodes.length _ hd2 (fun x hx=>by
      obtain⟨y,hy,rfl⟩ :=List.mem_map.1 hx;have:=hin y hy;omega)
     rw [List.length_map]at this;refine Nat.le_antisymm this (aLo _ _ (fun i hi=>all_in hp (fun m hm=>?_) hL i i (Nat.le_refl _) hi));have h1:=pP (m:= (m:Int)) (by omega) (by omega) hu;have h2:=oS (m:= (m:Int)) (by omega) hv;have hl1:=aAW hu;have hl2:=aAm hv;rw [List.length_replicate]at hl1;have h3:vA (List.replicate p.nodes.length false) (m:Int) =0:=by
      unfold vA;rw [Int.toNat_natCast,List.getElem?_replicate,if_pos hm];rfl
     have h4:vA v (m:Int) =1:=by
      unfold vA;have hlt:m<v.length:=by omega
      have:=List.all_eq_true.1 hf _ (List.getElem_mem hlt);rw [Int.toNat_natCast,List.getElem?_eq_getElem hlt,this];rfl
     omega
   ·cases hf
 ·cases hf
abbrev aLp :AV:=.agg [.ilst 4 (List.map Node.av ([] :List Node)) true,.ilst 1 (List.map aO ([] :List Int)) true,.int .i64 0,.ilst 2 (List.map Con.av ([] :List Con)) true]
end Go.Hb
namespace Go.Hb
open Go.Proofs
noncomputable section
open Go.Proofs Tryz
end
end Go.Hb
namespace Go.Hb
open Go.Proofs
set_option maxHeartbeats 2000000
noncomputable section
end
end Go.Hb
namespace Go.Hb
open Go.Proofs
noncomputable section
end
end Go.Hb
namespace Go.Hb
open Go.Proofs
set_option maxHeartbeats 2000000
noncomputable section
def dY (s:aC) :List Con→Int→Int
 | [],_=> -1
 |c::t,i=>if c.name=s then i else dY s t (i+1)
theorem mJ (s:aC) :∀ (l:List Con) (i:Int),0≤i→dY s l i= -1∨ (i≤dY s l i∧dY s l i<i+l.length∧∃d,l[(dY s l i-i).toNat]?=some d∧d.name=s)
 | [],i,h=>.inl rfl
 | c ::t,i,h=>by
  simp only [dY];split
  · rename_i e;exact .inr ⟨by omega,by simp;omega,c,by simp,e⟩
  · rcases mJ s t (i+1) (by omega)with g| ⟨g1,g2,d,g3,g4⟩
    ·exact .inl g
    · refine .inr ⟨by omega,by rw [List.length_cons];omega,d,?_,g4⟩;rw [show(dY s t (i+1) -i).toNat= (dY s t (i+1) - (i+1)).toNat+1 by omega,List.getElem?_cons_succ];exact g3
end
end Go.Hb
namespace Go.Hb
open Go.Proofs
noncomputable section
open Go.Proofs Tryz
def aGd(a:List Int)(b:Int):TS:=⟨(tf 55 26 [(0,(iI a)),(1,(iI a)),(4,(bV false)),(5,(nI b))] [kc f55 116,kl f55 116,.inBlock 0,kc f55 15]),[],[],0⟩
def aGe(a b:Int)(c:aC)(d:List Pat)(e:Int):TS:=⟨(tf 88 53 [kp 2 0,kp 3 1,(4,(bV false)),(5,(nI e))] [kc f88 116,kl f88 116,.inBlock 0,kc f88 15]),[],[oC 0 [(nI a),(nI b),(aA c),(iP d)],oC 1 [(nI a),(nI b),(aA c),(iP d)]],2⟩
def aGf(a:Node)(b:Int):TS:=⟨(tf 56 54 [kp 2 0,kp 3 1,(4,(bV false)),(5,(nI b))] [kc f56 116,kl f56 116,.inBlock 0,kc f56 15]),[],[oC 0 [(nI a.op),(nI a.n),(iI a.kids),(iP a.pats)],oC 1 [(nI a.op),(nI a.n),(iI a.kids),(iP a.pats)]],2⟩
def aGg(a:Prog)(b:Int):TS:=⟨(tf 12 75 [kp 2 0,kp 3 1,(4,(bV false)),(5,(nI b))] [kc f12 116,kl f12 116,.inBlock 0,kc f12 15]),[],[oC 0 [(iN a.nodes),(iI a.funs),(nI a.main),(iC a.cons)],oC 1 [(iN a.nodes),(iI a.funs),(nI a.main),(iC a.cons)]],2⟩
def aGh(a:Prog)(b:Int):TS:=⟨(tf 12 75 [kp 2 0,kp 3 1,(4,(bV false)),(6,(nI b))] [kc f12 244,kl f12 244,.inBlock 2,kc f12 31]),[],[oC 0 [(iN a.nodes),(iI a.funs),(nI a.main),(iC a.cons)],oC 1 [(iN a.nodes),(iI a.funs),(nI a.main),(iC a.cons)]],2⟩
def aYI (a:List Int):=fun b=>(tT 0 (start PP 55 [(iI a),(iI a)])<|gl 8 aO a<|gl 1 aO a<|.b 2 10 ((a.length:Int) != (a.length:Int)) .x<|.W 9 0 [] (aGd a 0))|>.f b tv
def bCu(b:List Int)(a:Int):=tT 0 (aGd b a)<|gl 5 aO b<|gd 2 14 (a< (b.length:Int)) (.y fun c:Int=>.i [rn 5,.reg (.d::.d::.ans (.idx (aO c))::rd 3 [.ans (.idx (aO c)),.d,.d])] [hA (0≤a),.a (((b)[a.toNat]?) =some c) (gP (f:=aO)),hA (0≤a),.a (((b)[a.toNat]?) =some c) (gP (f:=aO))]<|.b 0 25 (c != c) .x<|gw 6 16 (a+1)<|.W 3 0 [] (aGd b (a+1)))<|gE 7 0 (bV true)
def aYJ:=fun c d e f a b g i=>bCu c d|>.t f e a b a b|>.f g i tv
def aYK:=fun a b c=>bCu a b|>.f c tv
def aYL (c d:Int)(a:aC)(b:List Pat):=fun e f g i=>(tT 0 (start PP 88 [(.agg [(nI c),(nI d),(aA a),(iP b)]),(.agg [(nI c),(nI d),(aA a),(iP b)])])<|.b 15 11 (c != c) .x<|.b 7 18 (d != d) .x<|.b 7 25 (!(aU a.length (aE a) a.length (aE a))) .x<|gm 2 aH b<|gm 2 aH b<|.b 3 33 ((b.length:Int) != (b.length:Int)) .x<|.W 9 2 [0,1] (aGe c d a b 0))|>.f e|>.f f|>.f g|>.f i tv
def bCv(i j:Int)(k:aC)(b:List Pat)(a:Int):=tT 0 (aGe i j k b a)<|gm 6 aH b<|gd 2 38 (a< (b.length:Int)) (.y fun c:Int=>.y fun d:Int=>.y fun e:aC=>.y fun f:List Pat=>.y fun g:Bool=>.i [rn 5,.reg (rd 3 (.ans (.idx (Pat.av (Pat.mk c d e f)))::rd 4 [.ans (.idx (Pat.av (Pat.mk c d e f))),.d,.pure (bV g),.d]))] [hA (0≤a),.a (((b)[a.toNat]?) =some (Pat.mk c d e f)) (cS aH),hA (0≤a),.a (((b)[a.toNat]?) =some (Pat.mk c d e f)) (cS aH),hA (Pure PP 88 [(.agg [(nI c),(nI d),(aA e),(iP f)]),(.agg [(nI c),(nI d),(aA e),(iP f)])] (bV g))]<|.b 0 52 (!g) .x<|gw 6 40 (a+1)<|.W 3 2 [0,1] (aGe i j k b (a+1)))<|gE 7 2 (bV true)
def aYM:=fun c d e f g i j k l m n a b o p q=>bCv c d e f g|>.t n i j k l m a b a b o|>.f p q tv
def aYN:=fun a b c d e f=>bCv a b c d e|>.f f tv
def aYO (a:Node):=fun b c d e f g=>(tT 0 (start PP 56 [(Node.av a),(Node.av a)])<|.b 15 11 (a.op != a.op) .x<|.b 7 18 (a.n != a.n) .x<|dG 4 55 [(iI a.kids),(iI a.kids)]<|fun b=>.b 3 26 (!b) .x<|gm 2 aH a.pats<|gm 2 aH a.pats<|.b 3 34 ((a.pats.length:Int) != (a.pats.length:Int)) .x<|.W 9 2 [0,1] (aGf a 0))|>.f c|>.f d b e|>.f f|>.f g tv
def bCw(b:Node)(a:Int):=tT 0 (aGf b a)<|gm 6 aH b.pats<|gd 2 39 (a< (b.pats.length:Int)) (.y fun c:Int=>.y fun d:Int=>.y fun e:aC=>.y fun f:List Pat=>.y fun g:Bool=>.i [rn 5,.reg (rd 3 (.ans (.idx (Pat.av (Pat.mk c d e f)))::rd 4 [.ans (.idx (Pat.av (Pat.mk c d e f))),.d,.pure (bV g),.d]))] [hA (0≤a),.a (((b.pats)[a.toNat]?) =some (Pat.mk c d e f)) (cS aH),hA (0≤a),.a (((b.pats)[a.toNat]?) =some (Pat.mk c d e f)) (cS aH),hA (Pure PP 88 [(.agg [(nI c),(nI d),(aA e),(iP f)]),(.agg [(nI c),(nI d),(aA e),(iP f)])] (bV g))]<|.b 0 53 (!g) .x<|gw 6 41 (a+1)<|.W 3 2 [0,1] (aGf b (a+1)))<|gE 7 2 (bV true)
def aYP:=fun c d e f g i j k a b l m n=>bCw c d|>.t k e f g i j a b a b l|>.f m n tv
def aYQ:=fun a b c=>bCw a b|>.f c tv
def aYR (a:Prog):=fun b c d e f g=>(tT 0 (start PP 12 [(Prog.av a),(Prog.av a)])<|gl 11 Node.av a.nodes<|gl 2 Node.av a.nodes<|.b 2 14 ((a.nodes.length:Int) != (a.nodes.length:Int)) .x<|dG 4 55 [(iI a.funs),(iI a.funs)]<|fun b=>.b 3 22 (!b) .x<|.b 7 29 (a.main != a.main) .x<|gl 2 Con.av a.cons<|gl 2 Con.av a.cons<|.b 3 37 ((a.cons.length:Int) != (a.cons.length:Int)) .x<|.W 9 2 [0,1] (aGg a 0))|>.f c b d|>.f e|>.f f|>.f g tv
def bCx(c:Prog)(b:Int):=tT 0 (aGg c b)<|gl 6 Con.av c.cons<|gd 2 42 (b< (c.cons.length:Int)) (.y fun a:Con=>.i [rn 5,.reg (rd 3 (.ans (.idx (Con.av a))::rd 4 [.ans (.idx (Con.av a)),.d,.d]))] [hA (0≤b),.a (((c.cons)[b.toNat]?) =some a) (gP (f:=Con.av)),hA (0≤b),.a (((c.cons)[b.toNat]?) =some a) (gP (f:=Con.av))]<|.b 0 55 (!((aU a.name.length (aE a.name) a.name.length (aE a.name)) && ((a.args==a.args) &&true))) .x<|gw 6 44 (b+1)<|.W 3 2 [0,1] (aGg c (b+1)))<|.W 9 2 [0,1] (aGh c 0)
def aYS:=fun c d e f a b g i=>bCx c d|>.t f e a b a b|>.f g i tv
def aYT:=fun a b c=>bCx a b|>.f c tv
def bCy(b:Prog)(a:Int):=tT 0 (aGh b a)<|gl 6 Node.av b.nodes<|gd 2 60 (a< (b.nodes.length:Int)) (.y fun c:Node=>.y fun d:Bool=>.i [rn 5,.reg (rd 3 (.ans (.idx (Node.av c))::rd 4 [.ans (.idx (Node.av c)),.d,.pure (bV d),.d]))] [hA (0≤a),.a (((b.nodes)[a.toNat]?) =some c) (gP (f:=Node.av)),hA (0≤a),.a (((b.nodes)[a.toNat]?) =some c) (gP (f:=Node.av)),hA (Pure PP 56 [(Node.av c),(Node.av c)] (bV d))]<|.b 0 74 (!d) .x<|gw 6 62 (a+1)<|.W 3 2 [0,1] (aGh b (a+1)))<|gE 7 2 (bV true)
def aYU:=fun c d e f g a b i j k=>bCy c d|>.t g e f a b a b i|>.f j k tv
def aYV:=fun a b c=>bCy a b|>.f c tv
end
end Go.Hb
namespace Go.Hb
open Go.Proofs
theorem yD (s:aC) :aU (List.length s) (aE s) (List.length s) (aE s) =true:=by rw [hQ];simp
theorem aHZ (a:List Int)(ha:a.length<1000000) :∀ (t:List Int) (i:Nat),a.drop i=t→Ends PP 0 (aGd a (i:Int)).as (.ret (.bool true)) (aG [] 0)
 | [],i,h=>by
  have:=bA h;exact aYK a i sd
 | y::t,i,h=>by
  obtain⟨g1,g2,g3⟩ :=aZ h;have h1:=aYJ a i y sd sd sd (by simp) sd;exact h1.ends (aHZ a ha t (i+1) g2)
theorem aH0 (a:List Int)(ha:a.length<1000000) :Pure PP 55 [.ilst 1 (List.map aO a) false,.ilst 1 (List.map aO a) false] (.bool true) :=
 aV (by kernel_rfl) rfl rfl ((aYI a (by simp)).ends (aHZ a ha a 0 rfl))
theorem aH1 (f n:Int)(s:aC)(ps:List Pat)(hl:ps.length<1000000)(ih:∀p∈ps,Pure PP 88 [Pat.av p,Pat.av p] (.bool true)) :∀ (t:List Pat) (i:Nat),ps.drop i=t→Ends PP 0 (aGe f n s ps (i:Int)).as (.ret (.bool true)) (aG [] 0)
 | [],i,h=>by
  have:=bA h;exact aYN f n s ps i sd
 | .mk f1 n1 s1 ps1::t,i,h=>by
  obtain⟨g1,g2,g3⟩ :=aZ h;have h1:=aYM f n s ps i f1 n1 s1 ps1 true sd sd sd (ih (.mk f1 n1 s1 ps1) (List.mem_of_getElem? g1)) rfl sd;exact h1.ends (aH1 f n s ps hl ih t (i+1) g2)
mutual
theorem aR6 :∀ (q:Pat),aQ q<1000000→Pure PP 88 [Pat.av q,Pat.av q] (.bool true)
 | .mk f n s ps,h=>by
  simp only [aQ]at h;have:=bK ps;exact aV (by kernel_rfl) (by simp [AV.keylessL,eE]) rfl ((aYL f n s ps (by simp) (by simp) (by rw [yD];rfl) (by simp)).ends (aH1 f n s ps (by omega) (aB6 ps (by omega)) ps 0 rfl))
theorem aB6 :∀ (ps:List Pat),aM ps<1000000→∀p∈ps,Pure PP 88 [Pat.av p,Pat.av p] (.bool true)
 | [],_,p,hp=>by cases hp
 | q::ps,h,p,hp=>by
  simp only [aM]at h;rcases List.mem_cons.1 hp with e|hp
  ·rw [e];exact aR6 q (by omega)
  ·exact aB6 ps (by omega) p hp
end
theorem aH2 (x:Node)(hl:x.pats.length<1000000)(ih:∀p∈x.pats,Pure PP 88 [Pat.av p,Pat.av p] (.bool true)) :∀ (t:List Pat) (i:Nat),x.pats.drop i=t→Ends PP 0 (aGf x (i:Int)).as (.ret (.bool true)) (aG [] 0)
 | [],i,h=>by
  have:=bA h;exact aYQ x i sd
 | .mk f1 n1 s1 ps1::t,i,h=>by
  obtain⟨g1,g2,g3⟩ :=aZ h;have h1:=aYP x i f1 n1 s1 ps1 true sd sd sd (ih (.mk f1 n1 s1 ps1) (List.mem_of_getElem? g1)) rfl sd;exact h1.ends (aH2 x hl ih t (i+1) g2)
def aR7 (x:Node) :Prop:=x.kids.length<1000000∧aM x.pats<1000000
structure FitP (q:Prog) :Prop where
 nodes:q.nodes.length≤1000000
 funs:q.funs.length<1000000
 cons:q.cons.length<1000000
 node:∀x∈q.nodes,aR7 x
theorem aR8 (x:Node)(h:aR7 x) :Pure PP 56 [Node.av x,Node.av x] (.bool true) :=by
 have:=bK x.pats;have h1:=h.1;have h2:=h.2;exact aV (by kernel_rfl) (by simp [AV.keylessL,Node.av,AV.keyless]) rfl ((aYO x true (by simp) (by simp) (aH0 x.kids h.1) rfl (by simp)).ends (aH2 x (by omega) (aB6 x.pats h.2) x.pats 0 rfl))
theorem bCz (p:Prog)(hp:FitP p) :∀ (t:List Node) (i:Nat),p.nodes.drop i=t→Ends PP 0 (aGh p (i:Int)).as (.ret (.bool true)) (aG [] 0)
 | [],i,h=>by
  have:=bA h;exact aYV p i sd
 | x::t,i,h=>by
  obtain⟨g1,g2,g3⟩ :=aZ h;have hn:=hp.nodes;have h1:=aYU p i x true sd sd sd (aR8 x (hp.node x (List.mem_of_getElem? g1))) rfl sd;exact h1.ends (bCz p hp t (i+1) g2)
theorem bCA (p:Prog)(hp:FitP p) :∀ (t:List Con) (i:Nat),p.cons.drop i=t→Ends PP 0 (aGg p (i:Int)).as (.ret (.bool true)) (aG [] 0)
 | [],i,h=>by
  have:=bA h;exact(aYT p i sd).ends (bCz p hp p.nodes 0 rfl)
 | c::t,i,h=>by
  obtain⟨g1,g2,g3⟩ :=aZ h;have hn:=hp.cons;have h1:=aYS p i c sd sd sd (by rw [yD];simp) sd;exact h1.ends (bCA p hp t (i+1) g2)
theorem aJZ (p:Prog)(hp:FitP p) :Pure PP 12 [Prog.av p,Prog.av p] (.bool true) :=
 aV (by kernel_rfl) (by simp [AV.keylessL,Prog.av,AV.keyless]) rfl ((aYR p true (by simp) (aH0 p.funs hp.funs) rfl (by simp) (by simp)).ends (bCA p hp p.cons 0 rfl))
theorem aEJ {f:Nat}{args:List AV}{v v':AV}(h:Pure PP f args v)(hv:∀ (E:Emb) (cv:Value),VR E v cv→VR E v' cv) :Pure PP f args v':=fun hh=>by
 obtain⟨g,hg,he⟩ :=h hh;exact⟨g,hg,aML he hv⟩
mutual
theorem aMQ (mc:List (Int×Int)) :∀q:Pat,aQ (mH mc q) =aQ q
 | .mk f n t ps=>by rw [mH,aQ,aQ,aDe mc ps]
theorem aDe (mc:List (Int×Int)) :∀ps:List Pat,aM (eH mc ps) =aM ps
 | [] =>rfl
 |q::ps=>by rw [eH,aM,aM,aMQ mc q,aDe mc ps]
end
end Go.Hb
namespace Go.Hb
open Go.Proofs
noncomputable section
open Go.Proofs Tryz
def bCB(a:Mod):TS:=bF PP 47 [(.agg [(aA a.name),(.ilst 2 (List.map DataD.av a.datas) false),(.ilst 15 (FunDs.av a.funs) false)])] [] 0
def aGi(a:Mod)(c:Int)(b:List aC):TS:=⟨(tf 47 22 [kp 1 0,(2,.nils),(3,(.gl 1 1 0 b.length false)),(4,(nI c))] [kc f47 116,kl f47 116,.inBlock 0,kc f47 15]),[],[oC 0 [(aA a.name),(.ilst 2 (List.map DataD.av a.datas) false),(.ilst 15 (FunDs.av a.funs) false)],oL 1 1 (List.map aA b)],2⟩
def bCC(a:Mod):TS:=bF PP 48 [(.agg [(aA a.name),(.ilst 2 (List.map DataD.av a.datas) false),(.ilst 15 (FunDs.av a.funs) false)])] [] 0
def aDf(a:Mod)(c:Int)(b:List Con):TS:=⟨(tf 48 44 [kp 1 0,(2,.nils),(3,(.gl 1 2 0 b.length false)),(4,(nI c))] [kc f48 116,kl f48 116,.inBlock 0,kc f48 15]),[],[oC 0 [(aA a.name),(.ilst 2 (List.map DataD.av a.datas) false),(.ilst 15 (FunDs.av a.funs) false)],oL 1 2 (jC b)],2⟩
def aGj(a:Mod)(c:Int)(b:List Con)(d:Int):TS:=⟨(tf 48 44 [kp 1 0,(2,.nils),(3,(.gl 1 2 0 b.length false)),(4,(nI d)),(5,(nI c))] [kc f48 7460,kl f48 7460,.inBlock 2,.inBlock 1,kc f48 467,kl f48 116,.inBlock 0,kc f48 15]),[],[oC 0 [(aA a.name),(.ilst 2 (List.map DataD.av a.datas) false),(.ilst 15 (FunDs.av a.funs) false)],oL 1 2 (jC b)],2⟩
def bCD(a:List Con):TS:=bF PP 50 [(iC a)] [] 0
def aGk(b:List Con)(c:Int)(a:List aC):TS:=⟨(tf 50 20 [(0,(iC b)),(2,.nils),(3,(.gl 0 1 0 a.length false)),(4,(nI c))] [kc f50 116,kl f50 116,.inBlock 0,kc f50 15]),[],[oL 0 1 (List.map aA a)],1⟩
def aGl(a:List aC)(b:aC)(c:Int):TS:=⟨(tf 53 20 [(0,(iS a)),(1,(aA b)),(4,(nI 0)),(5,(nI c))] [kc f53 52,kl f53 52,.inBlock 0,kc f53 7]),[],[],0⟩
def aGm(a:List Con)(b:aC)(c:Int):TS:=⟨(tf 113 20 [(0,(iC a)),(1,(aA b)),(4,(nI 0)),(5,(nI c))] [kc f113 52,kl f113 52,.inBlock 0,kc f113 7]),[],[],0⟩
def bCE(a b:List aC):TS:=bF PP 115 [(iS a),(iS b)] [] 0
def aR9(a b:Int)(c:aC)(d:List Term)(e:List Pat)(f:Int):TS:=bF PP 116 [(.agg [(nI a),(nI b),(aA c),(.ilst 5 (Terms.av d) false),(iP e)]),(nI f)] [] 0
def aSa(a:List aC)(b:List Con)(c d:Int)(e:aC)(f:List Pat):TS:=bF PP 114 [(.ptr 0 0),(.agg [(nI c),(nI d),(aA e),(iP f)])] [oC 0 [(iS a),(iC b),.nils]] 1
def aDg(a:List aC)(b:List Con)(c d:Int)(e:aC)(f:List Pat)(g:Int):TS:=⟨(tf 114 48 [kp 0 0,kp 3 1,(4,(bV false)),(6,(nI g))] [kc f114 116,kl f114 116,.inBlock 0,kc f114 15]),[],[oC 0 [(iS a),(iC b),.nils],oC 1 [(nI c),(nI d),(aA e),(iP f)]],2⟩
def aEK(a:List aC)(b:List Con)(c d:Int)(e:aC)(f:List Term)(g:List Pat)(i:List aC):TS:=bF PP 52 [(.ptr 0 0),(.agg [(nI c),(nI d),(aA e),(.ilst 5 (Terms.av f) false),(iP g)]),(iS i)] [oC 0 [(iS a),(iC b),.nils]] 1
def aDh(a:List aC)(b:List Con)(c d:Int)(e:aC)(f:List Term)(g:List Pat)(i:List aC)(j:Int):TS:=⟨(tf 52 87 [kp 0 0,(2,(iS i)),kp 4 1,(6,(bV false)),(8,(nI j))] [kc f52 244,kl f52 244,.inBlock 0,kc f52 31]),[],[oC 0 [(iS a),(iC b),.nils],oC 1 [(nI c),(nI d),(aA e),(.ilst 5 (Terms.av f) false),(iP g)]],2⟩
def aDi(a:List aC)(b:List Con)(c d:Int)(e:aC)(f:List Term)(g:List Pat)(i:List aC)(j:Int):TS:=⟨(tf 52 87 [kp 0 0,(2,(iS i)),kp 4 1,(6,(bV false)),(9,(nI j))] [kc f52 500,kl f52 500,.inBlock 2,kc f52 63]),[],[oC 0 [(iS a),(iC b),.nils],oC 1 [(nI c),(nI d),(aA e),(.ilst 5 (Terms.av f) false),(iP g)]],2⟩
def aYW (a:Mod):=(tT 0 (bCB a)<|.i [rn 16,.nilL 3 1] []<|gu 0 1 (List.map aA ([] :List aC))<|gs 0 3 (.gl 1 1 0 ([] :List aC).length false)<|.W 0 2 [0,1] (aGi a 0 ([] :List aC))) ⟨kk,trivial⟩
def bCF(a:Mod)(b:Int)(c:List aC):=tT 0 (aGi a b c)<|gm 6 cD a.funs<|gd 2 9 (b< (a.funs.length:Int)) (.y fun d:aC=>.y fun e:aC=>.y fun f:Int=>.y fun g:Int=>.y fun i:aC=>.y fun j:List Typ=>.y fun k:Int=>.y fun l:Int=>.y fun m:aC=>.y fun n:List Typ=>.y fun o:Int=>.y fun p:Int=>.y fun q:aC=>.y fun r:List Term=>.y fun s:List Pat=>giF cD 9 a.funs b (FunD.mk d e (Typ.mk f g i j) (Typ.mk k l m n) (Term.mk o p q r s))<|ga 3 aA c [d]<|gw 6 11 (b+1)<|.W 3 4 [0,3] (aGi a (b+1) (c++ [d])))<|gz 8 2 1 1 aA c false<|gE 0 2 (iS c)
def aYX:=fun a b c d e f g i j k l m n o p q r s t u v w x=>bCF a b c|>.t t d e f g i j k l m n o p q r s u v w x ⟨kk,trivial⟩
def aYY:=fun a b c d=>bCF a b c|>.f d tv
def aYZ (a:Mod):=(tT 0 (bCC a)<|.i [rn 16,.nilL 3 2] []<|gu 0 1 (jC ([] :List Con))<|gs 0 3 (.gl 1 2 0 ([] :List Con).length false)<|.W 0 2 [0,1] (aDf a 0 ([] :List Con))) ⟨kk,trivial⟩
def bCG(a:Mod)(c:Int)(b:List Con):=tT 0 (aDf a c b)<|gl 6 DataD.av a.datas<|gd 2 11 (c< (a.datas.length:Int)) (.W 10 2 [0,1] (aGj a 0 b c))<|gz 8 2 1 2 Con.av b false<|gE 0 2 (iC b)
def aY0:=fun a b c d=>bCG a b c|>.t d ⟨kk,trivial⟩
def aY1:=fun a b c d=>bCG a b c|>.f d tv
def bCH(b:Mod)(c:Int)(e:List Con)(a:Int):=tT 0 (aGj b c e a)<|gX DataD.av 7 b.datas a<|fun f=>gl 2 ConD.av f.cons<|gd 2 22 (c< (f.cons.length:Int)) (gi DataD.av 9 b.datas a f<|gX ConD.av 3 f.cons c<|fun d=>gm 10 cT d.args<|ga 2 Con.av e [(Con.mk d.name (d.args.length:Int))]<|gw 6 24 (c+1)<|.W 3 5 [0,4] (aGj b (c+1) (e++ [(Con.mk d.name (d.args.length:Int))]) a))<|gw 6 13 (a+1)<|.W 3 2 [0,1] (aDf b (a+1) e)
def aY2:=fun c d e f g i a b j k l m n=>bCH c d e f g a b|>.t j a b i k l m n ⟨kk,trivial⟩
def aY3:=fun a b c d e f g i j=>bCH a b c d e f g|>.f i j ⟨kk,trivial⟩
def aY4 (a:List Con):=(tT 0 (bCD a)<|.i [rn 15,.nilL 3 1] []<|gu 0 0 (List.map aA ([] :List aC))<|gs 0 3 (.gl 0 1 0 ([] :List aC).length false)<|.W 0 1 [0] (aGk a 0 ([] :List aC))) ⟨kk,trivial⟩
def bCI(a:List Con)(b:Int)(c:List aC):=tT 0 (aGk a b c)<|gl 5 Con.av a<|gd 2 8 (b< (a.length:Int)) (gX Con.av 8 a b<|fun d=>ga 3 aA c [d.name]<|gw 6 10 (b+1)<|.W 3 3 [2] (aGk a (b+1) (c++ [d.name])))<|gz 8 2 0 1 aA c false<|gE 0 1 (iS c)
def aY5:=fun a b c d e f g i j=>bCI a b c|>.t e d f g i j ⟨kk,trivial⟩
def aY6:=fun a b c d=>bCI a b c|>.f d tv
def aY7 (a:List aC)(b:aC):=fun c=>(tT 0 (start PP 53 [(iS a),(aA b)])<|gl 8 aA a<|gw 1 8 ((a.length:Int) -1)<|.W 4 0 [] (aGl a b ((a.length:Int) -1))) c tv
def aSb(c:List aC)(b:aC)(a:Int):=tT 0 (aGl c b a)<|gd 6 10 (a≥0) (gX aA 8 c a<|fun d=>.b 4 18 (aU d.length (aE d) b.length (aE b)) (gE 7 0 (nI a))<|gw 6 12 (a-1)<|.W 3 0 [] (aGl c b (a-1)))<|gE 7 0 (nI (-1))
def aY8:=fun a b c d e f g i=>aSb a b c|>.t e d f g|>.t i tv
def aY9:=fun a b c d e f g i j=>aSb a b c|>.t e d f g|>.f i j tv
def aZa:=fun a b c d=>aSb a b c|>.f d tv
def aZb (a:List Con)(b:aC):=(tT 0 (start PP 113 [(iC a),(aA b)])<|.W 11 0 [] (aGm a b 0)) tv
def aSc(b:List Con)(c:aC)(a:Int):=tT 0 (aGm b c a)<|gl 5 Con.av b<|gd 2 9 (a< (b.length:Int)) (gX Con.av 8 b a<|fun d=>.b 5 18 (aU d.name.length (aE d.name) c.length (aE c)) (gE 7 0 (nI a))<|gw 6 11 (a+1)<|.W 3 0 [] (aGm b c (a+1)))<|gE 7 0 (nI (-1))
def aZc:=fun a b c d e f g i=>aSc a b c|>.t e d f g|>.t i tv
def aZd:=fun a b c d e f g i j=>aSc a b c|>.t e d f g|>.f i j tv
def aZe:=fun a b c d=>aSc a b c|>.f d tv
def aZf (a b:List aC):=fun c d=>(tT 0 (bCE a b)<|.i [rn 7,.appN (List.map aA a) a.length] [hA (a.length≤1000000),hr (List.map aA a),.q (p:=List.length (List.map aA a) =a.length) (List.length_map ..)]<|ga 1 aA a b<|gz 3 4 1 1 aA (a++b) false<|gE 0 2 (iS (a++b))) c d tv
def aDj(b f:Int)(a:aC)(g:List Term)(d:List Pat)(c:Int):=tT 0 (aR9 b f a g d c)<|.b 18 7 (b==5) (.i [rn 11,.toL 4 false [(aA a)]] [hr (some [(aA a)]),hr true]<|gu 0 1 (List.map aA [a])<|gs 0 4 (.gl 1 1 0 [a].length true)<|.i [.weak 4] []<|gz 0 4 1 1 aA [a] false<|gE 0 2 (iS [a]))<|.b 5 7 (b==27) (.i [rn 9,.toL 4 false [(aA a)]] [hr (some [(aA a)]),hr true]<|gu 0 1 (List.map aA [a])<|gs 0 4 (.gl 1 1 0 [a].length true)<|.i [.weak 4] []<|gz 0 4 1 1 aA [a] false<|gE 0 2 (iS [a]))<|.b 6 13 (b==7) (.b 6 16 (c==1) (.i [rn 9,.toL 4 false [(aA a)]] [hr (some [(aA a)]),hr true]<|gu 0 1 (List.map aA [a])<|gs 0 4 (.gl 1 1 0 [a].length true)<|.i [.weak 4] []<|gz 0 4 1 1 aA [a] false<|gE 0 2 (iS [a]))<|.i [rn 8,.nilI 4 1] []<|gE 0 1 (.ilst 1 (List.map aA ([] :List aC)) true))<|.b 6 20 (b==15) (gd 6 23 (c>0) (gw 7 27 (c-1)<|mU 0 d (c-1)<|fun i j k l=>.y fun e:List aC=>gp 1 186 [(.agg [(nI i),(nI j),(aA k),(iP l)])] (iS e)<|gE 3 1 (iS e))<|.i [rn 8,.nilI 4 1] []<|gE 0 1 (.ilst 1 (List.map aA ([] :List aC)) true))<|.i [rn 8,.nilI 4 1] []<|gE 0 1 (.ilst 1 (List.map aA ([] :List aC)) true)
def aZg:=fun a b c d e f g=>aDj a b c d e f|>.t g tv
def aZh:=fun a b c d e f g i=>aDj a b c d e f|>.f g|>.t i tv
def aZi:=fun a b c d e f g i j k=>aDj a b c d e f|>.f g|>.f i|>.t j|>.t k tv
def aZj:=fun a b c d e f g i j k=>aDj a b c d e f|>.f g|>.f i|>.t j|>.f k tv
def aZk:=fun a b c d e f g i j k l m n o p q r s t u=>aDj a b c d e f|>.f m|>.f n|>.f o|>.t p|>.t q r g i j k s t l u tv
def aZl:=fun a b c d e f g i j k l=>aDj a b c d e f|>.f g|>.f i|>.f j|>.t k|>.f l tv
def aZm:=fun a b c d e f g i j k=>aDj a b c d e f|>.f g|>.f i|>.f j|>.f k tv
def aLq(d:List aC)(b:List Con)(f g:Int)(e:aC)(c:List Pat):=tT 1 (aSa d b f g e c)<|.b 12 9 (f==6) (.o (.y fun a:Int=>.i [rn 2,.reg (rd 6 [.pure (nI a),.d]),rn 1,.reg (rd 3 (.b 19 true::rd 13 []))] [hA (Pure PP 113 [(iC b),(aA e)] (nI a)),hA (decide (a<0) =true)]<|.E 6 2 [] (bV false) [oC 0 [(iS d),(iC b),.nils]] 1)<|.y fun a:Int=>.y fun i:Con=>.i [rn 2,.reg (rd 6 [.pure (nI a),.d]),rn 1,.reg (rd 3 (.b 19 false::rd 5 (.ans (.idx (Con.av i))::rd 4 [.ans (.len (c.length:Int)),.d,.d])))] [hA (Pure PP 113 [(iC b),(aA e)] (nI a)),hA (decide (a<0) =false),hA (0≤a),.a (((b)[a.toNat]?) =some i) (gP (f:=Con.av)),hm aH c]<|.b 0 32 (i.args != (c.length:Int)) (.E 6 2 [] (bV false) [oC 0 [(iS d),(iC b),.nils]] 1)<|.W 9 2 [1] (aDg d b f g e c 0))<|.W 9 2 [1] (aDg d b f g e c 0)
def aZn:=fun a b c d e f g i j k=>aLq a b c d e f|>.t i|>.1 g j k tv
def aZo:=fun a b c d e f g i j k l m n o=>aLq a b c d e f|>.t j|>.2 g i k l m n|>.t o tv
def aZp:=fun a b c d e f g i j k l m n o=>aLq a b c d e f|>.t j|>.2 g i k l m n|>.f o tv
def aZq:=fun a b c d e f g=>aLq a b c d e f|>.f g tv
def aSd(b:List aC)(c:List Con)(e f:Int)(g:aC)(a:List Pat)(d:Int):=tT 1 (aDg b c e f g a d)<|gm 6 aH a<|gd 2 37 (d< (a.length:Int)) (mU 10 a d<|fun j k l m=>.y fun i:Bool=>gk 1 (.enter 114 [(.ptr 0 0),(.agg [(nI j),(nI k),(aA l),(iP m)])]) [oC 0 [(iS b),(iC c),.nils],oC 1 [(nI e),(nI f),(aA g),(iP a)]] 2 (bV i) [oC 0 [(iS b),(iC c),.nils],oC 1 [(nI e),(nI f),(aA g),(iP a)]] 2<|.b 2 47 (!i) (.E 6 2 [] (bV false) [oC 0 [(iS b),(iC c),.nils]] 1)<|gw 6 39 (d+1)<|.W 3 2 [1] (aDg b c e f g a (d+1)))<|.E 7 2 [] (bV true) [oC 0 [(iS b),(iC c),.nils]] 1
def aZr:=fun a b c d e f g i j k l m n o p q r=>aSd a b c d e f g|>.t n i j k l o p m q|>.t r tv
def aZs:=fun a b c d e f g i j k l m n o p q r s=>aSd a b c d e f g|>.t n i j k l o p m q|>.f r s tv
def aZt:=fun a b c d e f g i=>aSd a b c d e f g|>.f i tv
def aEL(c:List aC)(b:List Con)(g j:Int)(d:aC)(f:List Term)(k:List Pat)(i:List aC):=tT 1 (aEK c b g j d f k i)<|.b 12 12 (g==4) (.o (.y fun a:Bool=>.i [rn 2,.reg (rd 3 (.pure (bV a)::.d::.b 17 true::rd 9 []))] [hA (Pure PP 51 [(iS i),(aA d)] (bV a)),hA (a=true)]<|.E 1 2 [] (bV true) [oC 0 [(iS c),(iC b),.nils]] 1)<|.y fun a:Bool=>.y fun e:Bool=>.i [rn 2,.reg (rd 3 (.pure (bV a)::.d::.b 17 false::rd 6 [.pure (bV e),.d,.d]))] [hA (Pure PP 51 [(iS i),(aA d)] (bV a)),hA (a=false),hA (Pure PP 51 [(iS c),(aA d)] (bV e))]<|.E 1 2 [] (bV e) [oC 0 [(iS c),(iC b),.nils]] 1)<|.b 9 28 (g==14) (.o (.y fun a:Int=>.i [rn 2,.reg (rd 6 [.pure (nI a),.d]),rn 1,.reg (rd 3 (.b 38 true::rd 13 []))] [hA (Pure PP 113 [(iC b),(aA d)] (nI a)),hA (decide (a<0) =true)]<|.E 6 2 [] (bV false) [oC 0 [(iS c),(iC b),.nils]] 1)<|.y fun a:Int=>.y fun e:Con=>.i [rn 2,.reg (rd 6 [.pure (nI a),.d]),rn 1,.reg (rd 3 (.b 38 false::rd 5 (.ans (.idx (Con.av e))::rd 4 [.ans (.len (f.length:Int)),.d,.d])))] [hA (Pure PP 113 [(iC b),(aA d)] (nI a)),hA (decide (a<0) =false),hA (0≤a),.a (((b)[a.toNat]?) =some e) (gP (f:=Con.av)),hm bG f]<|.b 0 51 (e.args != (f.length:Int)) (.E 6 2 [] (bV false) [oC 0 [(iS c),(iC b),.nils]] 1)<|.W 9 2 [1] (aDh c b g j d f k i 0))<|.W 9 2 [1] (aDh c b g j d f k i 0)
def aZu:=fun a b c d e f g i j k l m=>aEL a b c d e f g i|>.t k|>.1 j l m tv
def aZv:=fun a b c d e f g i j k l m n o=>aEL a b c d e f g i|>.t l|>.2 j k m n o tv
def aZw:=fun a b c d e f g i j k l m n=>aEL a b c d e f g i|>.f k|>.t l|>.1 j m n tv
def aZx:=fun a b c d e f g i j k l m n o p q r=>aEL a b c d e f g i|>.f l|>.t m|>.2 j k n o p q|>.t r tv
def aZy:=fun a b c d e f g i j k l m n o p q r=>aEL a b c d e f g i|>.f l|>.t m|>.2 j k n o p q|>.f r tv
def aZz:=fun a b c d e f g i j k=>aEL a b c d e f g i|>.f j|>.f k tv
def aJ0(b:List aC)(c:List Con)(d e:Int)(f:aC)(g:List Term)(a:List Pat)(j:List aC)(i:Int):=tT 1 (aDh b c d e f g a j i)<|gm 6 aH a<|gd 2 56 (i< (a.length:Int)) (mU 10 a i<|fun l m n o=>.y fun k:Bool=>gk 1 (.enter 114 [(.ptr 0 0),(.agg [(nI l),(nI m),(aA n),(iP o)])]) [oC 0 [(iS b),(iC c),.nils],oC 1 [(nI d),(nI e),(aA f),(.ilst 5 (Terms.av g) false),(iP a)]] 2 (bV k) [oC 0 [(iS b),(iC c),.nils],oC 1 [(nI d),(nI e),(aA f),(.ilst 5 (Terms.av g) false),(iP a)]] 2<|.b 2 66 (!k) (.E 6 2 [] (bV false) [oC 0 [(iS b),(iC c),.nils]] 1)<|gw 6 58 (i+1)<|.W 3 2 [1] (aDh b c d e f g a j (i+1)))<|.W 9 2 [1] (aDi b c d e f g a j 0)
def aZA:=fun a b c d e f g i j k l m n o p q r s t=>aJ0 a b c d e f g i j|>.t p k l m n q r o s|>.t t tv
def aZB:=fun a b c d e f g i j k l m n o p q r s t u=>aJ0 a b c d e f g i j|>.t p k l m n q r o s|>.f t u tv
def aZC:=fun a b c d e f g i j k=>aJ0 a b c d e f g i j|>.f k tv
def aJ1(b:List aC)(c:List Con)(e f:Int)(g:aC)(a:List Term)(i:List Pat)(o:List aC)(d:Int):=tT 1 (aDi b c e f g a i o d)<|gm 6 bG a<|gd 2 71 (d< (a.length:Int)) (.y fun j:Int=>.y fun k:Int=>.y fun l:aC=>.y fun m:List Term=>.y fun n:List Pat=>.y fun p:List aC=>.y fun q:List aC=>.y fun r:Bool=>.i [rn 5,.reg (rd 4 (.ans (.idx (Term.av (Term.mk j k l m n)))::rd 4 [.pure (iS p),.pure (iS q),.call (bV r) (aG [oC 0 [(iS b),(iC c),.nils],oC 1 [(nI e),(nI f),(aA g),(.ilst 5 (Terms.av a) false),(iP i)]] 2),.d]))] [hA (0≤d),.a (((a)[d.toNat]?) =some (Term.mk j k l m n)) (cS bG),hA (Pure PP 116 [(.agg [(nI e),(nI f),(aA g),(.ilst 5 (Terms.av a) false),(iP i)]),(nI d)] (iS p)),hA (Pure PP 115 [(iS o),(iS p)] (iS q)),hA (Spec PP (.enter 52 [(.ptr 0 0),(.agg [(nI j),(nI k),(aA l),(.ilst 5 (Terms.av m) false),(iP n)]),(iS q)]) (aG [oC 0 [(iS b),(iC c),.nils],oC 1 [(nI e),(nI f),(aA g),(.ilst 5 (Terms.av a) false),(iP i)]] 2) (.ret (bV r)) (aG [oC 0 [(iS b),(iC c),.nils],oC 1 [(nI e),(nI f),(aA g),(.ilst 5 (Terms.av a) false),(iP i)]] 2)),hr (AV.agg [(nI j),(nI k),(aA l),(.ilst 5 (Terms.av m) false),(iP n)]),hr (AV.agg [(nI j),(nI k),(aA l),(.ilst 5 (Terms.av m) false),(iP n)]),hr (AV.agg [(nI j),(nI k),(aA l),(.ilst 5 (Terms.av m) false),(iP n)]),hr (AV.ilst 5 (Terms.av a) false),hr (AV.ilst 5 (Terms.av a) false),hr (AV.ilst 5 (Terms.av a) false)]<|.b 0 86 (!r) (.E 6 2 [] (bV false) [oC 0 [(iS b),(iC c),.nils]] 1)<|gw 6 73 (d+1)<|.W 3 2 [1] (aDi b c e f g a i o (d+1)))<|.E 7 2 [] (bV true) [oC 0 [(iS b),(iC c),.nils]] 1
def aZD:=fun a b c d e f g i j k l m n o p q r s t u v w x y=>aJ1 a b c d e f g i j|>.t s k l m n o p q r t u v w x|>.t y tv
def aZE:=fun a b c d e f g i j k l m n o p q r s t u v w x y z=>aJ1 a b c d e f g i j|>.t s k l m n o p q r t u v w x|>.f y z tv
def aZF:=fun a b c d e f g i j k=>aJ1 a b c d e f g i j|>.f k tv
end
end Go.Hb
namespace Go.Hb
open Go.Proofs
set_option maxHeartbeats 4000000
def FunD.nm :FunD→aC
 | .mk n _ _ _ _=>n
theorem aH3 (m:Mod)(hl:m.funs.length≤1000) :∀ (t:List FunD) (i:Nat) (acc:List aC),m.funs.drop i=t→acc.length=i→Ends PP 0 (aGi m (i:Int) acc).as (.ret (.ilst 1 (List.map aA (acc++t.map FunD.nm)) false)) (aG [] 0)
 | [],i,acc,h,ha=>by
  have:=bA h;rw [List.map_nil,List.append_nil];exact aYY m i acc sd
 | .mk n p (.mk f0 f1 f2 f3) (.mk g0 g1 g2 g3) (.mk b0 b1 b2 b3 b4) ::t,i,acc,h,ha=>by
  obtain⟨q1,q2,q3⟩ :=aZ h;have hi:= (List.getElem?_eq_some_iff.1 q1).1;refine(aYX m i acc n p f0 f1 f2 f3 g0 g1 g2 g3 b0 b1 b2 b3 b4 sd sd sd (by simp;omega) sd).ends ?_;have:=aH3 m hl t (i+1) (acc++ [n]) q2 (by simp [ha]);rw [List.append_assoc]at this;exact this
theorem aSe (m:Mod)(hl:m.funs.length≤1000) :Pure PP 47 [Mod.av m] (.ilst 1 (List.map aA (m.funs.map FunD.nm)) false) :=
 cB (s:=bCB m) (by kernel_rfl) (by kernel_rfl) (by simp [AV.keylessL,yB]) (by simp [AV.keyless]) ((aYW m).ends (aH3 m hl m.funs 0 [] rfl rfl))
def mK (c:ConD) :Con:= ⟨c.name,(List.length c.args:Int)⟩
def fA (m:Mod) :List Con:= (m.datas.map fun d=>d.cons.map mK).flatten
theorem aSf (m:Mod)(d:DataD)(j:Nat)(hj:m.datas[j]?=some d)(hj2:j≤1000)(hd:d.cons.length≤1000) :∀ (t:List ConD) (k:Nat) (acc:List Con),d.cons.drop k=t→acc.length+t.length≤500000 →
  LeadsM PP 0 (aGj m (k:Int) acc (j:Int)).as (aDf m ((j+1:Nat) :Int) (acc++t.map mK)).as
 | [],k,acc,h,ha=>by
  have:=bA h;rw [List.map_nil,List.append_nil];exact aY3 m k acc j d sd sd sd sd
 | c::t,k,acc,h,ha=>by
  obtain⟨q1,q2,q3⟩ :=aZ h;have hk:= (List.getElem?_eq_some_iff.1 q1).1;simp only [List.length_cons]at ha;have h0:=aY2 m k acc j d c sd sd sd sd sd (by simp;omega) sd;have h1:=aSf m d j hj hj2 hd t (k+1) (acc++ [mK c]) q2 (by simp;omega);rw [List.append_assoc]at h1;exact h0.trans h1
theorem aH4 (m:Mod)(hl:m.datas.length≤100)(hd:∀d∈m.datas,d.cons.length≤1000) :∀ (t:List DataD) (i:Nat) (acc:List Con),m.datas.drop i=t→acc.length≤1000*i →
  Ends PP 0 (aDf m (i:Int) acc).as (.ret (.ilst 2 (List.map Con.av (acc++ (t.map fun d=>d.cons.map mK).flatten)) false)) (aG [] 0)
 | [],i,acc,h,ha=>by
  have:=bA h;rw [List.map_nil,List.flatten_nil,List.append_nil];exact aY1 m i acc sd
 | d::t,i,acc,h,ha=>by
  obtain⟨q1,q2,q3⟩ :=aZ h;have hi:= (List.getElem?_eq_some_iff.1 q1).1;have hdl:=hd d (List.mem_of_getElem? q1);have h0:=aY0 m i acc sd;have h1:=aSf m d i q1 (by omega) hdl d.cons 0 acc rfl (by omega);have h2:=aH4 m hl hd t (i+1) (acc++d.cons.map mK) q2 (by simp;omega);rw [List.append_assoc]at h2;exact(h0.trans h1).ends h2
theorem aSg (m:Mod)(hl:m.datas.length≤100)(hd:∀d∈m.datas,d.cons.length≤1000) :Pure PP 48 [Mod.av m] (.ilst 2 (List.map Con.av (fA m)) false) :=
 cB (s:=bCC m) (by kernel_rfl) (by kernel_rfl) (by simp [AV.keylessL,yB]) (by simp [AV.keyless]) ((aYZ m).ends (aH4 m hl hd m.datas 0 [] rfl (by simp)))
theorem aH5 (l:List Con)(hl:l.length≤500000) :∀ (t:List Con) (i:Nat) (acc:List aC),l.drop i=t→acc.length=i→Ends PP 0 (aGk l (i:Int) acc).as (.ret (.ilst 1 (List.map aA (acc++t.map Con.name)) false)) (aG [] 0)
 | [],i,acc,h,ha=>by
  have:=bA h;rw [List.map_nil,List.append_nil];exact aY6 l i acc sd
 | c::t,i,acc,h,ha=>by
  obtain⟨q1,q2,q3⟩ :=aZ h;have hi:= (List.getElem?_eq_some_iff.1 q1).1;refine(aY5 l i acc c sd sd sd (by simp;omega) sd).ends ?_;have:=aH5 l hl t (i+1) (acc++ [c.name]) q2 (by simp [ha]);rw [List.append_assoc]at this;exact this
theorem aSh (l:List Con)(hl:l.length≤500000) :Pure PP 50 [.ilst 2 (List.map Con.av l) false] (.ilst 1 (List.map aA (l.map Con.name)) false) :=
 cB (s:=bCD l) (by kernel_rfl) (by kernel_rfl) (by simp [AV.keylessL,AV.keyless]) (by simp [AV.keyless]) ((aY4 l).ends (aH5 l hl l 0 [] rfl rfl))
def eM (l:List aC)(s:aC) :Nat→Int
 |0=> -1
 |i+1=>if l[i]?=some s then(i:Int)else eM l s i
theorem aH6 (l:List aC)(s:aC) :∀ (i:Nat),i≤l.length→i≤1000000→Ends PP 0 (aGl l s ((i:Int) -1)).as (.ret (.int .i64 (eM l s i))) (aG [] 0)
 |0,_,_=>aZa l s _ (by simp)
 | i +1,hi,hb=>by
  obtain⟨y,hy⟩ :∃y,l[i]?=some y:= ⟨_,List.getElem?_eq_getElem (by omega)⟩;have e: ((i+1:Nat) :Int) -1= (i:Int) :=by omega
  rw [e,eM];by_cases h:y=s
  · subst h;rw [if_pos hy];exact aY8 l y i y (by simp) (by omega) (by rw [Int.toNat_natCast];exact hy) (by rw [hQ];simp)
  · rw [if_neg (by rw [hy];simpa using h)];exact(aY9 l s i y (by simp) (by omega) (by rw [Int.toNat_natCast];exact hy) (by rw [hQ];simpa using h) (by apply wrap64<;>omega)).ends (aH6 l s i (by omega) (by omega))
def dR (l:List aC)(s:aC) :Int:=eM l s l.length
theorem aDk (l:List aC)(s:aC)(hl:l.length≤1000000) :Pure PP 53 [.ilst 1 (List.map aA l) false,aA s] (.int .i64 (dR l s)) :=
 aV (by kernel_rfl) rfl rfl ((aY7 l s (by apply wrap64<;>omega)).ends (aH6 l s l.length (Nat.le_refl _) hl))
theorem aH7 (l:List Con)(s:aC)(hl:l.length<1000000) :∀ (t:List Con) (i:Nat),l.drop i=t→Ends PP 0 (aGm l s (i:Int)).as (.ret (.int .i64 (dY s t i))) (aG [] 0)
 | [],i,h=>by
  have:=bA h;exact aZe l s i sd
 | c ::t,i,h=>by
  obtain⟨q1,q2,q3⟩ :=aZ h;rw [dY];by_cases e:c.name=s
  · rw [if_pos e];exact aZc l s i c sd sd sd (by rw [hQ];simp [e])
  · rw [if_neg e];exact(aZd l s i c sd sd sd (by rw [hQ];simp [e]) sd).ends (aH7 l s hl t (i+1) q2)
theorem mL (l:List Con)(s:aC)(hl:l.length<1000000) :Pure PP 113 [.ilst 2 (List.map Con.av l) false,aA s] (.int .i64 (dY s l 0)) :=
 aV (by kernel_rfl) rfl rfl ((aZb l s).ends (aH7 l s hl l 0 rfl))
theorem aDl (a b:List aC)(h:a.length+b.length≤1000000) :Pure PP 115 [.ilst 1 (List.map aA a) false,.ilst 1 (List.map aA b) false] (.ilst 1 (List.map aA (a++b)) false) :=
 cB (s:=bCE a b) (by kernel_rfl) (by kernel_rfl) (by simp [AV.keylessL,AV.keyless]) (by simp [AV.keyless]) (aZf a b (by omega) (by simp;omega))
def bZ (op:Int)(s:aC)(ps:List Pat)(k:Nat) :List aC:=
 if op=5∨op=27 then [s]else if op=7 then(if k=1 then [s]else [])else if op=15 then(match k with|0=>[] |j+1=>match ps[j]? with|some p=>hI p|none=>[])else []
theorem aDm (o n:Int)(s:aC)(ks:List Term)(ps:List Pat)(k:Nat)(hk:k≤1000)(h15:o=15→k≤ps.length)(hp:∀p∈ps,aQ p≤1000) :Pure PP 116 [Term.av (.mk o n s ks ps),.int .i64 (k:Int)] (.ilst 1 (List.map aA (bZ o s ps k)) false) :=by
 have W:∀ {l:List aC} {x:Bool},Ends PP 0 (aR9 o n s ks ps (k:Int)).as (.ret (.ilst 1 (List.map aA l) x)) (aG [] 0) →Pure PP 116 [Term.av (.mk o n s ks ps),.int .i64 (k:Int)] (.ilst 1 (List.map aA l) false) :=fun {l x} he=>by
  have h0:Pure PP 116 [Term.av (.mk o n s ks ps),.int .i64 (k:Int)] (.ilst 1 (List.map aA l) x) :=cB (s:=aR9 o n s ks ps (k:Int)) (by kernel_rfl) (by kernel_rfl) (by simp [AV.keylessL,gV,AV.keyless]) (by simp [AV.keyless]) he;cases x with
  |false=>exact h0
  |true=>exact aEJ h0 (fun E cv h=>aAf h)
 unfold bZ;by_cases h5:o=5
 ·rw [if_pos (.inl h5)];exact W (aZg o n s ks ps k (by simp [h5]))
 · by_cases h27:o=27
   ·rw [if_pos (.inr h27)];exact W (aZh o n s ks ps k (by simp [h5]) (by simp [h27]))
   · rw [if_neg (by simp [h5,h27])];by_cases h7:o=7
     · rw [if_pos h7];by_cases hk1:k=1
       ·rw [if_pos hk1];exact W (aZi o n s ks ps k (by simp [h5]) (by simp [h27]) (by simp [h7]) (by simp [hk1]))
       ·rw [if_neg hk1];exact W (aZj o n s ks ps k (by simp [h5]) (by simp [h27]) (by simp [h7]) (by simp;omega))
     · rw [if_neg h7];by_cases h15':o=15
       · rw [if_pos h15'];cases k with
         |zero=>exact W (aZl o n s ks ps ((0:Nat) :Int) (by simp [h5]) (by simp [h27]) (by simp [h7]) (by simp [h15']) (by simp))
         | succ j=>
          have hj:=h15 h15';obtain⟨p,hpj⟩ :∃p,ps[j]?=some p:= ⟨_,List.getElem?_eq_getElem (by omega)⟩;have hpp:=aCY p (hp p (List.mem_of_getElem? hpj));simp only [hpj];obtain⟨pf,pn,pt,pq⟩ :=p;have e: ((j+1:Nat) :Int) -1= (j:Int) :=by omega
          exact W (aZk o n s ks ps ((j+1:Nat) :Int) pf pn pt pq _ (by simp [h5]) (by simp [h27]) (by simp [h7]) (by simp [h15']) (by simp) (by apply wrap64<;>omega) (by omega) (by rw [e,Int.toNat_natCast];exact hpj) hpp)
       ·rw [if_neg h15'];exact W (aZm o n s ks ps k (by simp [h5]) (by simp [h27]) (by simp [h7]) (by simp [h15']))
end Go.Hb
