/- A machine on abstract values, its soundness, ways, plain laws. -/
import Derived.Test.YtabmpnmmkeieiaaGreatHF
import Derived.Test.YtabmpnmmkeieiaaGreatHG
import Derived.Test.YtabmpnmmkeieiaaGreatHI
import Derived.Test.YtabmpnmmkeieiaaGreatHJ
import Derived.Test.YtabmpnmmkeieiaaGreatHK
import Derived.Test.YtabmpnmmkeieiaaGreatHL
set_option linter.defProp false
set_option linter.unusedVariables false
set_option linter.unusedSimpArgs false
set_option linter.unusedSectionVars false
set_option maxRecDepth 100000
set_option maxHeartbeats 4000000
namespace Go.Hb
open AV (agg int keyless keylessL)
open Bool (and_eq_true)
open Int (tdiv tmod toNat toNat_natCast)
open List (append_assoc append_nil drop length length_cons length_map length_set map mem_of_getElem? set take)
open Terms (av)
open Go.Proofs Tryz
noncomputable section
abbrev nL :aB:=strOf [109,97,105,110]
theorem aJo :∀ks:List Term,ks.length≤cZ ks
 | [] =>Nat.zero_le _
 | k::ks=>by
  have:=aJo ks;obtain⟨_,_,_,_,_⟩ :=k;simp only [cZ,fA,length_cons];omega
def aHC(a:aB)(b:List aB)(c:Int):TS:=⟨(tf 168 31 [(0,(aA a)),(1,(iS b)),(4,(.str 0 0)),(5,(nI c))] [kc f168 52,kl f168 52,.inBlock 0,kc f168 7]),[],[],0⟩
def bD6(a b:Int)(c:aB)(d:List Pat)(e:List aB):TS:=bQ PP 169 [(.agg [(nI a),(nI b),(aA c),(iP d)]),(iS e)] [] 0
def aHD(b c:Int)(i:aB)(d:List Pat)(e:List aB)(f:aB)(g:Int)(a:List Pat):TS:=⟨(tf 169 32 [(1,(iS e)),kp 2 0,kp 4 1,(5,(.gl 2 4 0 a.length false)),(6,(nI g))] [kc f169 244,kl f169 244,.inBlock 0,kc f169 31]),[],[oC 0 [(nI b),(nI c),(aA f),(iP d)],oC 1 [(nI 0),(nI 0),(.str 0 0),.nils],oL 2 4 (Pats.av a)],3⟩
def bD7(a b:Int)(c:aB)(d:List Term)(e:List Pat)(f:List aB):TS:=bQ PP 96 [(.agg [(nI a),(nI b),(aA c),(.ilst 5 (av d) false),(iP e)]),(iS f)] [] 0
def aHE(b c:Int)(j:aB)(d:List Term)(e:List Pat)(f:List aB)(g:aB)(i:Int)(a:List Term):TS:=⟨(tf 96 53 [(1,(iS f)),kp 2 0,kp 4 1,(5,(.gl 2 5 0 a.length false)),(6,(nI i))] [kc f96 244,kl f96 244,.inBlock 0,kc f96 31]),[],[oC 0 [(nI b),(nI c),(aA g),(.ilst 5 (av d) false),(iP e)],oC 1 [(nI 0),(nI 0),(.str 0 0),.nils,.nils],oL 2 5 (av a)],3⟩
def aHF(c d:Int)(k:aB)(e:List Term)(f:List Pat)(g:List aB)(i:aB)(a:List Term)(j:Int)(b:List Pat):TS:=⟨(tf 96 53 [(1,(iS g)),kp 2 0,kp 4 1,(5,(.gl 2 5 0 a.length false)),(7,(.gl 3 4 0 b.length false)),(8,(nI j))] [kc f96 1012,kl f96 1012,.inBlock 2,kc f96 127]),[],[oC 0 [(nI c),(nI d),(aA i),(.ilst 5 (av e) false),(iP f)],oC 1 [(nI 0),(nI 0),(.str 0 0),.nils,.nils],oL 2 5 (av a),oL 3 4 (Pats.av b)],4⟩
def bD8(a b:Int)(c:aB)(d:List Pat)(e f:aB):TS:=bQ PP 215 [(.agg [(nI a),(nI b),(aA c),(iP d)]),(aA e),(aA f)] [] 0
def aBP(b c:Int)(j:aB)(d:List Pat)(e f g:aB)(i:Int)(a:List Pat):TS:=⟨(tf 215 41 [(1,(aA e)),(2,(aA f)),kp 3 0,kp 6 1,(7,(.gl 2 4 0 a.length false)),(8,(nI i))] [kc f215 244,kl f215 244,.inBlock 0,kc f215 31]),[],[oC 0 [(nI b),(nI c),(aA g),(iP d)],oC 1 [(nI 0),(nI 0),(.str 0 0),.nils],oL 2 4 (Pats.av a)],3⟩
def bD9(a b:Int)(c:aB)(d:List Term)(e:List Pat)(f g:aB):TS:=bQ PP 214 [(.agg [(nI a),(nI b),(aA c),(.ilst 5 (av d) false),(iP e)]),(aA f),(aA g)] [] 0
def aEf(b c:Int)(d:aB)(e:List Term)(f:List Pat)(g i:aB)(j:Int)(a:List Term):TS:=⟨(tf 214 49 [(1,(aA g)),(2,(aA i)),kp 3 0,kp 6 1,(7,(.gl 2 5 0 a.length false)),(8,(nI j))] [kc f214 244,kl f214 244,.inBlock 0,kc f214 31]),[],[oC 0 [(nI b),(nI c),(aA d),(.ilst 5 (av e) false),(iP f)],oC 1 [(nI 0),(nI 0),(.str 0 0),.nils,.nils],oL 2 5 (av a)],3⟩
def bEa(a b:Int)(c:aB)(d:List Term)(e:List Pat)(f:Int)(g i:aB):TS:=bQ PP 164 [(.agg [(nI a),(nI b),(aA c),(.ilst 5 (av d) false),(iP e)]),(nI f),(aA g),(aA i)] [] 0
def bEb(a:List aB)(b:aB):TS:=bQ PP 167 [(iS a),(aA b)] [] 0
def aHG(a:List aB)(b:aB)(c:Int):TS:=⟨(tf 167 44 [(0,(iS a)),(1,(aA b)),(4,.nils),(5,(nI c))] [kc f167 56,kl f167 56,.inBlock 0,kc f167 15]),[],[],0⟩
def bEc(a b:Int)(c:aB)(d:List Term)(e:List Pat):TS:=bQ PP 95 [(.agg [(nI a),(nI b),(aA c),(.ilst 5 (av d) false),(iP e)])] [] 0
def aEg(a b:Int)(c:aB)(d:List Term)(e:List Pat)(f:Int)(g:List aB):TS:=⟨(tf 95 50 [kp 1 0,(2,.nils),(3,(iS g)),(4,(nI f))] [kc f95 244,kl f95 244,.inBlock 0,kc f95 31]),[],[oC 0 [(nI a),(nI b),(aA c),(.ilst 5 (av d) false),(iP e)]],1⟩
def aEh(a b:Int)(c:aB)(d:List Term)(e:List Pat)(f g i:List aB)(j k:Int):TS:=⟨(tf 95 50 [kp 1 0,(2,.nils),(3,(iS i)),(4,(nI k)),(5,(iS f)),(6,(iS g)),(7,(nI j))] [kc f95 31308,kl f95 31308,.inBlock 2,.inBlock 1,kc f95 979,kl f95 244,.inBlock 0,kc f95 31]),[],[oC 0 [(nI a),(nI b),(aA c),(.ilst 5 (av d) false),(iP e)]],1⟩
def bEd(a:Int):=tT 0 (start PP 216 [(nI a)])<|gd 10 4 (a<26) (gw 5 6 (97+a)<|.i [rn 1,.set 7 (.int .u8 (97+a))] [.a ((IntKind.u8.wrap (97+a)) = (97+a)) (congrArg (int .u8))]<|.i [rn 1,.ans (.ev (aA (kF (97+a))))] [hA (jO [(.int .u8 (97+a))] =some (aA (kF (97+a))))]<|gE 3 1 (aA (kF (97+a))))<|.y fun b:aB=>.i [rn 3,.reg (.d::.ans (.ev (nI (tdiv a 26)))::.d::.pure (aA b)::.d::.ans (.ev (nI (tmod a 26)))::rd 3 [.own (aA (kF (IntKind.u8.wrap (IntKind.i64.wrap (97+ (tmod a 26)))))),.ans (.ev (aA (b++ (kF (IntKind.u8.wrap (IntKind.i64.wrap (97+ (tmod a 26)))))))),.d])] [hA (rJ PP .quo 3 (nI a) (nI 26) false true=some (nI (tdiv a 26))),hA (Pure PP 216 [(nI (IntKind.i64.wrap ((tdiv a 26) -1)))] (aA b)),hA (rJ PP .rem 3 (nI a) (nI 26) false true=some (nI (tmod a 26))),hA (jO [(.int .u8 (IntKind.u8.wrap (IntKind.i64.wrap (97+ (tmod a 26)))))] =some (aA (kF (IntKind.u8.wrap (IntKind.i64.wrap (97+ (tmod a 26))))))),hA (rJ PP .add 9 (aA b) (aA (kF (IntKind.u8.wrap (IntKind.i64.wrap (97+ (tmod a 26)))))) false false=some (aA (b++ (kF (IntKind.u8.wrap (IntKind.i64.wrap (97+ (tmod a 26)))))))),hr (int .u8 (IntKind.u8.wrap (IntKind.i64.wrap (97+ (tmod a 26))))),hr (int .u8 (IntKind.u8.wrap (IntKind.i64.wrap (97+ (tmod a 26)))))]<|gE 1 1 (aA (b++ (kF (IntKind.u8.wrap (IntKind.i64.wrap (97+ (tmod a 26)))))))
def bAH:=fun a b c d e=>bEd a|>.t b c d e tv
def bAI:=fun a b c d e f g i=>bEd a|>.f c b d e f g i tv
def bAJ (b:Int):=fun a c d=>(tT 0 (start PP 165 [(nI b)])<|gpS 7 216 [(nI b)]<|fun a=>.i [.ans (.ev (aA (strOf [35] ++a)))] [hA (rJ PP .add 9 (.str 1 35) (aA a) true false=some (aA (strOf [35] ++a)))]<|gE 3 0 (aA (strOf [35] ++a))) a c d tv
def bAK (a:aB)(b:List aB):=(tT 0 (start PP 168 [(aA a),(iS b)])<|.W 11 0 [] (aHC a b 0)) tv
def aJp(a:aB)(c:List aB)(b:Int):=tT 0 (aHC a c b)<|gl 5 aA c<|gd 2 10 (b< (c.length:Int)) (gd 5 15 ((a.length:Int) >0) (.y fun d:UInt8=>.i [rn 1,.ans (.ev (.int .u8 ((d.toNat:Nat) :Int)))] [.q (p:=0≤ (0:Int)) (by decide),.a ((a)[0]?=some d) (p':=(0:Int) < (a.length:Int)) (fun h=>(zE (k:= (0:Int)) (by decide) h)),.a ((a)[0]?=some d) (p':=int .u8 ((Nat.mod (Nat.div (aD a) (Nat.pow 256 (0:Int).toNat)) 256:Nat) :Int) = (.int .u8 ((d.toNat:Nat) :Int))) (fun h=>(zF (k:= (0:Int)) h))]<|.b 3 19 (((d.toNat:Nat) :Int) == (35:Int)) (gpS 8 165 [(nI b)]<|fun e=>.b 2 25 (bA a.length (aD a) e.length (aD e)) (gX aA 5 c b<|fun f=>gE 4 0 (aA f))<|gw 6 21 (b+ (1:Int))<|.W 3 0 [] (aHC a c (b+ (1:Int))))<|gE 8 0 (aA a))<|gE 13 0 (aA a))<|gE 18 0 (aA a)
def bAL:=fun b c d e f g i j a k l m n o=>aJp b c d|>.t i|>.t j e a a|>.t k f l|>.t m g n o tv
def bAM:=fun b c d e f g i a j k l m=>aJp b c d|>.t g|>.t i e a a|>.t j f k|>.f l m tv
def bAN:=fun b c d e f g a i=>aJp b c d|>.t f|>.t g e a a|>.f i tv
def bAO:=fun a b c d e=>aJp a b c|>.t d|>.f e tv
def bAP:=fun a b c d=>aJp a b c|>.f d tv
def bAQ (d e:Int)(a:aB)(f:List Pat)(b:List aB):=fun c g=>(tT 0 (bD6 d e a f b)<|gpS 10 168 [(aA a),(iS b)]<|fun c=>.i [rn 14,.nilL 5 4] []<|gu 0 2 (Pats.av ([] :List Pat))<|gs 0 5 (.gl 2 4 0 ([] :List Pat).length false)<|.W 0 3 [0,1,2] (aHD d e a f b c 0 ([] :List Pat))) c g ⟨hY,trivial⟩
def bEe(d e:Int)(m:aB)(a:List Pat)(f:List aB)(g:aB)(b:Int)(c:List Pat):=tT 0 (aHD d e m a f g b c)<|gm 6 aJ a<|gd 2 16 (b< (a.length:Int)) (xM 9 a b<|fun n o p q=>.y fun i:Int=>.y fun j:Int=>.y fun k:aB=>.y fun l:List Pat=>gp 2 169 [(.agg [(nI n),(nI o),(aA p),(iP q)]),(iS f)] (.agg [(nI i),(nI j),(aA k),(iP l)])<|gA 1 aJ c [(Pat.mk i j k l)]<|gw 6 18 (b+1)<|.W 3 5 [0,1,4] (aHD d e m a f g (b+1) (c++ [(Pat.mk i j k l)])))<|gY 14 1 3 2 4 aJ hY c false<|gE 0 3 (.agg [(nI d),(nI e),(aA g),(iP c)])
def bAR:=fun a b c d e f g i j k l m n o p q r s t u v w=>bEe a b c d e f g i|>.t r j k l m s t n o p q u v w ⟨hY,trivial⟩
def bAS:=fun a b c d e f g i j=>bEe a b c d e f g i|>.f j tv
def bAT (d e:Int)(a:aB)(f:List Term)(g:List Pat)(b:List aB):=fun c i=>(tT 0 (bD7 d e a f g b)<|gpS 10 168 [(aA a),(iS b)]<|fun c=>.i [rn 14,.nilL 5 5] []<|gu 0 2 (av ([] :List Term))<|gs 0 5 (.gl 2 5 0 ([] :List Term).length false)<|.W 0 3 [0,1,2] (aHE d e a f g b c 0 ([] :List Term))) c i ⟨fU,trivial⟩
def bEf(e f:Int)(g:aB)(a:List Term)(i:List Pat)(c:List aB)(j:aB)(b:Int)(d:List Term):=tT 0 (aHE e f g a i c j b d)<|gm 6 aU a<|gd 2 18 (b< (a.length:Int)) (aAP 9 a b<|fun p q r s t=>.y fun k:Int=>.y fun l:Int=>.y fun m:aB=>.y fun n:List Term=>.y fun o:List Pat=>gp 2 96 [(.agg [(nI p),(nI q),(aA r),(.ilst 5 (av s) false),(iP t)]),(iS c)] (.agg [(nI k),(nI l),(aA m),(.ilst 5 (av n) false),(iP o)])<|gA 1 aU d [(Term.mk k l m n o)]<|gw 6 20 (b+1)<|.W 3 5 [0,1,4] (aHE e f g a i c j (b+1) (d++ [(Term.mk k l m n o)])))<|.i [rn 13,.nilL 7 4] []<|gu 0 3 (Pats.av ([] :List Pat))<|gs 0 7 (.gl 3 4 0 ([] :List Pat).length false)<|.W 0 4 [0,1,2,3] (aHF e f g a i c j d 0 ([] :List Pat))
def bAU:=fun a b c d e f g i j k l m n o p q r s t u v w x y z=>bEf a b c d e f g i j|>.t u k l m n o v w p q r s t x y z ⟨fU,trivial⟩
def bAV:=fun a b c d e f g i j k=>bEf a b c d e f g i j|>.f k ⟨fU,⟨hY,trivial⟩⟩
def bEg(e f:Int)(n:aB)(o:List Term)(a:List Pat)(g:List aB)(i:aB)(d:List Term)(b:Int)(c:List Pat):=tT 0 (aHF e f n o a g i d b c)<|gm 6 aJ a<|gd 2 35 (b< (a.length:Int)) (xM 9 a b<|fun p q r s=>.y fun j:Int=>.y fun k:Int=>.y fun l:aB=>.y fun m:List Pat=>gp 2 169 [(.agg [(nI p),(nI q),(aA r),(iP s)]),(iS g)] (.agg [(nI j),(nI k),(aA l),(iP m)])<|gA 1 aJ c [(Pat.mk j k l m)]<|gw 6 37 (b+1)<|.W 3 6 [0,1,2,5] (aHF e f n o a g i d (b+1) (c++ [(Pat.mk j k l m)])))<|gY 17 1 3 2 5 aU fU d false<|gY 0 1 4 3 4 aJ hY c false<|gE 0 4 (.agg [(nI e),(nI f),(aA i),(.ilst 5 (av d) false),(iP c)])
def bAW:=fun a b c d e f g i j k l m n o p q r s t u v w x y=>bEg a b c d e f g i j k|>.t t l m n o u v p q r s w x y ⟨fU,⟨hY,trivial⟩⟩
def bAX:=fun a b c d e f g i j k l=>bEg a b c d e f g i j k|>.f l tv
def aTa(c e:Int)(a:aB)(f:List Pat)(b d:aB):=tT 0 (bD8 c e a f b d)<|.b 12 12 (c==2) (.b 6 17 (bA a.length (aD a) b.length (aD b)) (.i [rn 17,.nilL 7 4] []<|gu 0 2 (Pats.av ([] :List Pat))<|gs 0 7 (.gl 2 4 0 ([] :List Pat).length false)<|.W 0 3 [0,1,2] (aBP c e a f b d d 0 ([] :List Pat)))<|.i [rn 13,.nilL 7 4] []<|gu 0 2 (Pats.av ([] :List Pat))<|gs 0 7 (.gl 2 4 0 ([] :List Pat).length false)<|.W 0 3 [0,1,2] (aBP c e a f b d a 0 ([] :List Pat)))<|.i [rn 19,.nilL 7 4] []<|gu 0 2 (Pats.av ([] :List Pat))<|gs 0 7 (.gl 2 4 0 ([] :List Pat).length false)<|.W 0 3 [0,1,2] (aBP c e a f b d a 0 ([] :List Pat))
def bAY:=fun a b c d e f g i=>aTa a b c d e f|>.t g|>.t i ⟨hY,trivial⟩
def bAZ:=fun a b c d e f g i=>aTa a b c d e f|>.t g|>.f i ⟨hY,trivial⟩
def bA0:=fun a b c d e f g=>aTa a b c d e f|>.f g ⟨hY,trivial⟩
def bEh(d e:Int)(n:aB)(a:List Pat)(f g i:aB)(b:Int)(c:List Pat):=tT 0 (aBP d e n a f g i b c)<|gm 6 aJ a<|gd 2 24 (b< (a.length:Int)) (xM 9 a b<|fun o p q r=>.y fun j:Int=>.y fun k:Int=>.y fun l:aB=>.y fun m:List Pat=>gp 3 215 [(.agg [(nI o),(nI p),(aA q),(iP r)]),(aA f),(aA g)] (.agg [(nI j),(nI k),(aA l),(iP m)])<|gA 1 aJ c [(Pat.mk j k l m)]<|gw 6 26 (b+1)<|.W 3 5 [0,1,4] (aBP d e n a f g i (b+1) (c++ [(Pat.mk j k l m)])))<|gY 14 1 3 2 4 aJ hY c false<|gE 0 3 (.agg [(nI d),(nI e),(aA i),(iP c)])
def bA1:=fun a b c d e f g i j k l m n o p q r s t u v w x=>bEh a b c d e f g i j|>.t s k l m n t u o p q r v w x ⟨hY,trivial⟩
def bA2:=fun a b c d e f g i j k=>bEh a b c d e f g i j|>.f k tv
def aTb(a c:Int)(b:aB)(d:List Term)(e:List Pat)(f g:aB):=tT 0 (bD9 a c b d e f g)<|.b 12 12 (a==4) (.b 9 16 (bA b.length (aD b) f.length (aD f)) (gE 12 2 (.agg [(nI a),(nI c),(aA g),(.ilst 5 (av d) false),(iP e)]))<|gE 8 2 (.agg [(nI a),(nI c),(aA b),(.ilst 5 (av d) false),(iP e)]))<|.i [rn 13,.nilL 7 5] []<|gu 0 2 (av ([] :List Term))<|gs 0 7 (.gl 2 5 0 ([] :List Term).length false)<|.W 0 3 [0,1,2] (aEf a c b d e f g 0 ([] :List Term))
def bA3:=fun a b c d e f g i j=>aTb a b c d e f g|>.t i|>.t j tv
def bA4:=fun a b c d e f g i j=>aTb a b c d e f g|>.t i|>.f j tv
def bA5:=fun a b c d e f g i=>aTb a b c d e f g|>.f i ⟨fU,trivial⟩
def aTc(d e:Int)(f:aB)(b:List Term)(g:List Pat)(i j:aB)(a:Int)(c:List Term):=tT 0 (aEf d e f b g i j a c)<|gm 6 aU b<|gd 2 24 (a< (b.length:Int)) (aAP 9 b a<|fun k l m n o=>.y fun u:List aB=>gp 9 116 [(.agg [(nI d),(nI e),(aA f),(.ilst 5 (av b) false),(iP g)]),(nI a)] (iS u)<|dR 1 51 [(iS u),(aA i)]<|fun v=>.b 2 37 (!v) (.y fun p:Int=>.y fun q:Int=>.y fun r:aB=>.y fun s:List Term=>.y fun t:List Pat=>gp 5 214 [(.agg [(nI k),(nI l),(aA m),(.ilst 5 (av n) false),(iP o)]),(aA i),(aA j)] (.agg [(nI p),(nI q),(aA r),(.ilst 5 (av s) false),(iP t)])<|gA 6 aU c [(Term.mk p q r s t)]<|gw 6 26 (a+1)<|.W 3 6 [0,1,5] (aEf d e f b g i j (a+1) (c++ [(Term.mk p q r s t)])))<|gA 6 aU c [(Term.mk k l m n o)]<|gw 6 26 (a+1)<|.W 3 6 [0,1,5] (aEf d e f b g i j (a+1) (c++ [(Term.mk k l m n o)])))<|gY 14 1 3 2 5 aU fU c false<|gE 0 3 (.agg [(nI d),(nI e),(aA f),(.ilst 5 (av c) false),(iP g)])
def bA6:=fun a b c d e f g i j k l m n o p q r s t u v w x y z A B C D F=>aTc a b c d e f g i j|>.t w k l m n o x y p z q A|>.t B r s t u v C D F ⟨fU,trivial⟩
def bA7:=fun a b c d e f g i j k l m n o p q r s t u v w x y=>aTc a b c d e f g i j|>.t r k l m n o s t p u q v|>.f w x y ⟨fU,trivial⟩
def bA8:=fun a b c d e f g i j k=>aTc a b c d e f g i j|>.f k tv
def bEi(n y:Int)(A:aB)(b:List Term)(c:List Pat)(a:Int)(z o:aB):=tT 0 (bEa n y A b c a z o)<|.i [rn 9,.appN (av b) b.length] [hA (b.length≤1000000),hr (av b),.q (p:=length (av b) =b.length) (aAK aU _)]<|.i [rn 8,.ans (.ix)] [hA (0≤a),hA (a< (b.length:Int))]<|.y fun p:Int=>.y fun q:Int=>.y fun r:aB=>.y fun s:List Term=>.y fun t:List Pat=>gjF aU 0 b a.toNat (Term.mk p q r s t)<|.y fun d:Int=>.y fun e:Int=>.y fun f:aB=>.y fun g:List Term=>.y fun i:List Pat=>gp 2 214 [(.agg [(nI p),(nI q),(aA r),(.ilst 5 (av s) false),(iP t)]),(aA z),(aA o)] (.agg [(nI d),(nI e),(aA f),(.ilst 5 (av g) false),(iP i)])<|.i [rn 9,.ans (.ix)] [hA (0≤a),hA (a< (b.length:Int))]<|.i [.st (Term.av (Term.mk p q r s t)) (Term.av (Term.mk d e f g i))] [.a (((b)[a.toNat]?) =some (Term.mk p q r s t)) (rX aU),hr (some (Term.av (Term.mk d e f g i)))]<|.i [.lset 2 (av (set b a.toNat (Term.mk d e f g i)))] [.q (p:=(av b).set (0+a.toNat) (Term.av (Term.mk d e f g i)) = (av (set b a.toNat (Term.mk d e f g i)))) (wZ aU _ _ _)]<|.i [.set 13 (.gl 2 5 0 (set b a.toNat (Term.mk d e f g i)).length false)] [.q (p:=(AV.gl 2 5 0 b.length false) = (.gl 2 5 0 (set b a.toNat (Term.mk d e f g i)).length false)) (dY (length_set ..).symm)]<|.i [.set 16 (.gl 2 5 0 (set b a.toNat (Term.mk d e f g i)).length false)] [.q (p:=(AV.gl 2 5 0 b.length false) = (.gl 2 5 0 (set b a.toNat (Term.mk d e f g i)).length false)) (dY (length_set ..).symm)]<|.i [.set 24 (.gl 2 5 0 (set b a.toNat (Term.mk d e f g i)).length false)] [.q (p:=(AV.gl 2 5 0 b.length false) = (.gl 2 5 0 (set b a.toNat (Term.mk d e f g i)).length false)) (dY (length_set ..).symm)]<|.b 8 30 (n==15) (.i [rn 5,.appN (Pats.av c) c.length] [hA (c.length≤1000000),hr (Pats.av c),.q (p:=length (Pats.av c) =c.length) (aAK aJ _)]<|gw 9 38 (a-1)<|.i [.ans (.ix)] [hA (0≤ (a-1)),hA ((a-1) < (c.length:Int))]<|.y fun u:Int=>.y fun v:Int=>.y fun w:aB=>.y fun x:List Pat=>gjF aJ 0 c ((a-1).toNat) (Pat.mk u v w x)<|.y fun j:Int=>.y fun k:Int=>.y fun l:aB=>.y fun m:List Pat=>gp 2 215 [(.agg [(nI u),(nI v),(aA w),(iP x)]),(aA z),(aA o)] (.agg [(nI j),(nI k),(aA l),(iP m)])<|gw 8 47 (a-1)<|.i [rn 1,.ans (.ix)] [hA (0≤ (a-1)),hA ((a-1) < (c.length:Int))]<|.i [.st (Pat.av (Pat.mk u v w x)) (Pat.av (Pat.mk j k l m))] [.a (((c)[(a-1).toNat]?) =some (Pat.mk u v w x)) (rX aJ),hr (some (Pat.av (Pat.mk j k l m)))]<|.i [.lset 4 (Pats.av (set c ((a-1).toNat) (Pat.mk j k l m)))] [.q (p:=(Pats.av c).set (0+ (a-1).toNat) (Pat.av (Pat.mk j k l m)) = (Pats.av (set c ((a-1).toNat) (Pat.mk j k l m)))) (wZ aJ _ _ _)]<|.i [.set 33 (.gl 4 4 0 (set c ((a-1).toNat) (Pat.mk j k l m)).length false)] [.q (p:=(AV.gl 4 4 0 c.length false) = (.gl 4 4 0 (set c ((a-1).toNat) (Pat.mk j k l m)).length false)) (dY (length_set ..).symm)]<|.i [.set 36 (.gl 4 4 0 (set c ((a-1).toNat) (Pat.mk j k l m)).length false)] [.q (p:=(AV.gl 4 4 0 c.length false) = (.gl 4 4 0 (set c ((a-1).toNat) (Pat.mk j k l m)).length false)) (dY (length_set ..).symm)]<|.i [.set 45 (.gl 4 4 0 (set c ((a-1).toNat) (Pat.mk j k l m)).length false)] [.q (p:=(AV.gl 4 4 0 c.length false) = (.gl 4 4 0 (set c ((a-1).toNat) (Pat.mk j k l m)).length false)) (dY (length_set ..).symm)]<|.i [rn 3,.cset 0 3 (.gl 2 5 0 (set b a.toNat (Term.mk d e f g i)).length false)] [.a ((set b a.toNat (Term.mk d e f g i)).length=b.length) (p':=(AV.gl 2 5 0 b.length false) = (.gl 2 5 0 (set b a.toNat (Term.mk d e f g i)).length false)) (fun h=>(dY h.symm))]<|.i [.cset 0 4 (.gl 4 4 0 (set c ((a-1).toNat) (Pat.mk j k l m)).length false)] [.a ((set c ((a-1).toNat) (Pat.mk j k l m)).length=c.length) (p':=(AV.gl 4 4 0 c.length false) = (.gl 4 4 0 (set c ((a-1).toNat) (Pat.mk j k l m)).length false)) (fun h=>(dY h.symm))]<|gY 4 1 3 2 5 aU fU (set b a.toNat (Term.mk d e f g i)) false<|gY 0 1 4 4 4 aJ hY (set c ((a-1).toNat) (Pat.mk j k l m)) false<|gE 0 6 (.agg [(nI n),(nI y),(aA A),(.ilst 5 (av (set b a.toNat (Term.mk d e f g i))) false),(iP (set c ((a-1).toNat) (Pat.mk j k l m)))]))<|.i [rn 8,.cset 0 3 (.gl 2 5 0 (set b a.toNat (Term.mk d e f g i)).length false)] [.a ((set b a.toNat (Term.mk d e f g i)).length=b.length) (p':=(AV.gl 2 5 0 b.length false) = (.gl 2 5 0 (set b a.toNat (Term.mk d e f g i)).length false)) (fun h=>(dY h.symm))]<|gY 4 1 3 2 5 aU fU (set b a.toNat (Term.mk d e f g i)) false<|gE 0 4 (.agg [(nI n),(nI y),(aA o),(.ilst 5 (av (set b a.toNat (Term.mk d e f g i))) false),(iP c)])
def bA9:=fun i j k l m n o p q r s t u v w x y z A B C D F G H I J a b c K L M d e f g N O Q=>bEi i j k l m n o p J a b q r s t u c v w x y z K a b c|>.t L M d e f A B C D g F G H I N d e f g O Q tv
def bBa:=fun d e f g i j k l m n o p q r s t u v w a b c x y z=>bEi d e f g i j k l w a b m n o p q c r s t u v x a b c|>.f y z tv
def bBb (a:List aB)(b:aB):=(tT 0 (bEb a b)<|.W 11 0 [] (aHG a b 0)) tv
def aHH(b:List aB)(c:aB)(a:Int):=tT 0 (aHG b c a)<|gl 5 aA b<|gd 2 10 (a< (b.length:Int)) (gX aA 2 b a<|fun d=>.b 5 17 (Op.bytesLess (aW d.length (aD d)) (aW c.length (aD c))) (gw 6 19 (a+1)<|.W 4 0 [] (aHG b c (a+1)))<|gl 7 aA b<|gd 2 24 (a< (b.length:Int)) (gi aA 2 b a d<|.b 5 31 (bA d.length (aD d) c.length (aD c)) (gE 7 0 (iS b))<|.i [rn 3,.reg [.d,.d,.ans (.ev (iS (take a.toNat b))),.app (map aA (take a.toNat b)) (take a.toNat b).length,.d,.d,.app (map aA ((take a.toNat b) ++ [c])) ((take a.toNat b) ++ [c]).length,.d,.d,.ans (.ev (iS (drop a.toNat b))),.app (map aA (((take a.toNat b) ++ [c]) ++ (drop a.toNat b))) (((take a.toNat b) ++ [c]) ++ (drop a.toNat b)).length,.d]] [.a (0≤a∧a.toNat≤length b) (p':=uB PP 92 (iS b) none (some (nI a)) (iS (take a.toNat b))) fun⟨ha,hb⟩=>(aDO (k:=a) (by kernel_rfl) ha hb),hA (length (take a.toNat b) ≤1000000),hr (map aA (take a.toNat b)),.q (p:=length (map aA (take a.toNat b)) =length (take a.toNat b)) (length_map ..),hb aA (take a.toNat b),hA (length ((take a.toNat b) ++ [c]) ≤1000000),hc aA (take a.toNat b) [c],he aA (take a.toNat b) [c],.a (0≤a∧a.toNat≤length b) (p':=uB PP 92 (iS b) (some (nI a)) none (iS (drop a.toNat b))) fun⟨ha,hb⟩=>(aDP (k:=a) (by kernel_rfl) ha hb),hb aA ((take a.toNat b) ++ [c]),hA (length (((take a.toNat b) ++ [c]) ++ (drop a.toNat b)) ≤1000000),hc aA ((take a.toNat b) ++ [c]) (drop a.toNat b),he aA ((take a.toNat b) ++ [c]) (drop a.toNat b)]<|gz 1 4 3 1 aA (((take a.toNat b) ++ [c]) ++ (drop a.toNat b)) false<|gE 0 4 (iS (((take a.toNat b) ++ [c]) ++ (drop a.toNat b)))) .x)<|gl 15 aA b<|gd 2 24 (a< (b.length:Int)) .x<|.i [rn 11,.reg [.d,.d,.ans (.ev (iS (take a.toNat b))),.app (map aA (take a.toNat b)) (take a.toNat b).length,.d,.d,.app (map aA ((take a.toNat b) ++ [c])) ((take a.toNat b) ++ [c]).length,.d,.d,.ans (.ev (iS (drop a.toNat b))),.app (map aA (((take a.toNat b) ++ [c]) ++ (drop a.toNat b))) (((take a.toNat b) ++ [c]) ++ (drop a.toNat b)).length,.d]] [.a (0≤a∧a.toNat≤length b) (p':=uB PP 92 (iS b) none (some (nI a)) (iS (take a.toNat b))) fun⟨ha,hb⟩=>(aDO (k:=a) (by kernel_rfl) ha hb),hA (length (take a.toNat b) ≤1000000),hr (map aA (take a.toNat b)),.q (p:=length (map aA (take a.toNat b)) =length (take a.toNat b)) (length_map ..),hb aA (take a.toNat b),hA (length ((take a.toNat b) ++ [c]) ≤1000000),hc aA (take a.toNat b) [c],he aA (take a.toNat b) [c],.a (0≤a∧a.toNat≤length b) (p':=uB PP 92 (iS b) (some (nI a)) none (iS (drop a.toNat b))) fun⟨ha,hb⟩=>(aDP (k:=a) (by kernel_rfl) ha hb),hb aA ((take a.toNat b) ++ [c]),hA (length (((take a.toNat b) ++ [c]) ++ (drop a.toNat b)) ≤1000000),hc aA ((take a.toNat b) ++ [c]) (drop a.toNat b),he aA ((take a.toNat b) ++ [c]) (drop a.toNat b)]<|gz 1 4 3 1 aA (((take a.toNat b) ++ [c]) ++ (drop a.toNat b)) false<|gE 0 4 (iS (((take a.toNat b) ++ [c]) ++ (drop a.toNat b)))
def bBc:=fun a b c d e f g i j=>aHH a b c|>.t e d f g|>.t i j tv
def bBd:=fun d e f g a b c i j=>aHH d e f|>.t a g b c|>.f i|>.t a b c|>.t j tv
def bBe:=fun e f g i b a c j k d l m n=>aHH e f g|>.t b i a c|>.f j|>.t b a c|>.f k ⟨a,d⟩ l m ⟨a,d⟩ n tv
def bBf:=fun d e f a b c g i j=>aHH d e f|>.f a|>.f a ⟨b,c⟩ g i ⟨b,c⟩ j tv
def aTd(b c:Int)(a:aB)(d:List Term)(e:List Pat):=tT 0 (bEc b c a d e)<|.b 12 10 (b==4) (.i [rn 9,.toL 2 false [(aA a)]] [hr (some [(aA a)]),hr true]<|gu 0 1 (map aA [a])<|gs 0 2 (.gl 1 1 0 [a].length true)<|.i [.weak 2] []<|gz 0 2 1 1 aA [a] false<|gE 0 2 (iS [a]))<|.i [rn 13,.nilL 3 1] []<|gu 0 1 (map aA ([] :List aB))<|gs 0 3 (.gl 1 1 0 ([] :List aB).length false)<|gz 0 3 1 1 aA ([] :List aB) false<|.W 0 2 [0] (aEg b c a d e 0 ([] :List aB))
def bBg:=fun a b c d e f=>aTd a b c d e|>.t f tv
def bBh:=fun a b c d e f=>aTd a b c d e|>.f f tv
def aTe(c d:Int)(e:aB)(a:List Term)(f:List Pat)(b:Int)(g:List aB):=tT 0 (aEg c d e a f b g)<|gm 6 aU a<|gd 2 18 (b< (a.length:Int)) (.y fun i:Int=>.y fun j:Int=>.y fun k:aB=>.y fun l:List Term=>.y fun m:List Pat=>.y fun n:List aB=>.y fun o:List aB=>.i [rn 5,.reg (rd 3 [.ans (.idx (Term.av (Term.mk i j k l m))),.d,.pure (iS n),.d,.d,.pure (iS o),.d,.d])] [hA (0≤b),.a (((a)[b.toNat]?) =some (Term.mk i j k l m)) (eX aU),hA (Pure PP 95 [(.agg [(nI i),(nI j),(aA k),(.ilst 5 (av l) false),(iP m)])] (iS n)),hA (Pure PP 116 [(.agg [(nI c),(nI d),(aA e),(.ilst 5 (av a) false),(iP f)]),(nI b)] (iS o)),hr (agg [(nI c),(nI d),(aA e),(.ilst 5 (av a) false),(iP f)]),hr (agg [(nI c),(nI d),(aA e),(.ilst 5 (av a) false),(iP f)])]<|.W 6 1 [0] (aEh c d e a f n o g 0 b))<|gE 8 1 (iS g)
def bBi:=fun a b c d e f g i j k l m n o p q r s t=>aTe a b c d e f g|>.t p i j k l m n o q r s t tv
def bBj:=fun a b c d e f g i=>aTe a b c d e f g|>.f i tv
def aLF(d e:Int)(f:aB)(g:List Term)(i:List Pat)(b j k:List aB)(a c:Int):=tT 0 (aEh d e f g i b j k a c)<|gl 5 aA b<|gd 2 33 (a< (b.length:Int)) (gX aA 9 b a<|fun l=>dR 1 51 [(iS j),(aA l)]<|fun n=>.b 2 42 (!n) (gi aA 5 b a l<|.y fun m:List aB=>gp 1 167 [(iS k),(aA l)] (iS m)<|gw 6 35 (a+1)<|.W 3 1 [0] (aEh d e f g i b j m (a+1) c))<|gw 6 35 (a+1)<|.W 3 1 [0] (aEh d e f g i b j k (a+1) c))<|gw 6 20 (c+1)<|.W 3 1 [0] (aEg d e f g i (c+1) k)
def bBk:=fun c d e f g i j k l m n o p q a b r s t u=>aLF c d e f g i j k l m|>.t q n a b o r|>.t s a b p t u tv
def bBl:=fun a b c d e f g i j k l m n o p q r s=>aLF a b c d e f g i j k|>.t n l o p m q|>.f r s tv
def bBm:=fun a b c d e f g i j k l m=>aLF a b c d e f g i j k|>.f l m tv
theorem aEi :∀ (n:Nat),n≤1000000000→Pure PP 216 [.int .i64 (n:Int)] (aA (eP n)) :=by
 intro n
 induction n using Nat.strongRecOn with
 | ind n ih=>
  intro hn;by_cases h:n<26
  · rw [tJ h];exact bC (by kernel_rfl) rfl rfl (bAH n (by simp;omega) sd (wrap_u8 (by omega) (by omega)) (aFS (by omega) (by omega)))
  · rw [tK h];have e1:tdiv (n:Int) 26= ((n / 26:Nat) :Int) :=by rw [Int.tdiv_eq_ediv_of_nonneg (by omega)];omega
    have e2:tmod (n:Int) 26= ((n % 26:Nat) :Int) :=by rw [Int.tmod_eq_emod_of_nonneg (by omega)];omega
    have e3:IntKind.i64.wrap (tdiv (n:Int) 26-1) = ((n / 26-1:Nat) :Int) :=by
     rw [e1];have: ((n / 26-1:Nat) :Int) = ((n / 26:Nat) :Int) -1:=by omega
     rw [this];exact sd
    have e4:IntKind.u8.wrap (IntKind.i64.wrap (97+tmod (n:Int) 26)) =97+ ((n % 26:Nat) :Int) :=by
     rw [e2];have:IntKind.i64.wrap (97+ ((n % 26:Nat) :Int)) =97+ ((n % 26:Nat) :Int) :=sd;rw [this];exact wrap_u8 (by omega) (by omega)
    have hl:=aJn (n / 26-1);have h0:=bAI n (eP (n / 26-1)) (by simp;omega) (bHe (by omega) (by omega)) (by rw [e3];exact ih _ (by omega) (by omega)) bHf (by rw [e4];exact aFS (by omega) (by omega)) (bAu (by rw [e4];simp [kF];omega));rw [e4]at h0;exact bC (by kernel_rfl) rfl rfl h0
def bR (n:Nat) :aB:=strOf [35] ++eP n
theorem aTf {b:aB}(h:1+b.length≤1000000000) :rJ PP .add 9 (.str 1 35) (aA b) true false=some (aA (strOf [35] ++b)) :=by
 have hb:Nat.ble (1+b.length) 1000000000=true:=by rw [Nat.ble_eq];exact h
 have e: (.str 1 35:AV) =aA (strOf [35]) :=rfl;rw [e];simp only [rJ,aA,aDa,show(strOf [35]).length=1 from rfl,hb,cond,List.length_append,aA4];rfl
theorem aJq (n:Nat)(h:n≤900000000) :Pure PP 165 [.int .i64 (n:Int)] (aA (bR n)) :=by
 have:=aJn n;exact bC (by kernel_rfl) rfl rfl (bAJ n (eP n) (aEi n (by omega)) (aTf (by omega)))
def aJr (s:aB) :Nat→List aB→aB
 |_,[] =>s
 |i,y::l=>if s.head?=some 35 then(if s=bR i then y else aJr s (i+1) l)else s
def rE (l:List aB)(s:aB) :aB:=aJr s 0 l
theorem aJs (s:aB)(l:List aB)(hl:l.length≤1000000) :∀ (t:List aB) (i:Nat),l.drop i=t→Ends PP 0 (aHC s l (i:Int)).as (.ret (aA (aJr s i t))) (aG [] 0)
 | [],i,h=>by
  have:=bL h;exact bAP s l i sd
 | y :: t,i,h=>by
  obtain⟨g1,g2,g3⟩ :=bH h;have hi:= (List.getElem?_eq_some_iff.1 g1).1;rw [aJr];cases s with
  |nil=>exact bAO [] l i sd (by simp)
  | cons c s=>
   rw [List.head?_cons];by_cases hc:c=35
   · rw [if_pos (by rw [hc])];have hm:=aJq i (by omega);have e0: (((c.toNat:Nat) :Int) == (35:Int)) =true:=by rw [hc];rfl
     by_cases e:c::s=bR i
     · rw [if_pos e];exact bAL (c::s) l i c _ y sd (by simp) rfl e0 hm (by rw [cA];simp [e]) sd sd
     · rw [if_neg e];exact(bAM (c::s) l i c _ sd (by simp) rfl e0 hm (by rw [cA];simp [e]) sd).ends (aJs (c::s) l hl t (i+1) g2)
   · rw [if_neg (by intro g;cases g;exact hc rfl)];have e0: (((c.toNat:Nat) :Int) == (35:Int)) =false:=by
      rw [beq_eq_false_iff_ne];intro g;have:c.toNat=35:=by omega
      exact hc (UInt8.toNat_inj.1 this)
     exact bAN (c::s) l i c sd (by simp) rfl e0
theorem aJt (s:aB)(l:List aB)(hl:l.length≤1000000) :Pure PP 168 [aA s,.ilst 1 (map aA l) false] (aA (rE l s)) :=
 bC (by kernel_rfl) rfl rfl ((bAK s l).ends (aJs s l hl l 0 rfl))
mutual
def aCN (l:List aB) :Pat→Pat
 | .mk f n s ps=>.mk f n (rE l s) (hP l ps)
def hP (l:List aB) :List Pat→List Pat
 | [] =>[]
 |p::ps=>aCN l p::hP l ps
end
mutual
def aFg (l:List aB) :Term→Term
 | .mk o n s ks ps=>.mk o n (rE l s) (wJ l ks) (hP l ps)
def wJ (l:List aB) :List Term→List Term
 | [] =>[]
 |k::ks=>aFg l k::wJ l ks
end
abbrev aTg (l:List aB)(q:Pat) :Prop:=Pure PP 169 [Pat.av q,.ilst 1 (map aA l) false] (Pat.av (aCN l q))
theorem aJu (f n:Int)(s:aB)(ps:List Pat)(l:List aB)(v:aB)(hl:ps.length<1000000)(ih:∀q∈ps,aTg l q) :
  ∀ (t:List Pat) (i:Nat) (acc:List Pat),ps.drop i=t→acc.length=i→Ends PP 0 (aHD f n s ps l v (i:Int) acc).as (.ret (Pat.av (.mk f n v (acc++hP l t)))) (aG [] 0)
 | [],i,acc,h,ha=>by
  have:=bL h;rw [hP,append_nil];exact bAS f n s ps l v i acc sd
 | .mk f' n' s' ps'::t,i,acc,h,ha=>by
  obtain⟨g1,g2,g3⟩ :=bH h;have:=aJu f n s ps l v hl ih t (i+1) (acc++ [aCN l (.mk f' n' s' ps')]) g2 (by simp;omega);rw [append_assoc]at this;exact(bAR f n s ps l v i acc f' n' s' ps' f' n' (rE l s') (hP l ps') sd sd sd (ih _ (mem_of_getElem? g1)) (by simp;omega) sd).ends this
mutual
theorem aTh (l:List aB)(hl:l.length≤1000000) :∀ (q:Pat),aV q<1000000→aTg l q
 | .mk f n s ps,h=>by
  simp only [aV]at h;have:=cP ps;refine cB (s:=bD6 f n s ps l) (by kernel_rfl) (by kernel_rfl) (by simp [keylessL,keyless,kB]) (kB _) ?_;rw [aCN];exact(bAQ f n s ps l _ (aJt s l hl)).ends (aJu f n s ps l _ (by omega) (aHI l hl ps (by omega)) ps 0 [] rfl rfl)
theorem aHI (l:List aB)(hl:l.length≤1000000) :∀ (ps:List Pat),aM ps<1000000→∀q∈ps,aTg l q
 | [],_,q,hq=>by cases hq
 | p::ps,h,q,hq=>by
  simp only [aM]at h;rcases List.mem_cons.1 hq with e|hq
  ·rw [e];exact aTh l hl p (by omega)
  ·exact aHI l hl ps (by omega) q hq
end
abbrev bBn (l:List aB)(q:Term) :Prop:=Pure PP 96 [Term.av q,.ilst 1 (map aA l) false] (Term.av (aFg l q))
theorem aJv (o n:Int)(s:aB)(ks:List Term)(ps:List Pat)(l:List aB)(v:aB)(l2:List Term)(hl:ps.length<1000000)(ih:∀q∈ps,aTg l q) :
  ∀ (t:List Pat) (i:Nat) (acc:List Pat),ps.drop i=t→acc.length=i→Ends PP 0 (aHF o n s ks ps l v l2 (i:Int) acc).as (.ret (Term.av (.mk o n v l2 (acc++hP l t)))) (aG [] 0)
 | [],i,acc,h,ha=>by
  have:=bL h;rw [hP,append_nil];exact bAX o n s ks ps l v l2 i acc sd
 | .mk f' n' s' ps'::t,i,acc,h,ha=>by
  obtain⟨g1,g2,g3⟩ :=bH h;have:=aJv o n s ks ps l v l2 hl ih t (i+1) (acc++ [aCN l (.mk f' n' s' ps')]) g2 (by simp;omega);rw [append_assoc]at this;exact(bAW o n s ks ps l v l2 i acc f' n' s' ps' f' n' (rE l s') (hP l ps') sd sd sd (ih _ (mem_of_getElem? g1)) (by simp;omega) sd).ends this
theorem aJw (o n:Int)(s:aB)(ks:List Term)(ps:List Pat)(l:List aB)(v:aB)(hl:ks.length<1000000)(hp:ps.length<1000000)(ihp:∀q∈ps,aTg l q)(ih:∀q∈ks,bBn l q) :
  ∀ (t:List Term) (i:Nat) (acc:List Term),ks.drop i=t→acc.length=i→Ends PP 0 (aHE o n s ks ps l v (i:Int) acc).as (.ret (Term.av (.mk o n v (acc++wJ l t) (hP l ps)))) (aG [] 0)
 | [],i,acc,h,ha=>by
  have:=bL h;rw [wJ,append_nil];exact(bAV o n s ks ps l v i acc sd).ends (aJv o n s ks ps l v acc hp ihp ps 0 [] rfl rfl)
 | .mk f' n' s' ks' ps'::t,i,acc,h,ha=>by
  obtain⟨g1,g2,g3⟩ :=bH h;have:=aJw o n s ks ps l v hl hp ihp ih t (i+1) (acc++ [aFg l (.mk f' n' s' ks' ps')]) g2 (by simp;omega);rw [append_assoc]at this;exact(bAU o n s ks ps l v i acc f' n' s' ks' ps' f' n' (rE l s') (wJ l ks') (hP l ps') sd sd sd (ih _ (mem_of_getElem? g1)) (by simp;omega) sd).ends this
mutual
theorem aJx (l:List aB)(hl:l.length≤1000000) :∀ (q:Term),fA q<1000000→bBn l q
 | .mk o n s ks ps,h=>by
  simp only [fA]at h;have:=cP ps;have:=sC ks;refine cB (s:=bD7 o n s ks ps l) (by kernel_rfl) (by kernel_rfl) (by simp [keylessL,keyless,dF]) (dF _) ?_;rw [aFg];exact(bAT o n s ks ps l _ (aJt s l hl)).ends (aJw o n s ks ps l _ (by omega) (by omega) (aHI l hl ps (by omega)) (aM2 l hl ks (by omega)) ks 0 [] rfl rfl)
theorem aM2 (l:List aB)(hl:l.length≤1000000) :∀ (ps:List Term),cZ ps<1000000→∀q∈ps,bBn l q
 | [],_,q,hq=>by cases hq
 | p::ps,h,q,hq=>by
  simp only [cZ]at h;rcases List.mem_cons.1 hq with e|hq
  ·rw [e];exact aJx l hl p (by omega)
  ·exact aM2 l hl ps (by omega) q hq
end
mutual
def tL (x y:aB) :Pat→Pat
 | .mk f n s ps=>.mk f n (if f=2∧s=x then y else s) (lO x y ps)
def lO (x y:aB) :List Pat→List Pat
 | [] =>[]
 |p::ps=>tL x y p::lO x y ps
end
mutual
def kW (x y:aB) :Term→Term
 | .mk o n s ks ps=>if o=4 then .mk o n (if s=x then y else s) ks ps else .mk o n s (iT x y o s ps 0 ks) ps
def iT (x y:aB)(o:Int)(s:aB)(ps:List Pat) :Nat→List Term→List Term
 |_,[] =>[]
 |i,k::ks=> (if dA (aR o s ps i) x=true then k else kW x y k) ::iT x y o s ps (i+1) ks
end
abbrev bBo (x y:aB)(q:Pat) :Prop:=Pure PP 215 [Pat.av q,aA x,aA y] (Pat.av (tL x y q))
theorem aJy (f n:Int)(s:aB)(ps:List Pat)(x y:aB)(v:aB)(hl:ps.length<1000000)(ih:∀q∈ps,bBo x y q) :
  ∀ (t:List Pat) (i:Nat) (acc:List Pat),ps.drop i=t→acc.length=i→Ends PP 0 (aBP f n s ps x y v (i:Int) acc).as (.ret (Pat.av (.mk f n v (acc++lO x y t)))) (aG [] 0)
 | [],i,acc,h,ha=>by
  have:=bL h;rw [lO,append_nil];exact bA2 f n s ps x y v i acc sd
 | .mk f' n' s' ps'::t,i,acc,h,ha=>by
  obtain⟨g1,g2,g3⟩ :=bH h;have:=aJy f n s ps x y v hl ih t (i+1) (acc++ [tL x y (.mk f' n' s' ps')]) g2 (by simp;omega);rw [append_assoc]at this;exact(bA1 f n s ps x y v i acc f' n' s' ps' f' n' _ (lO x y ps') sd sd sd (ih _ (mem_of_getElem? g1)) (by simp;omega) sd).ends this
mutual
theorem aJz (x y:aB) :∀ (q:Pat),aV q<1000000→bBo x y q
 | .mk f n s ps,h=>by
  simp only [aV]at h;have:=cP ps;have L:=fun v=>aJy f n s ps x y v (by omega) (aM3 x y ps (by omega)) ps 0 [] rfl rfl;refine cB (s:=bD8 f n s ps x y) (by kernel_rfl) (by kernel_rfl) (by simp [keylessL,keyless,kB,aA]) (kB _) ?_;rw [tL];by_cases h2:f=2
  · by_cases hx:s=x
    · rw [if_pos ⟨h2,hx⟩];exact(bAY f n s ps x y (by simp [h2]) (by rw [cA];simp [hx])).ends (L y)
    · rw [if_neg (fun g=>hx g.2)];exact(bAZ f n s ps x y (by simp [h2]) (by rw [cA];simp [hx])).ends (L s)
  · rw [if_neg (fun g=>h2 g.1)];exact(bA0 f n s ps x y (by simp [h2])).ends (L s)
theorem aM3 (x y:aB) :∀ (ps:List Pat),aM ps<1000000→∀q∈ps,bBo x y q
 | [],_,q,hq=>by cases hq
 | p::ps,h,q,hq=>by
  simp only [aM]at h;rcases List.mem_cons.1 hq with e|hq
  ·rw [e];exact aJz x y p (by omega)
  ·exact aM3 x y ps (by omega) q hq
end
mutual
def uE :Term→Bool
 | .mk o _ _ ks ps=> (if o=15 then decide (ks.length≤ps.length+1)else true) &&decide (ks.length≤1000) &&ps.all (fun p=>decide (aV p≤1000)) &&lS ks
def lS :List Term→Bool
 | [] =>true
 |k::ks=>uE k&&lS ks
end
theorem iM {o n:Int}{s:aB}{ks:List Term}{ps:List Pat}(h:uE (.mk o n s ks ps) =true) : (o=15→ks.length≤ps.length+1) ∧ks.length≤1000∧ (∀p∈ps,aV p≤1000) ∧lS ks=true:=by
 rw [uE]at h;simp only [and_eq_true,decide_eq_true_eq,List.all_eq_true]at h;refine⟨fun e=>?_,h.1.1.2,h.1.2,h.2⟩;have:=h.1.1.1;rw [if_pos e]at this;simpa using this
theorem tM {o n:Int}{s:aB}{ks:List Term}{ps:List Pat}{i:Nat}(h:uE (.mk o n s ks ps) =true)(hi:i<ks.length) :Pure PP 116 [Term.av (.mk o n s ks ps),.int .i64 (i:Int)] (.ilst 1 (map aA (aR o s ps i)) false) :=by
 obtain⟨h1,h2,h3,_⟩ :=iM h;exact aSW o n s ks ps i (by omega) (fun e=>by have:=h1 e;omega) h3
theorem zN {o:Int}{s:aB}{ps:List Pat}{i:Nat}(h3:∀p∈ps,aV p≤1000) : (aR o s ps i).length≤1000:=by
 unfold aR
 repeat' split
 all_goals first| (simp;done) |skip
 rename_i p hp;have:=mK p;have:=h3 p (mem_of_getElem? hp);omega
abbrev bBp (x y:aB)(q:Term) :Prop:=Pure PP 214 [Term.av q,aA x,aA y] (Term.av (kW x y q))
theorem aJA (x y:aB)(t:Term) :∃o n s ks ps,kW x y t= .mk o n s ks ps:=by
 obtain⟨o,n,s,ks,ps⟩ :=kW x y t;exact⟨o,n,s,ks,ps,rfl⟩
theorem aEj (o n:Int)(s:aB)(ks:List Term)(ps:List Pat)(x y:aB)(hs:uE (.mk o n s ks ps) =true)(ih:∀q∈ks,bBp x y q) :
  ∀ (t:List Term) (i:Nat) (acc:List Term),ks.drop i=t→acc.length=i→Ends PP 0 (aEf o n s ks ps x y (i:Int) acc).as (.ret (Term.av (.mk o n s (acc++iT x y o s ps i t) ps))) (aG [] 0)
 | [],i,acc,h,ha=>by
  have:=bL h;have:= (iM hs).2.1;rw [iT,append_nil];exact bA8 o n s ks ps x y i acc sd
 | .mk f' n' s' ks' ps'::t,i,acc,h,ha=>by
  obtain⟨g1,g2,g3⟩ :=bH h;have hi:= (List.getElem?_eq_some_iff.1 g1).1;have hk:= (iM hs).2.1;have hb:=tM hs hi;have hbl:=zN (o:=o) (s:=s) (i:=i) (iM hs).2.2.1;have hh:=rZ (aR o s ps i) x (by omega);rw [iT];cases e:dA (aR o s ps i) x with
  | true=>
   rw [e]at hh;rw [if_pos rfl];have:=aEj o n s ks ps x y hs ih t (i+1) (acc++ [.mk f' n' s' ks' ps']) g2 (by simp;omega);rw [append_assoc]at this;exact(bA7 o n s ks ps x y i acc f' n' s' ks' ps' _ _ sd sd sd hb hh rfl (by simp;omega) sd).ends this
  | false=>
   rw [e]at hh;rw [if_neg (by simp)];have hr:=ih _ (mem_of_getElem? g1);obtain⟨o1,n1,s1,ks1,ps1,e1⟩ :=aJA x y (.mk f' n' s' ks' ps');have hr':Pure PP 214 [Term.av (.mk f' n' s' ks' ps'),aA x,aA y] (Term.av (.mk o1 n1 s1 ks1 ps1)) :=by rw [←e1];exact hr
   rw [e1];have:=aEj o n s ks ps x y hs ih t (i+1) (acc++ [.mk o1 n1 s1 ks1 ps1]) g2 (by simp;omega);rw [append_assoc]at this;exact(bA6 o n s ks ps x y i acc f' n' s' ks' ps' _ _ o1 n1 s1 ks1 ps1 sd sd sd hb hh rfl hr' (by simp;omega) sd).ends this
mutual
theorem aTi (x y:aB) :∀ (q:Term),uE q=true→bBp x y q
 | .mk o n s ks ps,h=>by
  refine cB (s:=bD9 o n s ks ps x y) (by kernel_rfl) (by kernel_rfl) (by simp [keylessL,keyless,dF,aA]) (dF _) ?_;rw [kW];by_cases h4:o=4
  · rw [if_pos h4];by_cases hx:s=x
    · rw [if_pos hx];exact bA3 o n s ks ps x y (by simp [h4]) (by rw [cA];simp [hx])
    · rw [if_neg hx];exact bA4 o n s ks ps x y (by simp [h4]) (by rw [cA];simp [hx])
  · rw [if_neg h4];exact(bA5 o n s ks ps x y (by simp [h4])).ends (aEj o n s ks ps x y h (aHJ x y ks (iM h).2.2.2) ks 0 [] rfl rfl)
theorem aHJ (x y:aB) :∀ (ks:List Term),lS ks=true→∀q∈ks,bBp x y q
 | [],_,q,hq=>by cases hq
 | k::ks,h,q,hq=>by
  rw [lS,and_eq_true]at h;rcases List.mem_cons.1 hq with e|hq
  ·rw [e];exact aTi x y k h.1
  ·exact aHJ x y ks h.2 q hq
end
def aHK (k:Nat)(x y:aB) :Term→Term
 | .mk o n s ks ps=>match ks[k]? with
  |none=>.mk o n s ks ps
  |some q=>if o=15 then .mk o n s (ks.set k (kW x y q)) (match ps[k-1]? with|some p=>ps.set (k-1) (tL x y p) |none=>ps)else .mk o n y (ks.set k (kW x y q)) ps
theorem aTj (k:Nat)(x y:aB){o n:Int}{s:aB}{ks:List Term}{ps:List Pat}(h:uE (.mk o n s ks ps) =true)(hk:k<ks.length)(hk1:o=15→1≤k)(hp:ps.length≤1000) :
  Pure PP 164 [Term.av (.mk o n s ks ps),.int .i64 (k:Int),aA x,aA y] (Term.av (aHK k x y (.mk o n s ks ps))) :=by
 obtain⟨h1,h2,h3,h4⟩ :=iM h;refine cB (s:=bEa o n s ks ps k x y) (by kernel_rfl) (by kernel_rfl) (by simp [keylessL,keyless,dF,aA]) (dF _) ?_;obtain⟨q,hq⟩ :∃q,ks[k]?=some q:= ⟨_,List.getElem?_eq_getElem hk⟩;have hr:=aHJ x y ks h4 q (mem_of_getElem? hq);unfold aHK;simp only [hq];obtain⟨o1,n1,s1,ks1,ps1,e1⟩ :=aJA x y q;unfold bBp at hr;rw [e1]at hr ⊢;obtain⟨q0,q1,q2,q3,q4⟩ :=q;by_cases h15:o=15
 · rw [if_pos h15];have a1:=hk1 h15;have a2:=h1 h15;obtain⟨p,hp0⟩ :∃p,ps[k-1]?=some p:= ⟨_,List.getElem?_eq_getElem (by omega)⟩;simp only [hp0];have hrp:=aJz x y p (by have:=h3 p (mem_of_getElem? hp0);omega);obtain⟨p0,p1,p2,p3⟩ :=p;have ek: ((k:Int) -1).toNat=k-1:=by omega
   unfold bBo at hrp;rw [tL]at hrp ⊢;have:=bA9 o n s ks ps k x y q0 q1 q2 q3 q4 o1 n1 s1 ks1 ps1 p0 p1 p2 p3 p0 p1 _ (lO x y p3) (by omega) sd sd (by simpa using hq) hr (by simp [h15]) (by omega) (by apply wrap64<;>omega) (by omega) (by omega) (by rw [ek];exact hp0) hrp (by simp) (by simp);rw [ek,toNat_natCast]at this;exact this
 · rw [if_neg h15];have:=bBa o n s ks ps k x y q0 q1 q2 q3 q4 o1 n1 s1 ks1 ps1 (by omega) sd sd (by simpa using hq) hr (by simp [h15]) (by simp);rw [toNat_natCast]at this;exact this
def bEj(a:List aB):TS:=bQ PP 166 [(.gl 0 1 0 a.length false)] [oL 0 1 (map aA a)] 1
def zO(a:List aB)(b:Int):TS:=⟨(tf 166 18 [(0,(.gl 0 1 0 a.length false)),(2,(.str 0 0)),(3,(nI b))] [kc f166 56,kl f166 56,.inBlock 0,kc f166 15]),[],[oL 0 1 (map aA a)],1⟩
def aEk(a:List aB)(b:aB)(c d:Int):TS:=⟨(tf 51 18 [(0,(.gl 0 1 0 a.length false)),(1,(aA b)),(4,(bV false)),(5,(nI d))] [kc f51 52,kl f51 52,.inBlock 0,kc f51 7]),[(tf 166 18 [(0,(.gl 0 1 0 a.length false)),(2,(.str 0 0)),(3,(nI c)),(8,(bV false)),(9,(.gl 0 1 0 a.length false)),(11,(aA b))] [ko f166 224 8,kc f166 225,kc f166 113,kl f166 56,.inBlock 0,kc f166 15])],[oL 0 1 (map aA a)],1⟩
def aTk(a b:Int)(c:aB)(d:List Term)(e:List Pat):TS:=bQ PP 95 [(.agg [(nI a),(nI b),(aA c),(.ilst 5 (av d) false),(iP e)])] [] 0
def aEl(b c:Int)(d:aB)(e:List Term)(f:List Pat)(g:Int)(a:List aB):TS:=⟨(tf 95 50 [kp 1 0,(2,.nils),(3,(.gl 1 1 0 a.length false)),(4,(nI g))] [kc f95 244,kl f95 244,.inBlock 0,kc f95 31]),[],[oC 0 [(nI b),(nI c),(aA d),(.ilst 5 (av e) false),(iP f)],oL 1 1 (map aA a)],2⟩
def wK(b c:Int)(d:aB)(e:List Term)(f:List Pat)(g i:List aB)(j:Int)(a:List aB)(k:Int):TS:=⟨(tf 95 50 [kp 1 0,(2,.nils),(3,(.gl 1 1 0 a.length false)),(4,(nI k)),(5,(iS g)),(6,(iS i)),(7,(nI j))] [kc f95 31308,kl f95 31308,.inBlock 2,.inBlock 1,kc f95 979,kl f95 244,.inBlock 0,kc f95 31]),[],[oC 0 [(nI b),(nI c),(aA d),(.ilst 5 (av e) false),(iP f)],oL 1 1 (map aA a)],2⟩
def aHL(c d:Int)(e:aB)(f:List Term)(g:List Pat)(b:aB)(i j:List aB)(k l:Int)(a:List aB)(m:Int):TS:=⟨(tf 167 44 [(0,(.gl 0 1 0 a.length false)),(1,(aA b)),(4,.nils),(5,(nI k))] [kc f167 56,kl f167 56,.inBlock 0,kc f167 15]),[(tf 95 50 [kp 1 1,(2,.nils),(3,(.gl 0 1 0 a.length false)),(4,(nI m)),(5,(iS i)),(6,(iS j)),(7,(nI l)),(43,(.gl 0 1 0 a.length false)),(47,(aA b))] [ko f95 1001874 5,.inBlock 3,kc f95 125235,kl f95 31308,.inBlock 2,.inBlock 1,kc f95 979,kl f95 244,.inBlock 0,kc f95 31])],[oL 0 1 (map aA a),oC 1 [(nI c),(nI d),(aA e),(.ilst 5 (av f) false),(iP g)]],2⟩
def bEk(a:List aB)(b c:Int)(d:aB)(e:List Term)(f:List Pat):TS:=bQ PP 94 [(.agg [(nI b),(nI c),(aA d),(.ilst 5 (av e) false),(iP f)]),(.gl 0 1 0 a.length false)] [oL 0 1 (map aA a)] 1
def tN(i:List aB)(j k:Int)(l:aB)(m:List Term)(n:List Pat)(b:Int)(a:List aB)(c d:Int)(e:aB)(f:List Term)(g:List Pat):TS:=⟨(tf 94 72 [(1,(.gl 0 1 0 a.length false)),kp 2 1,kp 4 2,(5,.nils),(6,(nI b))] [kc f94 52,kl f94 52,.inBlock 0,kc f94 7]),[],[oL 0 1 (map aA a),oC 1 [(nI c),(nI d),(aA e),(.ilst 5 (av f) false),(iP g)],oC 2 [(nI 0),(nI 0),(.str 0 0),.nils,.nils]],3⟩
def aBQ(k:List aB)(l m:Int)(n:aB)(o:List Term)(p:List Pat)(b:List aB)(c:Int)(a:List aB)(d e:Int)(f:aB)(g:List Term)(i:List Pat)(j:Int):TS:=⟨(tf 94 72 [(1,(.gl 0 1 0 a.length false)),kp 2 1,kp 4 2,(5,.nils),(6,(nI j)),(7,(iS b)),(8,(nI c))] [kc f94 6732,kl f94 6732,.inBlock 2,.inBlock 1,kc f94 211,kl f94 52,.inBlock 0,kc f94 7]),[],[oL 0 1 (map aA a),oC 1 [(nI d),(nI e),(aA f),(.ilst 5 (av g) false),(iP i)],oC 2 [(nI 0),(nI 0),(.str 0 0),.nils,.nils]],3⟩
def zP(i:List aB)(j k:Int)(l:aB)(m:List Term)(n:List Pat)(c:Int)(a:List aB)(b:List Term)(d e:Int)(f:aB)(g:List Pat):TS:=⟨(tf 94 72 [(1,(.gl 0 1 0 a.length false)),kp 2 1,kp 4 2,(5,.nils),(9,(nI c))] [kc f94 244,kl f94 244,.inBlock 4,kc f94 31]),[],[oL 0 1 (map aA a),oC 1 [(nI d),(nI e),(aA f),(.gl 3 5 0 b.length false),(iP g)],oC 2 [(nI 0),(nI 0),(.str 0 0),.nils,.nils],oL 3 5 (av b)],4⟩
def bEl(a b:Int)(c:aB)(d:List Term)(e:List Pat):TS:=bQ PP 33 [(.agg [(nI a),(nI b),(aA c),(.ilst 5 (av d) false),(iP e)])] [] 0
def bBq (a:List aB):=(tT 1 (bEj a)<|.W 11 1 [] (zO a 0)) ⟨kk,trivial⟩
def bEm(b:List aB)(a:Int):=tT 1 (zO b a)<|gpS 4 216 [(nI a)]<|fun c=>dR 0 59 [(aA c)]<|fun d=>.b 2 8 (!d) (gw 12 15 (a+1)<|.W 4 1 [] (zO b (a+1)))<|gpS 2 216 [(nI a)]<|fun e=>.W 12 1 [] (aEk b e a 0)
def bBr:=fun a b c d e f g i=>bEm a b c e d f|>.t g i ⟨kk,trivial⟩
def bBs:=fun a b c d e f g i j=>bEm a b c f d g|>.f i e j ⟨kk,trivial⟩
def aTl(a:List aB)(e:aB)(c b:Int):=tT 1 (aEk a e c b)<|gd 8 9 (b< (a.length:Int)) (.i [rn 8,.ans (.ix)] [hA (0≤b),hA (b< (a.length:Int))]<|.y fun d:aB=>gj aA 0 a b.toNat d<|.b 3 17 (bA d.length (aD d) e.length (aD e)) (gw 15 15 (c+1)<|.W 4 1 [] (zO a (c+1)))<|gw 6 11 (b+1)<|.W 3 1 [] (aEk a e c (b+1)))<|gpS 15 216 [(nI c)]<|fun d=>.E 3 1 [] (aA d) [oL 0 1 (map aA a)] 1
def bBt:=fun a b c d e f g i j k l=>aTl a b c d|>.t f g i e j|>.t k l ⟨kk,trivial⟩
def bBu:=fun a b c d e f g i j k l=>aTl a b c d|>.t f g i e j|>.f k l ⟨kk,trivial⟩
def bBv:=fun a b c d e f g=>aTl a b c d|>.f f e g ⟨kk,trivial⟩
def bEn(b c:Int)(a:aB)(d:List Term)(e:List Pat):=tT 0 (aTk b c a d e)<|.b 12 10 (b==4) (.i [rn 9,.toL 2 false [(aA a)]] [hr (some [(aA a)]),hr true]<|gu 0 1 (map aA [a])<|gs 0 2 (.gl 1 1 0 [a].length true)<|.i [.weak 2] []<|.E 0 2 [1] (.gl 0 1 0 [a].length false) [oL 0 1 (map aA [a])] 1)<|.i [rn 13,.nilL 3 1] []<|gu 0 1 (map aA ([] :List aB))<|gs 0 3 (.gl 1 1 0 ([] :List aB).length false)<|.W 0 2 [0,1] (aEl b c a d e 0 ([] :List aB))
def bBw:=fun a b c d e f=>bEn a b c d e|>.t f ⟨kk,trivial⟩
def bBx:=fun a b c d e f=>bEn a b c d e|>.f f ⟨kk,trivial⟩
def bEo(c d:Int)(e:aB)(a:List Term)(f:List Pat)(b:Int)(g:List aB):=tT 0 (aEl c d e a f b g)<|gm 6 aU a<|gd 2 18 (b< (a.length:Int)) (.y fun i:Int=>.y fun j:Int=>.y fun k:aB=>.y fun l:List Term=>.y fun m:List Pat=>.y fun n:List aB=>.y fun o:List aB=>.i [rn 5,.reg (rd 3 [.ans (.idx (Term.av (Term.mk i j k l m))),.d,.pure (iS n),.d,.d,.pure (iS o),.d,.d])] [hA (0≤b),.a (((a)[b.toNat]?) =some (Term.mk i j k l m)) (eX aU),hA (Pure PP 95 [(.agg [(nI i),(nI j),(aA k),(.ilst 5 (av l) false),(iP m)])] (iS n)),hA (Pure PP 116 [(.agg [(nI c),(nI d),(aA e),(.ilst 5 (av a) false),(iP f)]),(nI b)] (iS o)),hr (agg [(nI c),(nI d),(aA e),(.ilst 5 (av a) false),(iP f)]),hr (agg [(nI c),(nI d),(aA e),(.ilst 5 (av a) false),(iP f)])]<|.W 6 2 [0,1] (wK c d e a f n o 0 g b))<|.E 8 2 [1] (.gl 0 1 0 g.length false) [oL 0 1 (map aA g)] 1
def bBy:=fun a b c d e f g i j k l m n o p q r s t=>bEo a b c d e f g|>.t p i j k l m n o q r s t ⟨kk,trivial⟩
def bBz:=fun a b c d e f g i=>bEo a b c d e f g|>.f i ⟨kk,trivial⟩
def aTm(d e:Int)(f:aB)(g:List Term)(i:List Pat)(a j:List aB)(b:Int)(k:List aB)(c:Int):=tT 0 (wK d e f g i a j b k c)<|gl 5 aA a<|gd 2 33 (b< (a.length:Int)) (gX aA 9 a b<|fun l=>dR 1 51 [(iS j),(aA l)]<|fun m=>.b 2 42 (!m) (gi aA 5 a b l<|.W 13 2 [1,0] (aHL d e f g i l a j 0 b k c))<|gw 6 35 (b+1)<|.W 3 2 [0,1] (wK d e f g i a j (b+1) k c))<|gw 6 20 (c+1)<|.W 3 2 [0,1] (aEl d e f g i (c+1) k)
def bBA:=fun c d e f g i j k l m n o p a b q r=>aTm c d e f g i j k l m|>.t p n a b o q|>.t r a b ⟨kk,trivial⟩
def bBB:=fun a b c d e f g i j k l m n o p q r s=>aTm a b c d e f g i j k|>.t n l o p m q|>.f r s ⟨kk,trivial⟩
def bBC:=fun a b c d e f g i j k l m=>aTm a b c d e f g i j k|>.f l m ⟨kk,trivial⟩
def aM4(f g:Int)(i:aB)(j:List Term)(k:List Pat)(c:aB)(l m:List aB)(a d:Int)(b:List aB)(n:Int):=tT 0 (aHL f g i j k c l m a d b n)<|gd 8 10 (a< (b.length:Int)) (.i [rn 2,.ans (.ix)] [hA (0≤a),hA (a< (b.length:Int))]<|.y fun e:aB=>gj aA 0 b a.toNat e<|.b 4 17 (Op.bytesLess (aW e.length (aD e)) (aW c.length (aD c))) (gw 6 19 (a+1)<|.W 4 2 [0,1] (aHL f g i j k c l m (a+1) d b n))<|gd 10 24 (a< (b.length:Int)) (.i [rn 2,.ans (.ix)] [hA (0≤a),hA (a< (b.length:Int))]<|gj aA 0 b a.toNat e<|.b 4 31 (bA e.length (aD e) c.length (aD c)) (gw 14 35 (d+1)<|.W 3 2 [1,0] (wK f g i j k l m (d+1) b n))<|.i [rn 3,.reg [.d,.d,.ans (.ev (.gl 0 1 0 a.toNat false)),.app (map aA (take a.toNat (drop 0 b))) (take a.toNat (drop 0 b)).length,.d,.d,.app (map aA ((take a.toNat (drop 0 b)) ++ [c])) ((take a.toNat (drop 0 b)) ++ [c]).length,.d,.d,.ans (.ev (.gl 0 1 a.toNat (b.length-a.toNat) false)),.app (map aA (((take a.toNat (drop 0 b)) ++ [c]) ++ (take (b.length-a.toNat) (drop a.toNat b)))) (((take a.toNat (drop 0 b)) ++ [c]) ++ (take (b.length-a.toNat) (drop a.toNat b))).length,.d]] [.a (0≤a∧a.toNat≤b.length) (p':=uB PP 92 (.gl 0 1 0 b.length false) none (some (nI a)) (.gl 0 1 0 a.toNat false)) fun⟨ha,hb⟩=>(aIE (k:=a) (by kernel_rfl) ha hb),.a (0+a.toNat≤length b) (p':=0+a.toNat≤length (map aA b)) aVe,hA (length (take a.toNat (drop 0 b)) ≤1000000),.q (p:=take a.toNat (drop 0 (map aA b)) = (map aA (take a.toNat (drop 0 b)))) bGC,.a (0+a.toNat≤length b) (p':=a.toNat=length (take a.toNat (drop 0 b))) bGD,hb aA (take a.toNat (drop 0 b)),hA (length ((take a.toNat (drop 0 b)) ++ [c]) ≤1000000),hc aA (take a.toNat (drop 0 b)) [c],he aA (take a.toNat (drop 0 b)) [c],.a (0≤a∧a.toNat≤b.length) (p':=uB PP 92 (.gl 0 1 0 b.length false) (some (nI a)) none (.gl 0 1 a.toNat (b.length-a.toNat) false)) fun⟨ha,hb⟩=>(aDQ (k:=a) (by kernel_rfl) ha hb),.a (a.toNat+ (b.length-a.toNat) ≤length b) (p':=a.toNat+ (b.length-a.toNat) ≤length (map aA b)) aVe,.q (p:=0+ ((take a.toNat (drop 0 b)) ++ [c]).length≤length (map aA ((take a.toNat (drop 0 b)) ++ [c]))) bGE,hA (length (((take a.toNat (drop 0 b)) ++ [c]) ++ (take (b.length-a.toNat) (drop a.toNat b))) ≤1000000),.q (p:=take ((take a.toNat (drop 0 b)) ++ [c]).length (drop 0 (map aA ((take a.toNat (drop 0 b)) ++ [c]))) ++take (b.length-a.toNat) (drop a.toNat (map aA b)) = (map aA (((take a.toNat (drop 0 b)) ++ [c]) ++ (take (b.length-a.toNat) (drop a.toNat b))))) bGF,.a (a.toNat+ (b.length-a.toNat) ≤length b) (p':=((take a.toNat (drop 0 b)) ++ [c]).length+ (b.length-a.toNat) =length (((take a.toNat (drop 0 b)) ++ [c]) ++ (take (b.length-a.toNat) (drop a.toNat b)))) bGG]<|gw 8 35 (d+1)<|.W 3 6 [1,5] (wK f g i j k l m (d+1) (((take a.toNat (drop 0 b)) ++ [c]) ++ (take (b.length-a.toNat) (drop a.toNat b))) n)) .x)<|gd 18 24 (a< (b.length:Int)) .x<|.i [rn 11,.reg [.d,.d,.ans (.ev (.gl 0 1 0 a.toNat false)),.app (map aA (take a.toNat (drop 0 b))) (take a.toNat (drop 0 b)).length,.d,.d,.app (map aA ((take a.toNat (drop 0 b)) ++ [c])) ((take a.toNat (drop 0 b)) ++ [c]).length,.d,.d,.ans (.ev (.gl 0 1 a.toNat (b.length-a.toNat) false)),.app (map aA (((take a.toNat (drop 0 b)) ++ [c]) ++ (take (b.length-a.toNat) (drop a.toNat b)))) (((take a.toNat (drop 0 b)) ++ [c]) ++ (take (b.length-a.toNat) (drop a.toNat b))).length,.d]] [.a (0≤a∧a.toNat≤b.length) (p':=uB PP 92 (.gl 0 1 0 b.length false) none (some (nI a)) (.gl 0 1 0 a.toNat false)) fun⟨ha,hb⟩=>(aIE (k:=a) (by kernel_rfl) ha hb),.a (0+a.toNat≤length b) (p':=0+a.toNat≤length (map aA b)) aVe,hA (length (take a.toNat (drop 0 b)) ≤1000000),.q (p:=take a.toNat (drop 0 (map aA b)) = (map aA (take a.toNat (drop 0 b)))) bGC,.a (0+a.toNat≤length b) (p':=a.toNat=length (take a.toNat (drop 0 b))) bGD,hb aA (take a.toNat (drop 0 b)),hA (length ((take a.toNat (drop 0 b)) ++ [c]) ≤1000000),hc aA (take a.toNat (drop 0 b)) [c],he aA (take a.toNat (drop 0 b)) [c],.a (0≤a∧a.toNat≤b.length) (p':=uB PP 92 (.gl 0 1 0 b.length false) (some (nI a)) none (.gl 0 1 a.toNat (b.length-a.toNat) false)) fun⟨ha,hb⟩=>(aDQ (k:=a) (by kernel_rfl) ha hb),.a (a.toNat+ (b.length-a.toNat) ≤length b) (p':=a.toNat+ (b.length-a.toNat) ≤length (map aA b)) aVe,.q (p:=0+ ((take a.toNat (drop 0 b)) ++ [c]).length≤length (map aA ((take a.toNat (drop 0 b)) ++ [c]))) bGE,hA (length (((take a.toNat (drop 0 b)) ++ [c]) ++ (take (b.length-a.toNat) (drop a.toNat b))) ≤1000000),.q (p:=take ((take a.toNat (drop 0 b)) ++ [c]).length (drop 0 (map aA ((take a.toNat (drop 0 b)) ++ [c]))) ++take (b.length-a.toNat) (drop a.toNat (map aA b)) = (map aA (((take a.toNat (drop 0 b)) ++ [c]) ++ (take (b.length-a.toNat) (drop a.toNat b))))) bGF,.a (a.toNat+ (b.length-a.toNat) ≤length b) (p':=((take a.toNat (drop 0 b)) ++ [c]).length+ (b.length-a.toNat) =length (((take a.toNat (drop 0 b)) ++ [c]) ++ (take (b.length-a.toNat) (drop a.toNat b)))) bGG]<|gw 8 35 (d+1)<|.W 3 6 [1,5] (wK f g i j k l m (d+1) (((take a.toNat (drop 0 b)) ++ [c]) ++ (take (b.length-a.toNat) (drop a.toNat b))) n)
def bBD:=fun a b c d e f g i j k l m n o p q r s t=>aM4 a b c d e f g i j k l m|>.t o p q n r|>.t s t ⟨kk,trivial⟩
def bBE:=fun e f g i j k l m n o p q r a b c d s t u=>aM4 e f g i j k l m n o p q|>.t a b c r d|>.f s|>.t a b c d|>.t t u ⟨kk,trivial⟩
def bBF:=fun i j k l m n o p q r s t u b a c d v w e f x y g z A=>aM4 i j k l m n o p q r s t|>.t b a c u d|>.f v|>.t b a c d|>.f w ⟨a,e⟩ f x f y ⟨a,e⟩ g z g A ⟨kk,trivial⟩
def bBG:=fun f g i j k l m n o p q r a b c d s t e u v=>aM4 f g i j k l m n o p q r|>.f a|>.f a ⟨b,c⟩ d s d t ⟨b,c⟩ e u e v ⟨kk,trivial⟩
def bBH (a:List aB)(b c:Int)(d:aB)(e:List Term)(f:List Pat):=(tT 0 (bEk a b c d e f)<|.W 13 3 [0,1,2] (tN a b c d e f 0 a b c d e f)) ⟨kk,trivial⟩
def bEp(g:List aB)(i j:Int)(k:aB)(l:List Term)(m:List Pat)(b:Int)(n:List aB)(c d:Int)(e:aB)(a:List Term)(f:List Pat):=tT 0 (tN g i j k l m b n c d e a f)<|gm 6 aU a<|gd 2 16 (b< (a.length:Int)) (.y fun o:List aB=>gp 8 116 [(.agg [(nI c),(nI d),(aA e),(.ilst 5 (av a) false),(iP f)]),(nI b)] (iS o)<|.W 8 3 [0,1,2] (aBQ g i j k l m o 0 n c d e a f b))<|.i [rn 6,.appN (av a) a.length] [hA (a.length≤1000000),hr (av a),.q (p:=length (av a) =a.length) (aAK aU _)]<|.W 10 4 [0,1,2,3] (zP g i j k l m 0 n a c d e f)
def xI:=fun a b c d e f g i j k l m n o p q=>bEp a b c d e f g i j k l m n|>.t p o q ⟨kk,trivial⟩
def bBI:=fun a b c d e f g i j k l m n o p=>bEp a b c d e f g i j k l m n|>.f o p ⟨kk,⟨fU,trivial⟩⟩
def bEq(q:List aB)(r s:Int)(t:aB)(u:List Term)(v:List Pat)(c:List aB)(b:Int)(a:List aB)(d e:Int)(f:aB)(g:List Term)(i:List Pat)(j:Int):=tT 0 (aBQ q r s t u v c b a d e f g i j)<|gl 5 aA c<|gd 2 25 (b< (c.length:Int)) (.y fun k:aB=>.y fun w:aB=>.y fun l:Int=>.y fun m:Int=>.y fun n:aB=>.y fun o:List Term=>.y fun p:List Pat=>.i [rn 5,.reg (rd 4 (.ans (.idx (aA k))::rd 3 [.pure (aA w),.pure (.agg [(nI l),(nI m),(aA n),(.ilst 5 (av o) false),(iP p)]),.d]))] [hA (0≤b),.a (((c)[b.toNat]?) =some k) (lH (f:=aA)),hA (Pure PP 165 [(nI (a.length:Int))] (aA w)),hA (Pure PP 164 [(.agg [(nI d),(nI e),(aA f),(.ilst 5 (av g) false),(iP i)]),(nI j),(aA k),(aA w)] (.agg [(nI l),(nI m),(aA n),(.ilst 5 (av o) false),(iP p)])),hr (aA k),hr (aA k),hr (agg [(nI d),(nI e),(aA f),(.ilst 5 (av g) false),(iP i)]),hr (agg [(nI d),(nI e),(aA f),(.ilst 5 (av g) false),(iP i)])]<|.y fun x:aB=>gk 3 (.enter 166 [(.gl 0 1 0 a.length false)]) [oL 0 1 (map aA a),oC 1 [(nI l),(nI m),(aA n),(.ilst 5 (av o) false),(iP p)],oC 2 [(nI 0),(nI 0),(.str 0 0),.nils,.nils]] 3 (aA x) [oL 0 1 (map aA a),oC 1 [(nI l),(nI m),(aA n),(.ilst 5 (av o) false),(iP p)],oC 2 [(nI 0),(nI 0),(.str 0 0),.nils,.nils]] 3<|ga 1 aA a [x]<|gw 6 27 (b+1)<|.W 3 5 [4,1,2] (aBQ q r s t u v c (b+1) (a++ [x]) l m n o p j))<|gw 6 18 (j+1)<|.W 3 3 [0,1,2] (tN q r s t u v (j+1) a d e f g i)
def bBJ:=fun a b c d e f g i j k l m n o p q r s t u v w x y z A B C D F G=>bEq a b c d e f g i j k l m n o p|>.t y q r s t u v w z A B C x D F G ⟨kk,trivial⟩
def xJ:=fun a b c d e f g i j k l m n o p q r=>bEq a b c d e f g i j k l m n o p|>.f q r ⟨kk,trivial⟩
def bEr(t:List aB)(u v:Int)(w:aB)(x:List Term)(y:List Pat)(b:Int)(i:List aB)(a:List Term)(j k:Int)(l:aB)(m:List Pat):=tT 0 (zP t u v w x y b i a j k l m)<|gd 9 51 (b< (a.length:Int)) (.i [rn 9,.ans (.ix)] [hA (0≤b),hA (b< (a.length:Int))]<|.y fun n:Int=>.y fun o:Int=>.y fun p:aB=>.y fun q:List Term=>.y fun r:List Pat=>gjF aU 0 a b.toNat (Term.mk n o p q r)<|.y fun s:List aB=>.y fun c:Int=>.y fun d:Int=>.y fun e:aB=>.y fun f:List Term=>.y fun g:List Pat=>gk 1 (.enter 94 [(.agg [(nI n),(nI o),(aA p),(.ilst 5 (av q) false),(iP r)]),(.gl 0 1 0 i.length false)]) [oL 0 1 (map aA i),oC 1 [(nI j),(nI k),(aA l),(.gl 3 5 0 a.length false),(iP m)],oC 2 [(nI 0),(nI 0),(.str 0 0),.nils,.nils],oL 3 5 (av a)] 4 (.tup [(.agg [(nI c),(nI d),(aA e),(.ilst 5 (av f) false),(iP g)]),(.gl 4 1 0 s.length false)]) [oC 1 [(nI j),(nI k),(aA l),(.gl 3 5 0 a.length false),(iP m)],oC 2 [(nI 0),(nI 0),(.str 0 0),.nils,.nils],oL 3 5 (av a),oL 4 1 (map aA s)] 5<|.i [rn 13,.ans (.ix)] [hA (0≤b),hA (b< (a.length:Int))]<|.i [.st (Term.av (Term.mk n o p q r)) (Term.av (Term.mk c d e f g))] [.a (((a)[b.toNat]?) =some (Term.mk n o p q r)) (rX aU),hr (some (Term.av (Term.mk c d e f g)))]<|.i [.lset 3 (av (set a b.toNat (Term.mk c d e f g)))] [.q (p:=(av a).set (0+b.toNat) (Term.av (Term.mk c d e f g)) = (av (set a b.toNat (Term.mk c d e f g)))) (wZ aU _ _ _)]<|.i [.set 49 (.gl 3 5 0 (set a b.toNat (Term.mk c d e f g)).length false)] [.q (p:=(AV.gl 3 5 0 a.length false) = (.gl 3 5 0 (set a b.toNat (Term.mk c d e f g)).length false)) (dY (length_set ..).symm)]<|.i [.set 56 (.gl 3 5 0 (set a b.toNat (Term.mk c d e f g)).length false)] [.q (p:=(AV.gl 3 5 0 a.length false) = (.gl 3 5 0 (set a b.toNat (Term.mk c d e f g)).length false)) (dY (length_set ..).symm)]<|.i [.set 65 (.gl 3 5 0 (set a b.toNat (Term.mk c d e f g)).length false)] [.q (p:=(AV.gl 3 5 0 a.length false) = (.gl 3 5 0 (set a b.toNat (Term.mk c d e f g)).length false)) (dY (length_set ..).symm)]<|.i [.cset 1 3 (.gl 3 5 0 (set a b.toNat (Term.mk c d e f g)).length false)] [.q (p:=(AV.gl 3 5 0 a.length false) = (.gl 3 5 0 (set a b.toNat (Term.mk c d e f g)).length false)) (dY (length_set ..).symm)]<|gw 9 53 (b+1)<|.W 3 6 [4,1,2,3] (zP t u v w x y (b+1) s (set a b.toNat (Term.mk c d e f g)) j k l m))<|gY 10 2 3 3 5 aU fU a false<|.E 0 4 [0] (.tup [(.agg [(nI j),(nI k),(aA l),(.ilst 5 (av a) false),(iP m)]),(.gl 0 1 0 i.length false)]) [oL 0 1 (map aA i)] 1
def bBK:=fun d e f g i j k l m n o p q r s t u v w x y z A B C a b c D F=>bEr d e f g i j k l m n o p q|>.t C a b r s t u v c w x y z A B D a b c F ⟨kk,⟨fU,trivial⟩⟩
def bBL:=fun a b c d e f g i j k l m n o=>bEr a b c d e f g i j k l m n|>.f o ⟨kk,trivial⟩
def bBM (a b:Int)(c:aB)(d:List Term)(e:List Pat):=fun f g i j k l m n o p q r s t u=>(tT 0 (bEl a b c d e)<|.y fun f:List aB=>.y fun g:List aB=>.y fun i:Int=>.y fun j:Int=>.y fun k:aB=>.y fun l:List Term=>.y fun m:List Pat=>.i [rn 6,.reg (.d::.d::.call (.gl 3 1 0 f.length false) (aG [oC 0 [(nI a),(nI b),(aA c),(.ilst 5 (av d) false),(iP e)],oC 1 [(nI 0),(nI 0),(.str 0 0),.nils,.nils],oL 3 1 (map aA f)] 4)::.call (.tup [(.agg [(nI i),(nI j),(aA k),(.ilst 5 (av l) false),(iP m)]),(.gl 4 1 0 g.length false)]) (aG [oC 0 [(nI a),(nI b),(aA c),(.ilst 5 (av d) false),(iP e)],oC 1 [(nI 0),(nI 0),(.str 0 0),.nils,.nils],oL 4 1 (map aA g)] 5)::rd 6 [])] [hA (Spec PP (.enter 95 [(.agg [(nI a),(nI b),(aA c),(.ilst 5 (av d) false),(iP e)])]) (aG [oC 0 [(nI a),(nI b),(aA c),(.ilst 5 (av d) false),(iP e)],oC 1 [(nI 0),(nI 0),(.str 0 0),.nils,.nils]] 3) (.ret (.gl 3 1 0 f.length false)) (aG [oC 0 [(nI a),(nI b),(aA c),(.ilst 5 (av d) false),(iP e)],oC 1 [(nI 0),(nI 0),(.str 0 0),.nils,.nils],oL 3 1 (map aA f)] 4)),hA (Spec PP (.enter 94 [(.agg [(nI a),(nI b),(aA c),(.ilst 5 (av d) false),(iP e)]),(.gl 3 1 0 f.length false)]) (aG [oC 0 [(nI a),(nI b),(aA c),(.ilst 5 (av d) false),(iP e)],oC 1 [(nI 0),(nI 0),(.str 0 0),.nils,.nils],oL 3 1 (map aA f)] 4) (.ret (.tup [(.agg [(nI i),(nI j),(aA k),(.ilst 5 (av l) false),(iP m)]),(.gl 4 1 0 g.length false)])) (aG [oC 0 [(nI a),(nI b),(aA c),(.ilst 5 (av d) false),(iP e)],oC 1 [(nI 0),(nI 0),(.str 0 0),.nils,.nils],oL 4 1 (map aA g)] 5)),hr (agg [(nI a),(nI b),(aA c),(.ilst 5 (av d) false),(iP e)]),hr (agg [(nI a),(nI b),(aA c),(.ilst 5 (av d) false),(iP e)])]<|gz 4 13 4 1 aA g false<|.y fun n:Int=>.y fun o:Int=>.y fun p:aB=>.y fun q:List Term=>.y fun r:List Pat=>gp 0 96 [(.agg [(nI i),(nI j),(aA k),(.ilst 5 (av l) false),(iP m)]),(iS g)] (.agg [(nI n),(nI o),(aA p),(.ilst 5 (av q) false),(iP r)])<|gE 3 5 (.agg [(nI n),(nI o),(aA p),(.ilst 5 (av q) false),(iP r)])) f g i j k l m s t n o p q r u tv
def bBN (r s:Int)(t:aB)(u:List Term)(v:List Pat)(m n:Int)(o:aB)(p:List Term)(q:List Pat):=fun a b c d e f g i j k l w x y=>(tT 0 (start PP 16 [(.agg [(nI r),(nI s),(aA t),(.ilst 5 (av u) false),(iP v)]),(.agg [(nI m),(nI n),(aA o),(.ilst 5 (av p) false),(iP q)])])<|.y fun a:Int=>.y fun b:Int=>.y fun c:aB=>.y fun d:List Term=>.y fun e:List Pat=>.y fun f:Int=>.y fun g:Int=>.y fun i:aB=>.y fun j:List Term=>.y fun k:List Pat=>.y fun l:Bool=>.i [rn 7,.reg [.d,.pure (.agg [(nI a),(nI b),(aA c),(.ilst 5 (av d) false),(iP e)]),.d,.pure (.agg [(nI f),(nI g),(aA i),(.ilst 5 (av j) false),(iP k)]),.pure (bV l),.d]] [hA (Pure PP 33 [(.agg [(nI r),(nI s),(aA t),(.ilst 5 (av u) false),(iP v)])] (.agg [(nI a),(nI b),(aA c),(.ilst 5 (av d) false),(iP e)])),hA (Pure PP 33 [(.agg [(nI m),(nI n),(aA o),(.ilst 5 (av p) false),(iP q)])] (.agg [(nI f),(nI g),(aA i),(.ilst 5 (av j) false),(iP k)])),hA (Pure PP 28 [(.agg [(nI a),(nI b),(aA c),(.ilst 5 (av d) false),(iP e)]),(.agg [(nI f),(nI g),(aA i),(.ilst 5 (av j) false),(iP k)])] (bV l)),hr (agg [(nI m),(nI n),(aA o),(.ilst 5 (av p) false),(iP q)]),hr (agg [(nI m),(nI n),(aA o),(.ilst 5 (av p) false),(iP q)])]<|gE 1 2 (bV l)) a b c d e f g i j k l w x y tv
abbrev aTn(a:Prog):Nat ×AObj×Bool:=oC 0 [(iN a.nodes),(iI a.funs),(nI a.main),(iC a.cons)]
abbrev aTo(a:List Node)(b:List Int)(c:Int)(d:List Con):Nat×AObj×Bool:=oC 2 [(.gl 4 4 0 a.length false),(.gl 5 1 0 b.length false),(nI c),(.gl 6 2 0 d.length false)]
abbrev aTp:Nat ×AObj×Bool:=oC 1 [.nils,.nils,(nI 0),.nils]
abbrev aTq:Nat ×AObj×Bool:=oC 3 [(.map 7),(.map 8)]
abbrev aTr(a:List (Int×Int)):Nat×AObj×Bool:=(8,(.map (aC aP aP 0 a) a.length),true)
abbrev aTs(a:List (Int×Int)):Nat×AObj×Bool:=(7,(.map (aC aP aP 0 a) a.length),true)
def aTt(j a:Prog)(e:Int)(b:List Node)(c:List Int)(d:List Con)(f:List (Int×Int))(g:Int)(i:List (Int×Int)):TS:=⟨(tf 39 131 [kp 3 0,kp 4 1,(5,(nI 0)),kp 9 2,kp 11 3,(57,(iC a.cons)),(58,(nI (a.cons.length:Int))),(59,(nI g))] [kc f39 1012,kl f39 1012,.inBlock 4,kc f39 127]),[],[aTn a,aTp,aTo b c e d,aTq,oL 4 4 (jN b),oL 5 1 (jI c),oL 6 2 (jC d),aTs f,aTr i],9⟩
def bFR(i d:Prog)(e:Int)(a:List Node)(b:List Int)(c:List Con)(f g:List (Int×Int)):TS:=⟨(tf 39 131 [kp 3 0,kp 4 1,(5,(nI 0)),kp 9 2,kp 11 3] [kc f39 254,kc f39 255]),[],[aTn d,aTp,aTo a b e c,aTq,oL 4 4 (jN a),oL 5 1 (jI b),oL 6 2 (jC c),aTs f,aTr g],9⟩
section
variable (p q:Prog) (mn:Int) (zn:List Node) (zu:List Int)
def FindGoal (zc:List Con)(c:Con)(mf:List (Int×Int))(i:Int)(m:List (Int×Int))(s:TS)(r:Int) :Prop:=
 if r<0 then LeadsM PP 0 s.as (aTt p q mn zn zu (zc++ [c]) mf (i+1) (eJ i ((zc.length:Nat) :Int) m)).as
 else match zc[r.toNat]? with
  | some d=>if d.args=c.args then LeadsM PP 0 s.as (aTt p q mn zn zu zc mf (i+1) (eJ i r m)).as
   else Ends PP 0 s.as (.ret (.tup [aMZ,.int .i64 7])) (aG [] 0)
  |none=>True
theorem FindGoal.of {zc:List Con}{c:Con}{mf:List (Int×Int)}{i:Int}{m:List (Int×Int)}{s s':TS}{r:Int}(h:LeadsM PP 0 s'.as s.as)(g:FindGoal p q mn zn zu zc c mf i m s r) :FindGoal p q mn zn zu zc c mf i m s' r:=by
 unfold FindGoal at g ⊢;split
 · rename_i hr;rw [if_pos hr]at g;exact h.trans g
 · rename_i hr;rw [if_neg hr]at g;split
   · rename_i d hd;rw [hd]at g;simp only at g;split
     · rename_i e;rw [if_pos e]at g;exact h.trans g
     · rename_i e;rw [if_neg e]at g;exact h.ends g
   ·trivial
def ConsB (mf:List (Int×Int))(s:TS) :Option (List Con×List (Int×Int)) →Prop
 |none=>Ends PP 0 s.as (.ret (.tup [aMZ,.int .i64 7])) (aG [] 0)
 |some r=>LeadsM PP 0 s.as (bFR p q mn zn zu r.1 mf r.2).as
theorem ConsB.of {mf:List (Int×Int)}{s s':TS}(h:LeadsM PP 0 s'.as s.as) :∀ {r:Option (List Con×List (Int×Int))},ConsB p q mn zn zu mf s r→ConsB p q mn zn zu mf s' r
 |none,g=>h.ends g
 |some _,g=>h.trans g
end
theorem hasS_mem {l:List aB}{s:aB}:dA l s=true↔s∈l:=by
 simp [dA]
theorem tO :∀ (l pre:List aB),bI pre l=true→l.Nodup∧∀x∈l,x∉pre
 | [],pre,_=> ⟨List.nodup_nil,fun x hx=>by cases hx⟩
 | x::t,pre,h=>by
  simp only [bI,and_eq_true,Bool.not_eq_true']at h;obtain⟨h1,h2⟩ :=tO t (pre++ [x]) h.2
  have hx:x∉pre:=fun hm=>by
   have:=hasS_mem.2 hm;rw [h.1]at this;cases this
  refine⟨List.nodup_cons.2 ⟨fun hm=>h2 x hm (by simp),h1⟩,fun y hy=>?_⟩;rcases List.mem_cons.1 hy with rfl|hy
  ·exact hx
  ·exact fun hm=>h2 y hy (List.mem_append_left _ hm)
structure Fm (p:Prog) :Prop where
 fine:FineP p
 cons:p.cons.length≤25
 dup: ((p.funs.map (pre p p.nodes.length)).flatten).Nodup
 len: ((p.funs.map (pre p p.nodes.length)).flatten).length=p.nodes.length
 into:∀x∈ (p.funs.map (pre p p.nodes.length)).flatten,0≤x∧x<p.nodes.length
 node:∀ (i:Nat) (x:Node),p.nodes[i]?=some x→tG p x=true∧x.pats.length≤10
 names: (p.cons.map Con.name).Nodup
theorem aLG {p:Prog}(hs:mJ p=true)(hf:jH p=true) :Fm p:=by
 have hss:=hs;simp only [mJ,and_eq_true,decide_eq_true_eq]at hss;obtain⟨⟨⟨⟨s1,s2⟩,s3⟩,_⟩,s5⟩ :=hss;obtain⟨a,b,c,d⟩ :=aLC hs hf;refine⟨aCs hs hf,s3,a,b,c,fun i x hx=> ⟨d i x hx,?_⟩,?_⟩
 · have h10:=List.all_eq_true.1 s5 x (mem_of_getElem? hx);simp only [aBI,and_eq_true,decide_eq_true_eq]at h10;omega
 · simp only [jH,and_eq_true,aLj]at hf;exact(tO _ _ hf.1.2.2).1
def ltS (a b:aB) :Bool:=Op.bytesLess a b
theorem aBR (a b:aB) :Op.bytesLess (aW (length a) (aD a)) (aW (length b) (aD b)) =ltS a b:=by
 rw [dN,dN];rfl
def tP (s:aB) :List aB→List aB
 | [] =>[s]
 |x::l=>if ltS x s=true then x::tP s l else if x=s then x::l else s::x::l
theorem aJB {α:Type}{l:List α}{i:Nat}{y:α}(h:l[i]?=some y) :l.take (i+1) =l.take i++ [y] :=by
 rw [List.take_add_one,h];rfl
theorem aJC (l:List aB)(s:aB)(hl:l.length≤900000) :∀ (t:List aB) (i:Nat),l.drop i=t→i≤l.length→Ends PP 0 (aHG l s (i:Int)).as (.ret (.ilst 1 (map aA (l.take i++tP s t)) false)) (aG [] 0)
 | [],i,h,hi=>by
  have hn:=bL h;have:=bBf l s i sd sd (by simpa using hi) (by simp;omega) (by simp;omega) (by simp;omega);rw [toNat_natCast,h,append_nil]at this;exact this
 | y ::t,i,h,_=>by
  obtain⟨g1,g2,g3⟩ :=bH h;rw [tP];cases e:ltS y s with
  | true=>
   rw [if_pos rfl];have:=aJC l s hl t (i+1) g2 (by omega);rw [aJB g1,append_assoc]at this;exact(bBc l s i y sd sd sd (by rw [aBR];exact e) sd).ends this
  | false=>
   rw [if_neg (by simp)];by_cases hx:y=s
   · rw [if_pos hx,←h,List.take_append_drop];exact bBd l s i y sd sd sd (by rw [aBR];exact e) (by rw [cA];simp [hx])
   · rw [if_neg hx];have:=bBe l s i y sd sd sd (by rw [aBR];exact e) (by rw [cA];simp [hx]) (by simp;omega) (by simp;omega) (by simp;omega) (by simp;omega);rw [toNat_natCast,h,append_assoc]at this;exact this
theorem aTu (l:List aB)(s:aB)(hl:l.length≤900000) :Pure PP 167 [.ilst 1 (map aA l) false,aA s] (.ilst 1 (map aA (tP s l)) false) :=by
 have:=aJC l s hl l 0 rfl (by omega);rw [List.take_zero,List.nil_append]at this;exact cB (s:=bEb l s) (by kernel_rfl) (by kernel_rfl) (by simp [keylessL,keyless,aA]) (by simp [keyless]) ((bBb l s).ends this)
def zQ (b:List aB) :List aB→List aB→List aB
 | [],acc=>acc
 |x::l,acc=>zQ b l (if dA b x=true then acc else tP x acc)
mutual
def cK :Term→List aB
 | .mk o _ s ks ps=>if o=4 then [s]else iO o s ps 0 ks []
def iO (o:Int)(s:aB)(ps:List Pat) :Nat→List Term→List aB→List aB
 |_,[],acc=>acc
 |i,k::ks,acc=>iO o s ps (i+1) ks (zQ (aR o s ps i) (cK k) acc)
end
theorem aA5 (s:aB) :∀l:List aB,(tP s l).length≤l.length+1
 | [] =>by simp [tP]
 | x::l=>by
  have:=aA5 s l;rw [tP]
  repeat' split
  all_goals simp only [length_cons];omega
theorem wL (b:List aB) :∀ (l acc:List aB),(zQ b l acc).length≤acc.length+l.length
 | [],acc=>by simp [zQ]
 | x::l,acc=>by
  rw [zQ];have h2:=aA5 x acc;simp only [length_cons];by_cases e:dA b x=true
  ·rw [if_pos e];have:=wL b l acc;omega
  ·rw [if_neg e];have:=wL b l (tP x acc);omega
mutual
theorem sG :∀t:Term,(cK t).length≤bD t
 | .mk o n s ks ps=>by
  rw [cK,bD];split
  ·simp
  · have:=aEm o s ps 0 ks [];simp at this;omega
theorem aEm (o:Int)(s:aB)(ps:List Pat) :∀ (i:Nat) (ks:List Term) (acc:List aB),(iO o s ps i ks acc).length≤acc.length+aY ks
 |i,[],acc=>by simp [iO]
 | i,k::ks,acc=>by
  rw [iO,aY];have h1:=sG k;have h2:=wL (aR o s ps i) (cK k) acc;have h3:=aEm o s ps (i+1) ks (zQ (aR o s ps i) (cK k) acc);omega
end
abbrev aTv (t:Term) :Prop:=Pure PP 95 [Term.av t] (.ilst 1 (map aA (cK t)) false)
section
variable (o n:Int) (s:aB) (ks:List Term) (ps:List Pat)
theorem aLH (v b:List aB)(i4:Nat)(hi4:i4≤1000)(hb:b.length≤1000)(hv:v.length≤400000) :∀ (t:List aB) (i:Nat) (acc:List aB),v.drop i=t→acc.length+t.length≤800000 →
  LeadsM PP 0 (aEh o n s ks ps v b acc (i:Int) (i4:Int)).as (aEg o n s ks ps ((i4:Int) +1) (zQ b t acc)).as
 | [],i,acc,h,hl=>by
  have:=bL h;exact bBm o n s ks ps v b acc i i4 sd sd
 | x::t,i,acc,h,hl=>by
  obtain⟨g1,g2,g3⟩ :=bH h;simp only [length_cons]at hl;have hh:=rZ b x (by omega);rw [zQ];cases e:dA b x with
  | true=>
   rw [e]at hh;rw [if_pos rfl];exact(bBl o n s ks ps v b acc i i4 x true sd sd sd hh rfl sd).trans (aLH v b i4 hi4 hb hv t (i+1) acc g2 (by omega))
  | false=>
   rw [e]at hh;rw [if_neg (by simp)];have:=aA5 x acc;exact(bBk o n s ks ps v b acc i i4 x false _ sd sd sd hh rfl (aTu acc x (by omega)) sd).trans (aLH v b i4 hi4 hb hv t (i+1) (tP x acc) g2 (by omega))
theorem aJD (hs:uE (.mk o n s ks ps) =true)(hz:aY ks≤400000)(ih:∀q∈ks,aTv q) :∀ (t:List Term) (i:Nat) (acc:List aB),ks.drop i=t→acc.length+aY t≤400000 →
  Ends PP 0 (aEg o n s ks ps (i:Int) acc).as (.ret (.ilst 1 (map aA (iO o s ps i t acc)) false)) (aG [] 0)
 | [],i,acc,h,hl=>by
  have:=bL h;have:= (iM hs).2.1;rw [iO];exact bBj o n s ks ps i acc sd
 | q::t,i,acc,h,hl=>by
  obtain⟨g1,g2,g3⟩ :=bH h;have hk:= (iM hs).2.1;have hq:=ih _ (mem_of_getElem? g1);have hql:=sG q;have hpl:=wL (aR o s ps i) (cK q) acc;rw [iO];rw [aY]at hl;have L:=aLH o n s ks ps (cK q) (aR o s ps i) i (by omega) (zN (iM hs).2.2.1) (by omega) (cK q) 0 acc rfl (by omega);obtain⟨q0,q1,q2,q3,q4⟩ :=q;exact((bBi o n s ks ps i acc q0 q1 q2 q3 q4 _ _ sd sd sd hq (tM hs g3)).trans L).ends (aJD hs hz ih t (i+1) _ g2 (by omega))
end
mutual
theorem aTw :∀ (q:Term),uE q=true→bD q≤400000→aTv q
 | .mk o n s ks ps,h,hz=>by
  rw [bD]at hz;refine cB (s:=bEc o n s ks ps) (by kernel_rfl) (by kernel_rfl) (by simp [keylessL,keyless,dF]) (by simp [keyless]) ?_;rw [cK];by_cases h4:o=4
  · rw [if_pos h4];exact bBg o n s ks ps (by simp [h4])
  · rw [if_neg h4];exact(bBh o n s ks ps (by simp [h4])).ends (aJD o n s ks ps h (by omega) (aHM ks (iM h).2.2.2 (by omega)) ks 0 [] rfl (by simp;omega))
theorem aHM :∀ (ks:List Term),lS ks=true→aY ks≤400000→∀q∈ks,aTv q
 | [],_,_,q,hq=>by cases hq
 | k::ks,h,hz,q,hq=>by
  rw [lS,and_eq_true]at h;rw [aY]at hz;rcases List.mem_cons.1 hq with e|hq
  ·rw [e];exact aTw k h.1 (by omega)
  ·exact aHM ks h.2 (by omega) q hq
end
abbrev SL (l:List aB) :List (Nat×AObj×Bool) :=[(0,.lst 1 (map aA l),true)]
abbrev bEs (t:Term) :Prop:=rW PP 0 (.enter 95 [Term.av t]) (aG [] 0) (.ret (.gl 0 1 0 (length (cK t)) false)) (aG (SL (cK t)) 1)
section
variable (o n:Int) (s:aB) (ks:List Term) (ps:List Pat)
theorem aM5 (x:aB)(v b:List aB)(k7 i4:Nat)(hk7:k7≤900000)(l:List aB)(hl:l.length≤900000) :∀ (t:List aB) (i:Nat),l.drop i=t→i≤l.length →
  LeadsM PP 0 (aHL o n s ks ps x v b (i:Int) (k7:Int) l (i4:Int)).as (wK o n s ks ps v b ((k7:Int) +1) (l.take i++tP x t) (i4:Int)).as
 | [],i,h,hi=>by
  have hn:=bL h;have:=bBG o n s ks ps x v b i k7 l i4 sd sd (by simpa using hi) (by simpa using hi) (by simp;omega) (by simp;omega) (by rw [toNat_natCast];omega) (by simp;omega) sd;rw [toNat_natCast,List.drop_zero,h,List.take_nil,append_nil]at this;exact this
 | y ::t,i,h,hi=>by
  obtain⟨g1,g2,g3⟩ :=bH h;rw [tP];cases e:ltS y x with
  | true=>
   rw [if_pos rfl];have:=aM5 x v b k7 i4 hk7 l hl t (i+1) g2 (by omega);rw [aJB g1,append_assoc]at this;exact(bBD o n s ks ps x v b i k7 l i4 y sd sd sd sd (by rw [aBR];exact e) sd).trans this
  | false=>
   rw [if_neg (by simp)];by_cases hx:y=x
   · rw [if_pos hx,←h,List.take_append_drop];exact bBE o n s ks ps x v b i k7 l i4 y sd sd sd sd (by rw [aBR];exact e) (by rw [cA];simp [hx]) sd
   · rw [if_neg hx];have hl1: (y::t).length=l.length-i:=by rw [←h,List.length_drop]
     have:=bBF o n s ks ps x v b i k7 l i4 y sd sd sd sd (by rw [aBR];exact e) (by rw [cA];simp [hx]) (by rw [toNat_natCast];omega) (by rw [toNat_natCast];omega) (by simp;omega) (by simp;omega) (by rw [toNat_natCast];omega) (by simp;omega) sd;rw [toNat_natCast,List.drop_zero,h,←hl1,List.take_length,append_assoc]at this;exact this
theorem aLI (v b:List aB)(i4:Nat)(hi4:i4≤1000)(hb:b.length≤1000)(hv:v.length≤400000) :∀ (t:List aB) (i:Nat) (acc:List aB),v.drop i=t→acc.length+t.length≤800000 →
  LeadsM PP 0 (wK o n s ks ps v b (i:Int) acc (i4:Int)).as (aEl o n s ks ps ((i4:Int) +1) (zQ b t acc)).as
 | [],i,acc,h,hl=>by
  have:=bL h;exact bBC o n s ks ps v b i acc i4 sd sd
 | x::t,i,acc,h,hl=>by
  obtain⟨g1,g2,g3⟩ :=bH h;simp only [length_cons]at hl;have hh:=rZ b x (by omega);rw [zQ];cases e:dA b x with
  | true=>
   rw [e]at hh;rw [if_pos rfl];exact(bBB o n s ks ps v b i acc i4 x true sd sd sd hh rfl sd).trans (aLI v b i4 hi4 hb hv t (i+1) acc g2 (by omega))
  | false=>
   rw [e]at hh;rw [if_neg (by simp)];have:=aA5 x acc;have hp:=aM5 o n s ks ps x v b i i4 (by omega) acc (by omega) acc 0 rfl (by omega);rw [List.take_zero,List.nil_append]at hp;exact((bBA o n s ks ps v b i acc i4 x false sd sd sd hh rfl).trans hp).trans (aLI v b i4 hi4 hb hv t (i+1) (tP x acc) g2 (by omega))
theorem aJE (hs:uE (.mk o n s ks ps) =true)(hz:aY ks≤400000) :∀ (t:List Term) (i:Nat) (acc:List aB),ks.drop i=t→acc.length+aY t≤400000 →
  Ends PP 0 (aEl o n s ks ps (i:Int) acc).as (.ret (.gl 0 1 0 (length (iO o s ps i t acc)) false)) (aG (SL (iO o s ps i t acc)) 1)
 | [],i,acc,h,hl=>by
  have:=bL h;have:= (iM hs).2.1;rw [iO];exact bBz o n s ks ps i acc sd
 | q::t,i,acc,h,hl=>by
  obtain⟨g1,g2,g3⟩ :=bH h;have hk:= (iM hs).2.1;have hq:=aHM ks (iM hs).2.2.2 hz q (mem_of_getElem? g1);have hql:=sG q;have hpl:=wL (aR o s ps i) (cK q) acc;rw [iO];rw [aY]at hl;have L:=aLI o n s ks ps (cK q) (aR o s ps i) i (by omega) (zN (iM hs).2.2.1) (by omega) (cK q) 0 acc rfl (by omega);obtain⟨q0,q1,q2,q3,q4⟩ :=q;exact((bBy o n s ks ps i acc q0 q1 q2 q3 q4 _ _ sd sd sd hq (tM hs g3)).trans L).ends (aJE hs hz t (i+1) _ g2 (by omega))
theorem aTx (h:uE (.mk o n s ks ps) =true)(hz:aY ks≤400000) :bEs (.mk o n s ks ps) :=by
 have E:Ends PP 0 (aTk o n s ks ps).as (.ret (.gl 0 1 0 (length (cK (.mk o n s ks ps))) false)) (aG (SL (cK (.mk o n s ks ps))) 1) :=by
  rw [cK];by_cases h4:o=4
  · rw [if_pos h4];exact bBw o n s ks ps (by simp [h4])
  · rw [if_neg h4];exact(bBx o n s ks ps (by simp [h4])).ends (aJE o n s ks ps h hz ks 0 [] rfl (by simp;omega))
 exact⟨(aTk o n s ks ps).as.fr,by kernel_rfl,Eq.mp (by kernel_rfl) E⟩
end
theorem aTy {a b:Nat}(ha:a<26)(hb:b<26)(h:kF (97+ (a:Int)) =kF (97+ (b:Int))) :a=b:=by
 have e1: (97+ (a:Int)).toNat=97+a:=by omega
 have e2: (97+ (b:Int)).toNat=97+b:=by omega
 simp only [kF,e1,e2,List.cons.injEq,and_true]at h;have h:=congrArg UInt8.toNat h;simp only [UInt8.toNat_ofNat']at h;have e3: (97+a) % 2 ^ 8=97+a:=Nat.mod_eq_of_lt (by omega);have e4: (97+b) % 2 ^ 8=97+b:=Nat.mod_eq_of_lt (by omega);omega
theorem aM6 (n:Nat) :eP n≠ [] :=by
 have:=aBO 0 n (by simp [sF]);intro h;rw [h]at this;simp at this
theorem aJF :∀ (n m:Nat),eP n=eP m→n=m:=by
 intro n
 induction n using Nat.strongRecOn with
 | ind n ih=>
  intro m h
  have L:∀k:Nat,∃p,eP k=p++kF (97+ (k % 26:Nat)) ∧ (k<26→p= []) ∧ (¬k<26→p=eP (k / 26-1)) :=fun k=>by
   by_cases hk:k<26
   ·exact⟨[],by rw [tJ hk,Nat.mod_eq_of_lt hk];rfl,fun _=>rfl,fun g=>absurd hk g⟩
   ·exact⟨_,tK hk,fun g=>absurd g hk,fun _=>rfl⟩
  obtain⟨p,e1,p1,p2⟩ :=L n;obtain⟨q,e2,q1,q2⟩ :=L m;rw [e1,e2]at h;have hc:=List.append_inj' h (by simp [kF]);have hm:=aTy (Nat.mod_lt _ (by omega)) (Nat.mod_lt _ (by omega)) hc.2;by_cases hn:n<26
  · by_cases hm2:m<26
    ·omega
    · rw [p1 hn,q2 hm2]at hc;exact absurd hc.1.symm (aM6 _)
  · by_cases hm2:m<26
    · rw [p2 hn,q1 hm2]at hc;exact absurd hc.1 (aM6 _)
    · rw [p2 hn,q2 hm2]at hc;have:=ih (n / 26-1) (by omega) (m / 26-1) hc.1;omega
theorem aTz {α:Type}[DecidableEq α](f:Nat→α)(hf:∀i j,f i=f j→i=j) :∀ (n:Nat) (l:List α),l.length=n→∃i,i≤n∧f i∉l
 |0,l,h=> ⟨0,Nat.le_refl _,by rw [List.length_eq_zero_iff.1 h];simp⟩
 | n +1,l,h=>by
  by_cases hm:f (n+1) ∈l
  · obtain⟨i,hi,hn⟩ :=aTz f hf n (l.erase (f (n+1))) (by rw [List.length_erase_of_mem hm];omega);refine⟨i,by omega,fun g=>hn ((List.mem_erase_of_ne (fun e=>?_)).2 g)⟩;have:=hf _ _ e;omega
  ·exact⟨n+1,Nat.le_refl _,hm⟩
def pQ (l:List aB)(i:Nat) :Bool:=dK (eP i) && !dA l (eP i)
def zR (l:List aB) :Nat→Nat→aB
 |0,i=>eP i
 |f+1,i=>if pQ l i=true then eP i else zR l f (i+1)
def kG (l:List aB) :aB:=zR l (sF 6+l.length+1) 0
theorem aM7 (l:List aB)(hl:l.length≤1000000) :∃j,j<sF 6+l.length+1∧pQ l j=true:=by
 obtain⟨i,hi,hn⟩ :=aTz (fun i=>eP (sF 6+i)) (fun i j e=>by have:=aJF _ _ e;omega) l.length l rfl;refine⟨sF 6+i,by omega,?_⟩;have h8:sF 8=217180147158:=by kernel_rfl
 have h6:sF 6=321272406:=by kernel_rfl
 have hg:=aOe (n:=sF 6+i) (by omega) (by rw [h8,h6];omega);unfold pQ;rw [hg];cases e:dA l (eP (sF 6+i))with
 |true=>exact absurd (hasS_mem.1 e) hn
 |false=>rfl
theorem aCt (l:List aB) :∀ (f i:Nat),(∃j,i≤j∧j<i+f∧pQ l j=true) →∃j,i≤j∧j<i+f∧zR l f i=eP j∧pQ l j=true
 |0,i,⟨j,h1,h2,_⟩ =>by omega
 | f +1,i,⟨j,h1,h2,h3⟩ =>by
  rw [zR];by_cases hg:pQ l i=true
  ·exact⟨i,Nat.le_refl _,by omega,if_pos hg,hg⟩
  · rw [if_neg hg];have hij:i≠j:=fun e=>hg (e ▸ h3);obtain⟨k,k1,k2,k3,k4⟩ :=aCt l f (i+1) ⟨j,by omega,by omega,h3⟩;exact⟨k,by omega,by omega,k3,k4⟩
theorem aJG (l:List aB)(hl:l.length≤1000000) :dK (kG l) =true∧kG l∉l:=by
 obtain⟨j,h1,h2⟩ :=aM7 l hl;obtain⟨k,_,_,e,g⟩ :=aCt l (sF 6+l.length+1) 0 ⟨j,by omega,by omega,h2⟩;unfold kG;rw [e];simp only [pQ,and_eq_true,Bool.not_eq_true']at g;exact⟨g.1,fun h=>by rw [hasS_mem.2 h]at g;cases g.2⟩
theorem aTA (l:List aB)(n:Nat)(hn:n≤900000000)(hl:l.length≤1000000) :∀ (t:List aB) (i:Nat),l.drop i=t →
  (dA t (eP n) =true→LeadsM PP 1 (aEk l (eP n) (n:Int) (i:Int)).as (zO l ((n:Int) +1)).as) ∧ (dA t (eP n) =false→Ends PP 1 (aEk l (eP n) (n:Int) (i:Int)).as (.ret (aA (eP n))) (aG (SL l) 1))
 | [],i,h=>by
  have:=bL h;exact⟨fun g=>by simp [dA]at g,fun _=>bBv l (eP n) n i (eP n) sd (aEi n (by omega))⟩
 | y ::t,i,h=>by
  obtain⟨g1,g2,g3⟩ :=bH h;obtain⟨a1,a2⟩ :=aTA l n hn hl t (i+1) g2;have e:dA (y::t) (eP n) = (decide (y=eP n) ||dA t (eP n)) :=by simp [dA]
  rw [e];by_cases hy:y=eP n
  · have:=bBt l (eP n) n i y sd sd sd sd (by rw [cA];simp [hy]) sd;exact⟨fun _=>this,fun g=>by simp [hy]at g⟩
  · have:=bBu l (eP n) n i y sd sd sd sd (by rw [cA];simp [hy]) sd;rw [decide_eq_false hy,Bool.false_or];exact⟨fun g=>this.trans (a1 g),fun g=>this.ends (a2 g)⟩
theorem aJH (l:List aB)(hl:l.length≤1000000) :∀ (f i:Nat),(∃j,i≤j∧j<i+f∧pQ l j=true) →i+f≤900000000→Ends PP 1 (zO l (i:Int)).as (.ret (aA (zR l f i))) (aG (SL l) 1)
 |0,i,⟨j,h1,h2,_⟩,_=>by omega
 | f +1,i,⟨j,h1,h2,h3⟩,hb=>by
  have hp:=aEi i (by omega);have hn:=lI (eP i)
  have ih:pQ l i=false→Ends PP 1 (zO l ((i:Int) +1)).as (.ret (aA (zR l f (i+1)))) (aG (SL l) 1) :=fun hg=>by
   have hij:i≠j:=fun e=>by rw [e,h3]at hg;cases hg
   exact aJH l hl f (i+1) ⟨j,by omega,by omega,h3⟩ (by omega)
  rw [zR];obtain⟨a1,a2⟩ :=aTA l i (by omega) hl l 0 rfl;cases hg:dK (eP i)with
  | false=>
   rw [hg]at hn;have e:pQ l i=false:=by simp [pQ,hg]
   rw [e,if_neg (by simp)];exact(bBr l i (eP i) false hp hn rfl sd).ends (ih e)
  | true=>
   rw [hg]at hn;have h0:=bBs l i (eP i) true (eP i) hp hn rfl hp;cases hh:dA l (eP i)with
   | true=>
    have e:pQ l i=false:=by simp [pQ,hh]
    rw [e,if_neg (by simp)];exact(h0.trans (a1 hh)).ends (ih e)
   | false=>
    have e:pQ l i=true:=by simp [pQ,hh,hg]
    rw [e,if_pos rfl];exact h0.ends (a2 hh)
theorem aTB (l:List aB)(hl:l.length≤1000000) :rW PP 1 (.enter 166 [.gl 0 1 0 (length l) false]) (aG (SL l) 1) (.ret (aA (kG l))) (aG (SL l) 1) :=by
 have h6:sF 6=321272406:=by kernel_rfl
 obtain⟨j,h1,h2⟩ :=aM7 l hl;have E:= (bBq l).ends (aJH l hl (sF 6+l.length+1) 0 ⟨j,by omega,by omega,h2⟩ (by rw [h6];omega));exact⟨(bEj l).as.fr,by kernel_rfl,Eq.mp (by kernel_rfl) E⟩
def nodeAt (p:Prog)(k:Int) :Node:= (p.nodes[k.toNat]?).getD ⟨0,0,[],[]⟩
theorem aBS {p:Prog}{k:Int}{x:Node}(h:p.nodes[k.toNat]?=some x) :nodeAt p k=x:=by unfold nodeAt;rw [h];rfl
def zS (p:Prog) :List Int:= (p.funs.map (pre p p.nodes.length)).flatten
def KidsAfter (p:Prog)(l:List Int) :Prop:=∀ (i:Nat) (k c:Int),l[i]?=some k→c∈fL p k→∃j,i<j∧l[j]?=some c
theorem KidsAfter.append {p:Prog}{l m:List Int}(h1:KidsAfter p l)(h2:KidsAfter p m) :KidsAfter p (l++m) :=fun i k c hi hc=>by
 by_cases h:i<l.length
 · rw [List.getElem?_append_left h]at hi;obtain⟨j,hj,e⟩ :=h1 i k c hi hc;exact⟨j,hj,by rw [List.getElem?_append_left (List.getElem?_eq_some_iff.1 e).1];exact e⟩
 · rw [List.getElem?_append_right (by omega)]at hi;obtain⟨j,hj,e⟩ :=h2 _ k c hi hc;exact⟨l.length+j,by omega,by rw [List.getElem?_append_right (by omega),show l.length+j-l.length=j by omega];exact e⟩
theorem KidsAfter.flatten {p:Prog}:∀ {L:List (List Int)},(∀l∈L,KidsAfter p l) →KidsAfter p L.flatten
 | [],_=>fun i k c hi _=>by simp at hi
 | l::L,h=>by
  rw [List.flatten_cons];exact(h l (List.mem_cons_self ..)).append (KidsAfter.flatten fun m hm=>h m (List.mem_cons_of_mem _ hm))
theorem aJI {p:Prog}(h:Fm p){k:Int}(h0:0≤k)(h1:k<p.nodes.length) :∃i:Nat,(zS p)[i]?=some k:=by
 refine List.mem_iff_getElem?.1 ?_;have hd: ((zS p).map toNat).Nodup:=by
  have hd:=h.dup;rw [List.nodup_iff_pairwise_ne]at hd ⊢;refine List.pairwise_map.2 (hd.imp_of_mem (fun {a b} ha hb hne e=>?_));have:=h.into a ha;have:=h.into b hb;exact hne (by omega)
 by_cases hm:k∈zS p
 ·exact hm
 · have h2:=xH (p.nodes.length) (k.toNat:: (zS p).map toNat) (List.nodup_cons.2 ⟨fun hm2=>by
    obtain⟨y,hy,e⟩ :=List.mem_map.1 hm2;have:=h.into y hy;exact hm ((show y=k by omega) ▸ hy),hd⟩) (fun x hx=>by
    rcases List.mem_cons.1 hx with rfl|hx
    ·omega
    · obtain⟨y,hy,rfl⟩ :=List.mem_map.1 hx;have:=h.into y hy;omega)
   rw [length_cons,length_map]at h2;have:=h.len;unfold zS at h2;omega
structure Laid (a:Prog) (off:Nat) (p:Prog) (mf mc:List (Int×Int)) (to:List Int) :Prop where
 node:∀ (i:Nat) (k:Int),(zS p)[i]?=some k→a.nodes[off+i]?=some (aCp mf mc to (nodeAt p k))
 to:∀ (i:Nat) (k:Int),(zS p)[i]?=some k→aHe to k= ((off+i:Nat) :Int)
section
variable {a p:Prog} {off:Nat} {mf mc:List (Int×Int)} {to:List Int}
theorem Laid.at (h:Laid a off p mf mc to)(hp:Fm p){k:Int}(h0:0≤k)(h1:k<p.nodes.length) :0≤aHe to k∧a.nodes[(aHe to k).toNat]?=some (aCp mf mc to (nodeAt p k)) :=by
 obtain⟨i,hi⟩ :=aJI hp h0 h1;have e:=h.to i k hi;rw [e,toNat_natCast];exact⟨by omega,h.node i k hi⟩
theorem Laid.pre (h:Laid a off p mf mc to)(hp:Fm p) :∀ (f:Nat) (k:Int),0≤k→k<p.nodes.length→p.nodes.length-k.toNat≤f→pre a f (aHe to k) = (pre p f k).map (aHe to)
 |0,k,h0,h1,h2=>by omega
 | f+1,k,h0,h1,h2=>by
  obtain⟨x,hx⟩ :∃x,p.nodes[k.toNat]?=some x:= ⟨_,List.getElem?_eq_getElem (by omega)⟩;obtain⟨g0,g1⟩ :=h.at hp h0 h1;rw [aBS hx]at g1;rw [Go.Hb.pre,Go.Hb.pre,hx,g1];simp only [List.map_cons,List.map_flatten,List.map_map,aCp];congr 2
  exact List.map_congr_left (fun c hc=>by
   have:= (hp.fine.node _ _ hx).2.2 c hc;exact h.pre hp f c (by omega) (by omega) (by omega))
end
end
end Go.Hb
