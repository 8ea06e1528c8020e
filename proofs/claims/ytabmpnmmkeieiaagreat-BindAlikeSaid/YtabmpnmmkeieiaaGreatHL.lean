/- A machine on abstract values, its soundness, ways, plain laws. -/
import Derived.Test.YtabmpnmmkeieiaaGreatHF
import Derived.Test.YtabmpnmmkeieiaaGreatHG
import Derived.Test.YtabmpnmmkeieiaaGreatHI
import Derived.Test.YtabmpnmmkeieiaaGreatHJ
import Derived.Test.YtabmpnmmkeieiaaGreatHK
set_option linter.defProp false
set_option linter.unusedVariables false
set_option linter.unusedSimpArgs false
set_option linter.unusedSectionVars false
set_option maxRecDepth 100000
set_option maxHeartbeats 4000000
namespace Go.Hb
open List (length length_append length_cons length_nil map)
open Go.Proofs Tryz
noncomputable section
def ckn (cs:List Con)(s:aB)(k:Int) :Bool:=decide (0≤eB s cs 0) && (match cs[(eB s cs 0).toNat]? with|some c=>decide (c.args=k) |none=>false)
mutual
def knP (cs:List Con) :Pat→Bool
 | .mk f _ s ps=> (if f=6 then ckn cs s (length ps)else true) &&aA3 cs ps
def aA3 (cs:List Con) :List Pat→Bool
 | [] =>true
 |p::ps=>knP cs p&&aA3 cs ps
end
mutual
def knT (fs:List aB)(cs:List Con) :Term→List aB→Bool
 | .mk o _ s ks ps,env=>if o=4 then dA env s||dA fs s else(if o=14 then ckn cs s (length ks)else true) &&ps.all (knP cs) &&aEb fs cs o s ps ks 0 env
def aEb (fs:List aB)(cs:List Con)(o:Int)(s:aB)(ps:List Pat) :List Term→Nat→List aB→Bool
 | [],_,_=>true
 |t::ts,i,env=>knT fs cs t (env++aR o s ps i) &&aEb fs cs o s ps ts (i+1) env
end
theorem aSY {cs:List Con}{s:aB}(h:0≤eB s cs 0) :∃c,cs[(eB s cs 0).toNat]?=some c:=by
 rcases kT s cs 0 (by omega)with e| ⟨_,_,d,hd,_⟩
 ·omega
 ·rw [Int.sub_zero]at hd;exact⟨d,hd⟩
abbrev jB (o n:Int)(s:aB)(ks:List Term)(ps:List Pat) :AObj:=.cells (putCells .leaf 0 [.int .i64 o,.int .i64 n,aA s,.ilst 5 (Terms.av ks) false,.ilst 4 (Pats.av ps) false]) 5 [] false
theorem aFQ {ps:List Pat}(h:∀p∈ps,aV p≤1000)(o:Int)(s:aB)(k:Nat) : (aR o s ps k).length≤1000:=by
 unfold aR;split
 ·simp
 · split
   ·split<;>simp
   · split
     · cases k with
       |zero=>simp
       | succ j=>
        simp only;cases hp:ps[j]? with
        |none=>simp
        | some p=>
         have:=mK p;have:=h p (List.mem_of_getElem? hp);simp only;omega
     ·simp
theorem aZ3 {o n:Int}{s:aB}{k m:Int}(h:aL o n s k m=true)(h15:o=15) :k=1+m:=by
 subst h15;simp [aL]at h;exact h.1.2
theorem aSZ {α:Type}{f:α→AV}{a b:List α}(h:length (a++b) ≤1000000) :length (map f a) +length (map f b) ≤1000000:=by
 rw [List.length_map,List.length_map,←length_append];exact h
def aS0(a b:List (aB×Int))(c:List Int)(d:aB)(e:Int):TS:=bQ PP 109 [(.agg [(.map 0),(.map 1),(iI c)]),(aA d),(nI e)] [(0,(.map (aC aA aP 0 a) a.length),true),(1,(.map (aC aA aP 0 b) b.length),true)] 2
def aS1(a b:List (aB×Int))(c:List Int)(d:aB)(e:List aB)(f:aB):TS:=bQ PP 108 [(.agg [(.map 0),(.map 1),(iI c),(iS (d::e))]),(aA f)] [(0,(.map (aC aA aP 0 a) a.length),true),(1,(.map (aC aA aP 0 b) b.length),true)] 2
def aHy(a b:List (aB×Int))(c:List Int)(d:aB)(e:List aB)(f:aB)(g:Int):TS:=⟨(tf 108 38 [(1,(aA f)),kp 2 2,(4,(nI 0)),(5,(nI g))] [kc f108 52,kl f108 52,.inBlock 0,kc f108 7]),[],[(0,(.map (aC aA aP 0 a) a.length),true),(1,(.map (aC aA aP 0 b) b.length),true),oC 2 [(.map 0),(.map 1),(iI c),(iS (d::e))]],3⟩
def bD3(a b:List (aB×Int))(c:List Int)(d:aB)(e f:List aB):TS:=bQ PP 110 [(.agg [(.map 0),(.map 1),(iI c),(iS (d::e))]),(iS f)] [(0,(.map (aC aA aP 0 a) a.length),true),(1,(.map (aC aA aP 0 b) b.length),true)] 2
def aJj(a:Mod):TS:=bQ PP 43 [(.agg [(aA a.name),(.ilst 2 (map DataD.av a.datas) false),(.ilst 15 (FunDs.av a.funs) false)])] [] 0
def aBM(a:Mod)(e:Int)(b:List Con)(c:List (aB×Int))(d:List Int):TS:=⟨(tf 43 108 [kp 1 0,kp 2 1,(3,.nils),kp 4 2,(5,(.gl 3 2 0 b.length false)),(22,(.ilst 2 (map DataD.av a.datas) false)),(23,(nI (a.datas.length:Int))),(24,(nI e))] [kc f43 244,kl f43 244,.inBlock 0,kc f43 31]),[],[oC 0 [(aA a.name),(.ilst 2 (map DataD.av a.datas) false),(.ilst 15 (FunDs.av a.funs) false)],oC 1 [.nilm,.nilm,.nils],oC 2 [(.map 4),(.map 5),(.gl 6 1 0 d.length false)],oL 3 2 (jC b),(4,(.map (aC aA aP 0 ([] :List (aB×Int))) ([] :List (aB×Int)).length),true),(5,(.map (aC aA aP 0 c) c.length),true),oL 6 1 (jI d)],7⟩
def aHz(a:Mod)(e:List ConD)(f g:Int)(b:List Con)(c:List (aB×Int))(d:List Int)(i:Int):TS:=⟨(tf 43 108 [kp 1 0,kp 2 1,(3,.nils),kp 4 2,(5,(.gl 3 2 0 b.length false)),(22,(.ilst 2 (map DataD.av a.datas) false)),(23,(nI (a.datas.length:Int))),(24,(nI i)),(29,(.ilst 2 (map ConD.av e) false)),(30,(nI f)),(31,(nI g))] [kc f43 62668,kl f43 62668,.inBlock 2,.inBlock 1,kc f43 1959,kl f43 244,.inBlock 0,kc f43 31]),[],[oC 0 [(aA a.name),(.ilst 2 (map DataD.av a.datas) false),(.ilst 15 (FunDs.av a.funs) false)],oC 1 [.nilm,.nilm,.nils],oC 2 [(.map 4),(.map 5),(.gl 6 1 0 d.length false)],oL 3 2 (jC b),(4,(.map (aC aA aP 0 ([] :List (aB×Int))) ([] :List (aB×Int)).length),true),(5,(.map (aC aA aP 0 c) c.length),true),oL 6 1 (jI d)],7⟩
def aBN(a:Mod)(f:Int)(b:List (aB×Int))(c:List Con)(d:List (aB×Int))(e:List Int):TS:=⟨(tf 43 108 [kp 2 0,(3,.nils),kp 4 1,(5,(.gl 2 2 0 c.length false)),(72,(.ilst 15 (FunDs.av a.funs) false)),(73,(nI (a.funs.length:Int))),(74,(nI f))] [kc f43 500,kl f43 500,.inBlock 4,kc f43 63]),[],[oC 0 [.nilm,.nilm,.nils],oC 1 [(.map 3),(.map 4),(.gl 5 1 0 e.length false)],oL 2 2 (jC c),(3,(.map (aC aA aP 0 b) b.length),true),(4,(.map (aC aA aP 0 d) d.length),true),oL 5 1 (jI e)],6⟩
def aS2(a b:Int)(c:aB)(d:List Term)(e:List Pat)(f:Int):TS:=bQ PP 111 [(.agg [(nI a),(nI b),(aA c),(.ilst 5 (Terms.av d) false),(iP e)]),(nI f)] [] 0
def aS3(b a:List (aB×Int))(e:List Int)(c:aB)(f:Int):=tT 2 (aS0 b a e c f)<|.o (.y fun d:Int=>.i [rn 10,.ans (.look (some (qZ c a,(aP d))))] [.a (cQ c a=some d) (p':=eK (aA c) (aC aA aP 0 a) 0=some (some (qZ c a,(aP d)))) (mI fD)]<|gX aP 15 e d<|fun g=>.b 5 26 (g != f) (.P 5 3 [] [((.iface 82 (.agg [])),false)] [(0,(.map (aC aA aP 0 b) b.length),true),(1,(.map (aC aA aP 0 a) a.length),true)] 2)<|.E 8 3 [] (nI d) [(0,(.map (aC aA aP 0 b) b.length),true),(1,(.map (aC aA aP 0 a) a.length),true)] 2)<|.i [rn 10,.ans (.look none)] [.a (cQ c a=none) (p':=eK (aA c) (aC aA aP 0 a) 0=some none) (mH fD)]<|.P 26 3 [] [((.iface 82 (.agg [])),false)] [(0,(.map (aC aA aP 0 b) b.length),true),(1,(.map (aC aA aP 0 a) a.length),true)] 2
def aZ4:=fun a b c d e f g i j k l=>aS3 a b c d e|>.1 f i g j k|>.t l ⟨aI (fun _=>rfl) (fun _=>rfl) _ _ _,⟨aI (fun _=>rfl) (fun _=>rfl) _ _ _,trivial⟩⟩
def aZ5:=fun a b c d e f g i j k l=>aS3 a b c d e|>.1 f i g j k|>.f l ⟨aI (fun _=>rfl) (fun _=>rfl) _ _ _,⟨aI (fun _=>rfl) (fun _=>rfl) _ _ _,trivial⟩⟩
def aZ6:=fun a b c d e f=>aS3 a b c d e|>.2 f ⟨aI (fun _=>rfl) (fun _=>rfl) _ _ _,⟨aI (fun _=>rfl) (fun _=>rfl) _ _ _,trivial⟩⟩
def aZ7 (c d:List (aB×Int))(e:List Int)(a:aB)(b:List aB)(f:aB):=fun g=>(tT 2 (aS1 c d e a b f)<|gl 10 aA (a::b)<|gw 1 11 (((a::b).length:Int) -1)<|.W 4 3 [2] (aHy c d e a b f (((a::b).length:Int) -1))) g ⟨aI (fun _=>rfl) (fun _=>rfl) _ _ _,⟨aI (fun _=>rfl) (fun _=>rfl) _ _ _,trivial⟩⟩
def aM0(a c:List (aB×Int))(i:List Int)(f:aB)(g:List aB)(b:aB)(e:Int):=tT 2 (aHy a c i f g b e)<|gd 6 13 (e≥0) (gX aA 9 (f::g) e<|fun d=>.b 4 22 (bA d.length (aD d) b.length (aD b)) (.E 7 3 [] (nI e) [(0,(.map (aC aA aP 0 a) a.length),true),(1,(.map (aC aA aP 0 c) c.length),true)] 2)<|gw 6 15 (e-1)<|.W 3 3 [2] (aHy a c i f g b (e-1)))<|.o (.y fun d:Int=>.i [rn 8,.ans (.look (some (qZ b a,(aP d))))] [.a (cQ b a=some d) (p':=eK (aA b) (aC aA aP 0 a) 0=some (some (qZ b a,(aP d)))) (mI fD)]<|gw 18 37 ((-1:Int) -d)<|.E 3 3 [] (nI ((-1:Int) -d)) [(0,(.map (aC aA aP 0 a) a.length),true),(1,(.map (aC aA aP 0 c) c.length),true)] 2)<|.i [rn 8,.ans (.look none)] [.a (cQ b a=none) (p':=eK (aA b) (aC aA aP 0 a) 0=some none) (mH fD)]<|.P 17 3 [] [((.iface 82 (.agg [])),false)] [(0,(.map (aC aA aP 0 a) a.length),true),(1,(.map (aC aA aP 0 c) c.length),true)] 2
def aZ8:=fun a b c d e f g i j k l m=>aM0 a b c d e f g|>.t j i k l|>.t m ⟨aI (fun _=>rfl) (fun _=>rfl) _ _ _,⟨aI (fun _=>rfl) (fun _=>rfl) _ _ _,trivial⟩⟩
def aZ9:=fun a b c d e f g i j k l m n=>aM0 a b c d e f g|>.t j i k l|>.f m n ⟨aI (fun _=>rfl) (fun _=>rfl) _ _ _,⟨aI (fun _=>rfl) (fun _=>rfl) _ _ _,trivial⟩⟩
def bAa:=fun a b c d e f g i j k l=>aM0 a b c d e f g|>.f j|>.1 i k l ⟨aI (fun _=>rfl) (fun _=>rfl) _ _ _,⟨aI (fun _=>rfl) (fun _=>rfl) _ _ _,trivial⟩⟩
def bAb:=fun a b c d e f g i j=>aM0 a b c d e f g|>.f i|>.2 j ⟨aI (fun _=>rfl) (fun _=>rfl) _ _ _,⟨aI (fun _=>rfl) (fun _=>rfl) _ _ _,trivial⟩⟩
def bAc (d e:List (aB×Int))(f:List Int)(a:aB)(b c:List aB):=fun g i=>(tT 2 (bD3 d e f a b c)<|gk 9 (.enter 184 [(iS (a::b))]) [(0,(.map (aC aA aP 0 d) d.length),true),(1,(.map (aC aA aP 0 e) e.length),true),oC 2 [(.map 0),(.map 1),(iI f),(iS (a::b))],oC 3 [.nilm,.nilm,.nils,.nils]] 4 (.ilst 1 (map aA (a::b)) true) [(0,(.map (aC aA aP 0 d) d.length),true),(1,(.map (aC aA aP 0 e) e.length),true),oC 2 [(.map 0),(.map 1),(iI f),(iS (a::b))],oC 3 [.nilm,.nilm,.nils,.nils]] 4<|.i [rn 1,.appN (map aA ((a::b) ++c)) ((a::b) ++c).length] [hk aA c,.a (length ((a::b) ++c) ≤1000000) (p':=length (map aA (a::b)) +length (map aA c) ≤1000000) aSZ,.q (p:=(map aA (a::b)) ++ (map aA c) = (map aA ((a::b) ++c))) (List.map_append ..).symm]<|.E 9 4 [] (.agg [(.map 0),(.map 1),(iI f),(iS ((a::b) ++c))]) [(0,(.map (aC aA aP 0 d) d.length),true),(1,(.map (aC aA aP 0 e) e.length),true)] 2) g i ⟨aI (fun _=>rfl) (fun _=>rfl) _ _ _,⟨aI (fun _=>rfl) (fun _=>rfl) _ _ _,trivial⟩⟩
def bAd (a:Mod):=(tT 0 (aJj a)<|.i [rn 9,.mset 2 (aC aA aP 0 ([] :List (aB×Int))) ([] :List (aB×Int)).length] [hr (aC aA aP 0 ([] :List (aB×Int))),hr (length ([] :List (aB×Int)))]<|.i [rn 1,.mset 3 (aC aA aP 0 ([] :List (aB×Int))) ([] :List (aB×Int)).length] [hr (aC aA aP 0 ([] :List (aB×Int))),hr (length ([] :List (aB×Int)))]<|gl 13 DataD.av a.datas<|.i [rn 4,.nilL 5 2] []<|gu 0 5 (jC ([] :List Con))<|gs 0 5 (.gl 5 2 0 ([] :List Con).length false)<|.i [.cnil 4 2 1] []<|gu 0 6 (jI ([] :List Int))<|gv 0 4 2 (.gl 6 1 0 ([] :List Int).length false)<|.W 0 7 [0,1,4,5,2,3,6] (aBM a 0 ([] :List Con) ([] :List (aB×Int)) ([] :List Int))) ⟨kk,⟨aI (fun _=>rfl) (fun _=>rfl) _ _ _,⟨aI (fun _=>rfl) (fun _=>rfl) _ _ _,⟨kk,trivial⟩⟩⟩⟩
def bD4(a:Mod)(b:Int)(c:List Con)(d:List (aB×Int))(e:List Int):=tT 0 (aBM a b c d e)<|gd 5 25 (b< (a.datas.length:Int)) (gX DataD.av 6 a.datas b<|fun f=>gl 8 ConD.av f.cons<|.W 4 8 [0,1,2,3,4,5,6] (aHz a f.cons (f.cons.length:Int) 0 c d e b))<|gm 7 cJ a.funs<|.W 4 7 [1,2,3,4,5,6] (aBN a 0 ([] :List (aB×Int)) c d e)
def bAe:=fun a b c d e f g i j=>bD4 a b c d e|>.t g f i j ⟨kk,⟨aI (fun _=>rfl) (fun _=>rfl) _ _ _,⟨aI (fun _=>rfl) (fun _=>rfl) _ _ _,⟨kk,trivial⟩⟩⟩⟩
def bAf:=fun a b c d e f=>bD4 a b c d e|>.f f ⟨kk,⟨aI (fun _=>rfl) (fun _=>rfl) _ _ _,⟨aI (fun _=>rfl) (fun _=>rfl) _ _ _,⟨kk,trivial⟩⟩⟩⟩
def aS4(g:Mod)(i:List ConD)(j d:Int)(c:List Con)(b:List (aB×Int))(e:List Int)(f:Int):=tT 0 (aHz g i j d c b e f)<|gd 5 32 (d<j) (gX ConD.av 6 i d<|fun a=>.o (.y fun k:Int=>.i [rn 11,.ans (.look (some (qZ a.name b,(aP k))))] [.a (cQ a.name b=some k) (p':=eK (aA a.name) (aC aA aP 0 b) 0=some (some (qZ a.name b,(aP k)))) (mI fD)]<|gQ 15 8 [((.iface 82 (.agg [])),false)])<|.i [rn 11,.ans (.look none)] [.a (cQ a.name b=none) (p':=eK (aA a.name) (aC aA aP 0 b) 0=some none) (mH fD)]<|.i [rn 20,.mput (aC aA aP 0 (eJ a.name (c.length:Int) b)) (eJ a.name (c.length:Int) b).length] [.q (p:=qY (aC aA aP 0 b) b.length (aA a.name) (aP (c.length:Int)) =some ((aC aA aP 0 (eJ a.name (c.length:Int) b)),length (eJ a.name (c.length:Int) b))) (aC1 fD _ _ _)]<|gm 7 dD a.args<|ga 1 aP e [(a.args.length:Int)]<|gm 9 dD a.args<|ga 2 Con.av c [(Con.mk a.name (a.args.length:Int))]<|gw 5 69 (d+1)<|.W 3 12 [0,1,2,11,4,5,9] (aHz g i j (d+1) (c++ [(Con.mk a.name (a.args.length:Int))]) (eJ a.name (c.length:Int) b) (e++ [(a.args.length:Int)]) f))<|gw 5 70 (f+1)<|.W 3 7 [0,1,2,3,4,5,6] (aBM g (f+1) c b e)
def bAg:=fun a b c d e f g i j k l m n o=>aS4 a b c d e f g i|>.t l j m n|>.1 k o tv
def bAh:=fun a b c d e f g i j k l m n o p q=>aS4 a b c d e f g i|>.t k j l m|>.2 n o p q ⟨kk,⟨aI (fun _=>rfl) (fun _=>rfl) _ _ _,⟨aI (fun _=>rfl) (fun _=>rfl) _ _ _,⟨kk,trivial⟩⟩⟩⟩
def bAi:=fun a b c d e f g i j k=>aS4 a b c d e f g i|>.f j k ⟨kk,⟨aI (fun _=>rfl) (fun _=>rfl) _ _ _,⟨aI (fun _=>rfl) (fun _=>rfl) _ _ _,⟨kk,trivial⟩⟩⟩⟩
def aM1(d:Mod)(c:Int)(a:List (aB×Int))(e:List Con)(f:List (aB×Int))(g:List Int):=tT 0 (aBN d c a e f g)<|gd 5 75 (c< (d.funs.length:Int)) (.y fun b:aB=>.y fun k:aB=>.y fun l:Int=>.y fun m:Int=>.y fun n:aB=>.y fun o:List Typ=>.y fun p:Int=>.y fun q:Int=>.y fun r:aB=>.y fun s:List Typ=>.y fun t:Int=>.y fun u:Int=>.y fun v:aB=>.y fun w:List Term=>.y fun x:List Pat=>giF cJ 7 d.funs c (FunD.mk b k (Typ.mk l m n o) (Typ.mk p q r s) (Term.mk t u v w x))<|.o (.y fun i:Int=>.i [rn 12,.ans (.look (some (qZ b a,(aP i))))] [.a (cQ b a=some i) (p':=eK (aA b) (aC aA aP 0 a) 0=some (some (qZ b a,(aP i)))) (mI fD)]<|gQ 15 7 [((.iface 82 (.agg [])),false)])<|.i [rn 12,.ans (.look none)] [.a (cQ b a=none) (p':=eK (aA b) (aC aA aP 0 a) 0=some none) (mH fD)]<|.i [rn 18,.mput (aC aA aP 0 (eJ b c a)) (eJ b c a).length] [.q (p:=qY (aC aA aP 0 a) a.length (aA b) (aP c) =some ((aC aA aP 0 (eJ b c a)),length (eJ b c a))) (aC1 fD _ _ _)]<|gw 4 95 (c+1)<|.W 3 7 [0,1,2,3,4,5] (aBN d (c+1) (eJ b c a) e f g))<|.o (.y fun j:Int=>.i [rn 7,.ans (.look (some (qZ (strOf [109,97,105,110]) a,(aP j))))] [.a (cQ (strOf [109,97,105,110]) a=some j) (p':=eK (aA (strOf [109,97,105,110])) (aC aA aP 0 a) 0=some (some (qZ (strOf [109,97,105,110]) a,(aP j)))) (mI fD)]<|gy 21 0 2 5 1 aP g false<|gz 0 3 2 2 Con.av e false<|.E 0 6 [3,4] (.tup [(.agg [(.map 0),(.map 1),(iI g)]),(iC e)]) [(0,(.map (aC aA aP 0 a) a.length),true),(1,(.map (aC aA aP 0 f) f.length),true)] 2)<|.i [rn 7,.ans (.look none)] [.a (cQ (strOf [109,97,105,110]) a=none) (p':=eK (aA (strOf [109,97,105,110])) (aC aA aP 0 a) 0=some none) (mH fD)]<|gQ 16 6 [((.iface 82 (.agg [])),false)]
def bAj:=fun a b c d e f g i j k l m n o p q r s t u v w x y z A=>aM1 a b c d e f|>.t x g i j k l m n o p q r s t u v y z|>.1 w A tv
def bAk:=fun a b c d e f g i j k l m n o p q r s t u v w x y z A=>aM1 a b c d e f|>.t w g i j k l m n o p q r s t u v x y|>.2 z A ⟨kk,⟨aI (fun _=>rfl) (fun _=>rfl) _ _ _,⟨aI (fun _=>rfl) (fun _=>rfl) _ _ _,⟨kk,trivial⟩⟩⟩⟩
def bAl:=fun a b c d e f g i j=>aM1 a b c d e f|>.f i|>.1 g j ⟨aI (fun _=>rfl) (fun _=>rfl) _ _ _,⟨aI (fun _=>rfl) (fun _=>rfl) _ _ _,trivial⟩⟩
def bAm:=fun a b c d e f g i=>aM1 a b c d e f|>.f g|>.2 i tv
def aEc(c l:Int)(a:aB)(m:List Term)(e:List Pat)(b:Int):=tT 0 (aS2 c l a m e b)<|.b 13 11 (c==5) (.i [rn 24,.toL 4 false [(aA a)]] [hr (some [(aA a)]),hr true]<|gu 0 1 (map aA [a])<|gs 0 4 (.gl 1 1 0 [a].length true)<|.i [.weak 4] []<|gz 0 4 1 1 aA [a] false<|gE 0 2 (iS [a]))<|.b 5 16 (c==27) (.i [rn 19,.toL 4 false [(aA a)]] [hr (some [(aA a)]),hr true]<|gu 0 1 (map aA [a])<|gs 0 4 (.gl 1 1 0 [a].length true)<|.i [.weak 4] []<|gz 0 4 1 1 aA [a] false<|gE 0 2 (iS [a]))<|.b 4 20 (c==7) (.b 6 7 (b==1) (.i [rn 9,.toL 4 false [(aA a)]] [hr (some [(aA a)]),hr true]<|gu 0 1 (map aA [a])<|gs 0 4 (.gl 1 1 0 [a].length true)<|.i [.weak 4] []<|gz 0 4 1 1 aA [a] false<|gE 0 2 (iS [a]))<|.b 7 32 (c==15) (gd 5 28 (b>0) (gw 7 40 (b-1)<|xM 0 e (b-1)<|fun f g i j=>.y fun d:List aB=>.y fun k:Int=>gp 1 185 [(.agg [(nI f),(nI g),(aA i),(iP j)])] (.tup [(iS d),(nI k)])<|gE 12 1 (iS d))<|.i [rn 8,.nilI 4 1] []<|gE 0 1 (.ilst 1 (map aA ([] :List aB)) true))<|.i [rn 13,.nilI 4 1] []<|gE 0 1 (.ilst 1 (map aA ([] :List aB)) true))<|.b 13 32 (c==15) (gd 5 28 (b>0) (gw 7 40 (b-1)<|xM 0 e (b-1)<|fun f g i j=>.y fun d:List aB=>.y fun k:Int=>gp 1 185 [(.agg [(nI f),(nI g),(aA i),(iP j)])] (.tup [(iS d),(nI k)])<|gE 12 1 (iS d))<|.i [rn 8,.nilI 4 1] []<|gE 0 1 (.ilst 1 (map aA ([] :List aB)) true))<|.i [rn 13,.nilI 4 1] []<|gE 0 1 (.ilst 1 (map aA ([] :List aB)) true)
def bAn:=fun a b c d e f g=>aEc a b c d e f|>.t g tv
def bAo:=fun a b c d e f g i=>aEc a b c d e f|>.f g|>.t i tv
def bAp:=fun a b c d e f g i j k=>aEc a b c d e f|>.f g|>.f i|>.t j|>.t k tv
def bAq:=fun a b c d e f g i j k l=>aEc a b c d e f|>.f g|>.f i|>.t j|>.f k|>.f l tv
def bAr:=fun a b c d e f g i j k l m n o p q r s t u v=>aEc a b c d e f|>.f n|>.f o|>.f p|>.t q|>.t r s g i j k t u l m v tv
def bAs:=fun a b c d e f g i j k l=>aEc a b c d e f|>.f g|>.f i|>.f j|>.t k|>.f l tv
def bAt:=fun a b c d e f g i j k=>aEc a b c d e f|>.f g|>.f i|>.f j|>.f k tv
abbrev UB :List (AV×Bool) :=[((.iface 82 (.agg [])),false)]
abbrev lQ (ml:List (aB×Int)) :AObj:=.map (aC aA aP 0 ml) (length ml)
structure WS where
 l:List Con
 mc:List (aB×Int)
 ar:List Int
def aCM :List ConD→WS→Option WS
 | [],w=>some w
 | c::t,w=>match cQ c.name w.mc with
  |some _=>none
  |none=>aCM t ⟨w.l++ [sE c],eJ c.name (length w.l:Int) w.mc,w.ar++ [(length c.args:Int)]⟩
def aFe :List DataD→WS→Option WS
 | [],w=>some w
 | d::t,w=>match aCM d.cons w with
  |none=>none
  |some w'=>aFe t w'
def aFf :List FunD→Nat→List (aB×Int) →Option (List (aB×Int))
 | [],_,mf=>some mf
 | f::t,i,mf=>match cQ f.nm mf with
  |some _=>none
  |none=>aFf t (i+1) (eJ f.nm (i:Int) mf)
def bD5 (a:TS)(b:WS→TS) :Option WS→Prop
 |none=>Ends PP 0 a.as (.pan UB) (aG [] 0)
 |some w=>LeadsM PP 0 a.as (b w).as
theorem bHb (m:Mod)(cs:List ConD)(j:Int)(hj: -1≤j∧j≤1000)(hl:cs.length≤1000) :∀ (t:List ConD) (k:Nat) (w:WS),cs.drop k=t→w.l.length+t.length≤500000→w.ar.length+t.length≤500000 →
  bD5 (aHz m cs (length cs:Int) (k:Int) w.l w.mc w.ar j) (fun w'=>aBM m (j+1) w'.l w'.mc w'.ar) (aCM t w)
 | [],k,w,h,hb,hb2=>by
  have:=bL h;exact bAi m cs (length cs:Int) k w.l w.mc w.ar j (by simp;omega) sd
 | c::t,k,w,h,hb,hb2=>by
  obtain⟨q1,q2,q3⟩ :=bH h;have hk:= (List.getElem?_eq_some_iff.1 q1).1;simp only [length_cons]at hb hb2;rw [aCM];cases hm:cQ c.name w.mc with
  |some y=>exact bAg m cs (length cs:Int) k w.l w.mc w.ar j c y (by simp;omega) (by omega) (by rw [Int.toNat_natCast];exact q1) hm
  | none=>
   have h0:=bAh m cs (length cs:Int) k w.l w.mc w.ar j c (by simp;omega) (by omega) (by rw [Int.toNat_natCast];exact q1) hm (by simp;omega) (by simp;omega) sd;have ih:=bHb m cs j hj hl t (k+1) ⟨w.l++ [sE c],eJ c.name (length w.l:Int) w.mc,w.ar++ [(length c.args:Int)]⟩ q2 (by simp;omega) (by simp;omega);simp only;generalize aCM t ⟨w.l++ [sE c],eJ c.name (length w.l:Int) w.mc,w.ar++ [(length c.args:Int)]⟩ =r at ih ⊢;cases r with
   |none=>exact h0.ends ih
   |some w'=>exact h0.trans ih
theorem aJk :∀ (t:List ConD) (w w':WS),aCM t w=some w'→w'.l.length=w.l.length+t.length∧w'.ar.length=w.ar.length+t.length
 | [],w,w',h=>by rw [aCM]at h;cases h;simp
 | c::t,w,w',h=>by
  rw [aCM]at h;cases hm:cQ c.name w.mc with
  |some y=>rw [hm]at h;cases h
  | none=>
   rw [hm]at h;have:=aJk t _ w' h;simp only [length_append,length_cons,length_nil]at this ⊢;omega
theorem bHc (m:Mod)(hl:m.funs.length≤1000)(w:WS) :∀ (t:List FunD) (i:Nat) (mf:List (aB×Int)),m.funs.drop i=t→i≤m.funs.length →
  match aFf t i mf with
  |none=>Ends PP 0 (aBN m (i:Int) mf w.l w.mc w.ar).as (.pan UB) (aG [] 0)
  |some mf'=>LeadsM PP 0 (aBN m (i:Int) mf w.l w.mc w.ar).as (aBN m ((m.funs.length:Nat) :Int) mf' w.l w.mc w.ar).as
 | [],i,mf,h,hi=>by
  have h1:=bL h;rw [aFf];obtain rfl:i=m.funs.length:=by omega
  exact LeadsM.refl _
 | .mk n p (.mk f0 f1 f2 f3) (.mk g0 g1 g2 g3) (.mk b0 b1 b2 b3 b4) ::t,i,mf,h,hi=>by
  obtain⟨q1,q2,q3⟩ :=bH h;rw [aFf];simp only [FunD.nm];cases hm:cQ n mf with
  |some y=>exact bAj m i mf w.l w.mc w.ar n p f0 f1 f2 f3 g0 g1 g2 g3 b0 b1 b2 b3 b4 y sd sd sd hm
  | none=>
   have h0:=bAk m i mf w.l w.mc w.ar n p f0 f1 f2 f3 g0 g1 g2 g3 b0 b1 b2 b3 b4 sd sd sd hm sd;have ih:=bHc m hl w t (i+1) (eJ n (i:Int) mf) q2 (by omega);simp only;generalize aFf t (i+1) (eJ n (i:Int) mf) =r at ih ⊢;cases r with
   |none=>exact h0.ends ih
   |some w'=>exact h0.trans ih
theorem bHd (m:Mod)(hd:∀d∈m.datas,d.cons.length≤1000)(hl:m.datas.length≤100) :∀ (t:List DataD) (i:Nat) (w:WS),m.datas.drop i=t→i≤m.datas.length→w.l.length≤1000*i→w.ar.length≤1000*i →
  bD5 (aBM m (i:Int) w.l w.mc w.ar) (fun w'=>aBM m ((m.datas.length:Nat) :Int) w'.l w'.mc w'.ar) (aFe t w)
 | [],i,w,h,hi,_,_=>by
  have h1:=bL h;rw [aFe];obtain rfl:i=m.datas.length:=by omega
  exact LeadsM.refl _
 | d::t,i,w,h,hi,h1,h2=>by
  obtain⟨q1,q2,q3⟩ :=bH h;have hdl:=hd d (List.mem_of_getElem? q1);have h0:=bAe m i w.l w.mc w.ar d sd sd sd;have hin:=bHb m d.cons (i:Int) (by omega) hdl d.cons 0 w rfl (by omega) (by omega);rw [aFe];cases hc:aCM d.cons w with
  | none=>
   rw [hc]at hin;exact h0.ends hin
  | some w'=>
   rw [hc]at hin;obtain⟨e1,e2⟩ :=aJk _ _ _ hc;have ih:=bHd m hd hl t (i+1) w' q2 (by omega) (by omega) (by omega);simp only;generalize aFe t w'=r at ih ⊢;cases r with
   |none=>exact(h0.trans hin).ends ih
   |some w2=>exact(h0.trans hin).trans ih
def rD (m:Mod) :Option (List (aB×Int) ×WS) :=
 match aFe m.datas ⟨[],[],[]⟩with
 |none=>none
 | some w=>match aFf m.funs 0 []with
  |none=>none
  | some mf=>match cQ (strOf [109,97,105,110]) mf with
   |none=>none
   |some _=>some (mf,w)
theorem aS5 (m:Mod)(hf:m.funs.length≤1000)(hd:∀d∈m.datas,d.cons.length≤1000)(hl:m.datas.length≤100) :
  match rD m with
  |none=>Ends PP 0 (aJj m).as (.pan UB) (aG [] 0)
  |some (mf,w) =>Ends PP 0 (aJj m).as (.ret (.tup [.agg [.map 0,.map 1,.ilst 1 (map aP w.ar) false],.ilst 2 (map Con.av w.l) false])) (aG [(0,lQ mf,true),(1,lQ w.mc,true)] 2) :=by
 have h0:=bAd m;have hD:=bHd m hd hl m.datas 0 ⟨[],[],[]⟩ rfl (Nat.zero_le _) (by simp) (by simp);unfold rD;cases e1:aFe m.datas ⟨[],[],[]⟩with
 |none=>rw [e1]at hD;exact h0.ends hD
 | some w=>
  rw [e1]at hD;have h1:= (h0.trans hD).trans (bAf m ((m.datas.length:Nat) :Int) w.l w.mc w.ar (by simp));have hF:=bHc m hf w m.funs 0 [] rfl (Nat.zero_le _);simp only;cases e2:aFf m.funs 0 []with
  |none=>rw [e2]at hF;exact h1.ends hF
  | some mf=>
   rw [e2]at hF;simp only;cases e3:cQ (strOf [109,97,105,110]) mf with
   |none=>exact(h1.trans hF).ends (bAm m _ mf w.l w.mc w.ar (by simp) e3)
   |some y=>exact(h1.trans hF).ends (bAl m _ mf w.l w.mc w.ar y (by simp) e3)
abbrev WH (mf mc:List (aB×Int)) :Hp:=aG [(0,lQ mf,true),(1,lQ mc,true)] 2
def aHA (mc:List (aB×Int))(ar:List Int)(s:aB)(k:Int) :Option Int:=
 match cQ s mc with
 |none=>none
 |some n=>if ar[n.toNat]?=some k then some n else none
abbrev aOd :Option Int→Res
 |none=>.pan UB
 |some n=>.ret (.int .i64 n)
theorem aJl (mf mc:List (aB×Int))(ar:List Int)(s:aB)(k:Int)(hn:∀n,cQ s mc=some n→0≤n∧n<ar.length) :
  Spec PP (.enter 109 [.agg [.map 0,.map 1,.ilst 1 (map aP ar) false],aA s,.int .i64 k]) (WH mf mc) (aOd (aHA mc ar s k)) (WH mf mc) :=by
 refine⟨(aS0 mf mc ar s k).as.fr,by kernel_rfl,?_⟩;have E:Ends PP 2 (aS0 mf mc ar s k).as (aOd (aHA mc ar s k)) (WH mf mc) :=by
  unfold aHA;cases hm:cQ s mc with
  |none=>exact aZ6 mf mc ar s k hm
  | some n=>
   obtain⟨h0,h1⟩ :=hn n hm;obtain⟨y,hy⟩ :∃y,ar[n.toNat]?=some y:= ⟨_,List.getElem?_eq_getElem (by omega)⟩;simp only [hy];by_cases e:y=k
   · subst e;rw [if_pos rfl];exact aZ5 mf mc ar s y n y hm h0 hy (by simp)
   · rw [if_neg (by simpa using e)];exact aZ4 mf mc ar s k n y hm h0 hy (by simpa using e)
 exact Eq.mp (by kernel_rfl) E
def aFR (mf:List (aB×Int))(pl:List aB)(s:aB) :Option Int:=
 if 0≤aZ pl s then some (aZ pl s)else match cQ s mf with
  |none=>none
  |some f=>some (-1-f)
theorem aJm (mf mc:List (aB×Int))(ar:List Int)(q:aB)(pl:List aB)(s:aB)(hb:∀f,cQ s mf=some f→0≤f∧f≤1000000) :∀ (i:Nat),i≤ (q::pl).length→i≤1000000 →
  Ends PP 2 (aHy mf mc ar q pl s ((i:Int) -1)).as (aOd (if 0≤bW (q::pl) s i then some (bW (q::pl) s i)else match cQ s mf with|none=>none|some f=>some (-1-f))) (WH mf mc)
 | 0,_,_=>by
  rw [bW,if_neg (by omega)];cases hm:cQ s mf with
  |none=>exact bAb mf mc ar q pl s _ (by simp) hm
  | some f=>
   have:=hb f hm;exact bAa mf mc ar q pl s _ f (by simp) hm (by apply wrap64<;>omega)
 | i +1,hi,hb2=>by
  obtain⟨y,hy⟩ :∃y,(q::pl)[i]?=some y:= ⟨_,List.getElem?_eq_getElem (by omega)⟩;have e: ((i+1:Nat) :Int) -1= (i:Int) :=by omega
  rw [e,bW];by_cases h:y=s
  · subst h;rw [if_pos hy,if_pos (by omega)];exact aZ8 mf mc ar q pl y i y (by simp) (by omega) (by rw [Int.toNat_natCast];exact hy) (by rw [cA];simp)
  · have e2: (if(q::pl)[i]?=some s then(i:Int)else bW (q::pl) s i) =bW (q::pl) s i:=if_neg (by rw [hy];simpa using h);rw [e2];exact(aZ9 mf mc ar q pl s i y (by simp) (by omega) (by rw [Int.toNat_natCast];exact hy) (by rw [cA];simpa using h) (by apply wrap64<;>omega)).ends (aJm mf mc ar q pl s hb i (by omega) (by omega))
theorem aS6 (mf mc:List (aB×Int))(ar:List Int)(q:aB)(pl:List aB)(s:aB)(hb:∀f,cQ s mf=some f→0≤f∧f≤1000000)(hl: (q::pl).length≤1000000) :
  Spec PP (.enter 108 [.agg [.map 0,.map 1,.ilst 1 (map aP ar) false,.ilst 1 (map aA (q::pl)) false],aA s]) (WH mf mc) (aOd (aFR mf (q::pl) s)) (WH mf mc) :=by
 refine⟨(aS1 mf mc ar q pl s).as.fr,by kernel_rfl,?_⟩;have E:Ends PP 2 (aS1 mf mc ar q pl s).as (aOd (aFR mf (q::pl) s)) (WH mf mc) :=
  (aZ7 mf mc ar q pl s (by apply wrap64<;>omega)).ends (aJm mf mc ar q pl s hb (q::pl).length (Nat.le_refl _) hl)
 exact Eq.mp (by kernel_rfl) E
def kF (n:Int) :aB:=[UInt8.ofNat n.toNat]
theorem aFS {n:Int}(h:0≤n)(h2:n<256) :jO [.int .u8 n] =some (aA (kF n)) :=by
 have:n.toNat<256:=by omega
 simp only [jO,aAd,h,h2,and_self,if_true];simp [aA,kF,aD,UInt8.toNat_ofNat,Nat.mod_eq_of_lt this]
theorem wrap_u8 {n:Int}(h:0≤n)(h2:n<256) :IntKind.u8.wrap n=n:=by
 unfold IntKind.wrap;simp [IntKind.signed,IntKind.bits];omega
theorem bHe {n:Int}(h:0≤n)(h2:n≤1000000000000) :rJ PP .quo 3 (.int .i64 n) (.int .i64 26) false true=some (.int .i64 (Int.tdiv n 26)) :=by
 have e:Int.tdiv n 26=n / 26:=Int.tdiv_eq_ediv_of_nonneg h;simp only [rJ,aBk,if_true];rw [e];have:uF .i64 (n / 26) =n / 26:=sd;rw [this];simp
theorem bHf {n:Int}:rJ PP .rem 3 (.int .i64 n) (.int .i64 26) false true=some (.int .i64 (Int.tmod n 26)) :=by
 simp [rJ,aBk]
theorem yI :∀ (a b:aB),aD (a++b) =aD a+256 ^ a.length*aD b
 | [],b=>by simp [aD]
 | x::a,b=>by
  simp only [List.cons_append,aD,yI a b,length_cons,Nat.pow_succ];rw [Nat.mul_add,Nat.mul_comm (256 ^ a.length) 256,Nat.mul_assoc];omega
theorem aA4 (a b:aB) :aD (a++b) =aD a % 256 ^ a.length+256 ^ a.length*aD b:=by
 rw [yI,Nat.mod_eq_of_lt (aAL a)]
theorem bAu {a b:aB}(h:a.length+b.length≤1000000000) :rJ PP .add 9 (aA a) (aA b) false false=some (aA (a++b)) :=by
 have hb:Nat.ble (a.length+b.length) 1000000000=true:=by rw [Nat.ble_eq];exact h
 simp only [rJ,aA,aDa,hb,cond,length_append,aA4];rfl
def eP (n:Nat) :aB:=if h:n<26 then kF (97+n)else eP (n / 26-1) ++kF (97+ (n % 26:Nat))
termination_by n
decreasing_by omega
theorem tJ {n:Nat}(h:n<26) :eP n=kF (97+n) :=by rw [eP];simp [h]
theorem tK {n:Nat}(h:¬n<26) :eP n=eP (n / 26-1) ++kF (97+ (n % 26:Nat)) :=by rw [eP];simp [h]
theorem aJn :∀ (n:Nat),(eP n).length≤n+1:=by
 intro n
 induction n using Nat.strongRecOn with
 | ind n ih=>
  by_cases h:n<26
  ·rw [tJ h];simp [kF]
  · rw [tK h];have:=ih (n / 26-1) (by omega);simp only [length_append,kF,length_cons,length_nil];omega
structure TB (p:Prog) (fl pl:List aB) (A:Nat) :Prop where
 fl:fl.length≤1000000000
 pl:pl.length≤1000000000
 ks:∀x∈p.nodes,x.kids.length<1000000∧x.pats.length<1000000∧∀q∈x.pats,aV q<1000000
 ad:∀x∈p.nodes,∀i:Nat,i<x.kids.length→Pure PP A [Node.av x,.int .i64 (i:Int)] (.int .i64 (aI1 x i))
 kl:AV.keyless (PA p) =true
theorem zM {E:Emb}{e:Nat}{xs:List AV}{cv:Value}(h:VR E (.ilst e xs true) cv) :VR E (.ilst e xs false) cv:=by
 simp only [VR]at h ⊢;obtain⟨vs,h1,h2,h3⟩ :=h;refine⟨vs,h1,h2,?_⟩;rcases h3 with⟨a1,a,cap,a2,a3,a4⟩ | ⟨k,a,cap,C,a1,a2,a3,a4,a5⟩
 ·exact .inl ⟨a1,a,cap,a2,a3,fun e=> (by cases e)⟩
 ·exact .inr ⟨k,a,cap,C,a1,a2,a3,fun e=> (by cases e),a5⟩
def aHB(a b:Int)(c:aB)(d:List Term)(e:List Pat)(f g:Int)(i:aB)(j:List Term)(k:List Pat)(l:Int):TS:=⟨(tf 28 82 [kp 2 0,kp 3 1,(4,(bV false)),(5,(nI l))] [kc f28 116,kl f28 116,.inBlock 0,kc f28 15]),[],[oC 0 [(nI a),(nI b),(aA c),(.ilst 5 (Terms.av d) false),(iP e)],oC 1 [(nI f),(nI g),(aA i),(.ilst 5 (Terms.av j) false),(iP k)]],2⟩
def aEd(a b:Int)(c:aB)(d:List Term)(e:List Pat)(f g:Int)(i:aB)(j:List Term)(k:List Pat)(l:Int):TS:=⟨(tf 28 82 [kp 2 0,kp 3 1,(4,(bV false)),(6,(nI l))] [kc f28 244,kl f28 244,.inBlock 2,kc f28 31]),[],[oC 0 [(nI a),(nI b),(aA c),(.ilst 5 (Terms.av d) false),(iP e)],oC 1 [(nI f),(nI g),(aA i),(.ilst 5 (Terms.av j) false),(iP k)]],2⟩
def aFT(g i:Int)(a:aB)(b:List Term)(c:List Pat)(j k:Int)(d:aB)(e:List Term)(f:List Pat):=tT 0 (start PP 28 [(.agg [(nI g),(nI i),(aA a),(.ilst 5 (Terms.av b) false),(iP c)]),(.agg [(nI j),(nI k),(aA d),(.ilst 5 (Terms.av e) false),(iP f)])])<|.b 15 12 (g != j) (gE 38 2 (bV false))<|.b 7 19 (i != k) (gE 31 2 (bV false))<|.b 7 26 (!(bA a.length (aD a) d.length (aD d))) (gE 24 2 (bV false))<|gm 2 aU b<|gm 2 aU e<|.b 3 35 ((b.length:Int) != (e.length:Int)) (gE 15 2 (bV false))<|gm 2 aJ c<|gm 2 aJ f<|.b 3 43 ((c.length:Int) != (f.length:Int)) (gE 6 2 (bV false))<|.W 9 2 [0,1] (aHB g i a b c j k d e f 0)
def bAv:=fun a b c d e f g i j k l=>aFT a b c d e f g i j k|>.t l tv
def bAw:=fun a b c d e f g i j k l m=>aFT a b c d e f g i j k|>.f l|>.t m tv
def bAx:=fun a b c d e f g i j k l m n=>aFT a b c d e f g i j k|>.f l|>.f m|>.t n tv
def bAy:=fun a b c d e f g i j k l m n o=>aFT a b c d e f g i j k|>.f l|>.f m|>.f n|>.t o tv
def bAz:=fun a b c d e f g i j k l m n o p=>aFT a b c d e f g i j k|>.f l|>.f m|>.f n|>.f o|>.t p tv
def bAA:=fun a b c d e f g i j k l m n o p=>aFT a b c d e f g i j k|>.f l|>.f m|>.f n|>.f o|>.f p tv
def aS7(d e:Int)(f:aB)(g:List Term)(b:List Pat)(i j:Int)(k:aB)(l:List Term)(c:List Pat)(a:Int):=tT 0 (aHB d e f g b i j k l c a)<|gm 6 aJ b<|gd 2 48 (a< (b.length:Int)) (.y fun m:Int=>.y fun n:Int=>.y fun o:aB=>.y fun p:List Pat=>.y fun q:Int=>.y fun r:Int=>.y fun s:aB=>.y fun t:List Pat=>.y fun u:Bool=>.i [rn 5,.reg (rd 3 (.ans (.idx (Pat.av (Pat.mk m n o p)))::rd 4 [.ans (.idx (Pat.av (Pat.mk q r s t))),.d,.pure (bV u),.d]))] [hA (0≤a),.a (((b)[a.toNat]?) =some (Pat.mk m n o p)) (eX aJ),hA (0≤a),.a (((c)[a.toNat]?) =some (Pat.mk q r s t)) (eX aJ),hA (Pure PP 88 [(.agg [(nI m),(nI n),(aA o),(iP p)]),(.agg [(nI q),(nI r),(aA s),(iP t)])] (bV u))]<|.b 0 62 (!u) (gE 6 2 (bV false))<|gw 6 50 (a+1)<|.W 3 2 [0,1] (aHB d e f g b i j k l c (a+1)))<|.W 9 2 [0,1] (aEd d e f g b i j k l c 0)
def bAB:=fun b c d e f g i j k l m n o p q r s t u v w a x y z A=>aS7 b c d e f g i j k l m|>.t w n o p q r s t u v a x a y z|>.t A tv
def bAC:=fun b c d e f g i j k l m n o p q r s t u v w a x y z A B=>aS7 b c d e f g i j k l m|>.t w n o p q r s t u v a x a y z|>.f A B tv
def bAD:=fun a b c d e f g i j k l m=>aS7 a b c d e f g i j k l|>.f m tv
def aS8(p q:Int)(r:aB)(b:List Term)(s:List Pat)(t u:Int)(v:aB)(c:List Term)(w:List Pat)(a:Int):=tT 0 (aEd p q r b s t u v c w a)<|gm 6 aU b<|gd 2 67 (a< (b.length:Int)) (.y fun d:Int=>.y fun e:Int=>.y fun f:aB=>.y fun g:List Term=>.y fun i:List Pat=>.y fun j:Int=>.y fun k:Int=>.y fun l:aB=>.y fun m:List Term=>.y fun n:List Pat=>.y fun o:Bool=>.i [rn 5,.reg (rd 3 (.ans (.idx (Term.av (Term.mk d e f g i)))::rd 4 [.ans (.idx (Term.av (Term.mk j k l m n))),.d,.pure (bV o),.d]))] [hA (0≤a),.a (((b)[a.toNat]?) =some (Term.mk d e f g i)) (eX aU),hA (0≤a),.a (((c)[a.toNat]?) =some (Term.mk j k l m n)) (eX aU),hA (Pure PP 28 [(.agg [(nI d),(nI e),(aA f),(.ilst 5 (Terms.av g) false),(iP i)]),(.agg [(nI j),(nI k),(aA l),(.ilst 5 (Terms.av m) false),(iP n)])] (bV o))]<|.b 0 81 (!o) (gE 6 2 (bV false))<|gw 6 69 (a+1)<|.W 3 2 [0,1] (aEd p q r b s t u v c w (a+1)))<|gE 7 2 (bV true)
def bAE:=fun b c d e f g i j k l m n o p q r s t u v w x y a z A B C=>aS8 b c d e f g i j k l m|>.t y n o p q r s t u v w x a z a A B|>.t C tv
def bAF:=fun b c d e f g i j k l m n o p q r s t u v w x y a z A B C D=>aS8 b c d e f g i j k l m|>.t y n o p q r s t u v w x a z a A B|>.f C D tv
def bAG:=fun a b c d e f g i j k l m=>aS8 a b c d e f g i j k l|>.f m tv
def sF :Nat→Nat
 |0=>0
 |k+1=>26+26*sF k
theorem aBO :∀ (k n:Nat),sF k≤n→k+1≤ (eP n).length
 | 0,n,_=>by
  by_cases h:n<26
  ·rw [tJ h];simp [kF]
  ·rw [tK h];simp [kF]
 | k+1,n,h=>by
  simp only [sF]at h;rw [tK (by omega)];have:=aBO k (n / 26-1) (by omega);simp only [length_append,kF,length_cons,length_nil];omega
theorem aEe :∀ (k n:Nat),n<sF (k+1) → (eP n).length≤k+1
 | 0,n,h=>by
  simp only [sF]at h;rw [tJ (by omega)];simp [kF]
 | k +1,n,h=>by
  by_cases h2:n<26
  ·rw [tJ h2];simp [kF]
  · rw [tK h2];rw [sF]at h;have:=aEe k (n / 26-1) (by omega);simp only [length_append,kF,length_cons,length_nil];omega
theorem aFU {r:Nat}(h:r<26) :eO (kF (97+ (r:Int))) =true:=by
 have e: (97+ (r:Int)).toNat=97+r:=by omega
 have e2: (97+r) % 256=97+r:=Nat.mod_eq_of_lt (by omega);simp only [kF,eO,List.all_cons,List.all_nil,Bool.and_true,pH,e,UInt8.toNat_ofNat',Bool.and_eq_true,decide_eq_true_eq];have e3: (97+r) % 2 ^ 8=97+r:=Nat.mod_eq_of_lt (by omega);rw [e3];omega
theorem aLE :∀ (n:Nat),eO (eP n) =true:=by
 intro n
 induction n using Nat.strongRecOn with
 | ind n ih=>
  by_cases h:n<26
  ·rw [tJ h];exact aFU h
  · rw [tK h];have h1:=ih (n / 26-1) (by omega);have h2:=aFU (r:=n % 26) (by omega);unfold eO at h1 h2 ⊢;rw [List.all_append,h1,h2];rfl
theorem aS9 :∀k∈kwL,k.length≤6:=by
 intro k hk;have:kwL.all (fun k=>decide (k.length≤6)) =true:=by kernel_rfl
 exact of_decide_eq_true (List.all_eq_true.1 this k hk)
theorem aOe {n:Nat}(h1:sF 6≤n)(h2:n<sF 8) :dK (eP n) =true:=by
 have a:=aBO 6 n h1;have b:=aEe 7 n h2;have c:dA kwL (eP n) =false:=by
  cases h:dA kwL (eP n)with
  |false=>rfl
  | true=>
   unfold dA at h;obtain⟨w,hw,e⟩ :=List.any_eq_true.1 h;have e:=of_decide_eq_true e;have:=aS9 w hw;have: (eP n).length=w.length:=by rw [e]
   omega
 unfold dK;rw [c,aLE];simp;omega
structure Spk where
 prog:Prog
 funs:List aB
 places:List aB
def Spk.av (x:Spk) :AV:=.agg [.ilst 4 (map Node.av x.prog.nodes) false,.ilst 1 (map aP x.prog.funs) false,.int .i64 x.prog.main,.ilst 2 (map Con.av x.prog.cons) false,.ilst 1 (map aA x.funs) false,.ilst 1 (map aA x.places) false]
end
end Go.Hb
