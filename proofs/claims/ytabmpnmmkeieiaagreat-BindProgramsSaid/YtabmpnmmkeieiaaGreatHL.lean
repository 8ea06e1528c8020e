/-
  OWN WORK (V115, H41, V116, V117, H42, V118, H44, V119, V120, H45, V121, H43, V122, V123, V124, V125, V126, H46): a machine on abstract values, its soundness, ways through the text (the ways WRITTEN BY A PROGRAM), plain laws.
-/
import Derived.Test.YtabmpnmmkeieiaaGreatHF
import Derived.Test.YtabmpnmmkeieiaaGreatHG
import Derived.Test.YtabmpnmmkeieiaaGreatHI
import Derived.Test.YtabmpnmmkeieiaaGreatHJ
import Derived.Test.YtabmpnmmkeieiaaGreatHK
set_option linter.defProp false
set_option linter.unusedVariables false
set_option linter.unusedSimpArgs false
set_option linter.unusedSectionVars false
set_option maxRecDepth 100000
namespace Go.Hb
open Go.Proofs
set_option maxHeartbeats 4000000
noncomputable section
def ckn (cs:List Con)(s:aC)(k:Int) :Bool:=decide (0≤dY s cs 0) && (match cs[(dY s cs 0).toNat]? with|some c=>decide (c.args=k) |none=>false)
mutual
def knP (cs:List Con) :Pat→Bool
 | .mk f _ s ps=> (if f=6 then ckn cs s (List.length ps)else true) &&aA0 cs ps
def aA0 (cs:List Con) :List Pat→Bool
 | [] =>true
 |p::ps=>knP cs p&&aA0 cs ps
end
mutual
def knT (fs:List aC)(cs:List Con) :Term→List aC→Bool
 | .mk o _ s ks ps,env=>if o=4 then eZ env s||eZ fs s else(if o=14 then ckn cs s (List.length ks)else true) &&ps.all (knP cs) &&aD2 fs cs o s ps ks 0 env
def aD2 (fs:List aC)(cs:List Con)(o:Int)(s:aC)(ps:List Pat) :List Term→Nat→List aC→Bool
 | [],_,_=>true
 |t::ts,i,env=>knT fs cs t (env++bZ o s ps i) &&aD2 fs cs o s ps ts (i+1) env
end
abbrev BC (fs:List aC)(cs:List Con) :AObj:=.cells (putCells .leaf 0 [.ilst 1 (List.map aA fs) false,.ilst 2 (List.map Con.av cs) false,.nils]) 3 [] false
theorem aDn {cs:List Con}{s:aC}(h:0≤dY s cs 0) :∃c,cs[(dY s cs 0).toNat]?=some c:=by
 rcases mJ s cs 0 (by omega)with e| ⟨_,_,d,hd,_⟩
 ·omega
 ·rw [Int.sub_zero]at hd;exact⟨d,hd⟩
def KPS (fs:List aC)(cs:List Con)(p:Pat) :Prop:=Spec PP (.enter 114 [.ptr 0 0,Pat.av p]) (aG [(0,BC fs cs,false)] 1) (.ret (.bool (knP cs p))) (aG [(0,BC fs cs,false)] 1)
theorem klB (b:Bool) :sP (.ret (.bool b)) :=rfl
theorem aH8 (fs:List aC)(cs:List Con)(f n:Int)(s:aC)(ps:List Pat)(hl:ps.length<1000000)(ih:∀p∈ps,KPS fs cs p) :∀ (t:List Pat) (i:Nat),ps.drop i=t →
  Ends PP 1 (aDg fs cs f n s ps (i:Int)).as (.ret (.bool (aA0 cs t))) (aG [(0,BC fs cs,false)] 1)
 | [],i,h=>by
  have:=bA h;exact aZt fs cs f n s ps i sd
 | .mk f' n' s' ps'::t,i,h=>by
  obtain⟨g1,g2,g3⟩ :=aZ h;have hs:=ih _ (List.mem_of_getElem? g1);unfold KPS at hs;rw [aA0];have hs':=cI (ks:=[0]) (n2:=2) (args':=[.ptr 0 0,Pat.av (.mk f' n' s' ps')]) (lc:=[(0,BC fs cs,false),(1,.cells (putCells .leaf 0 [.int .i64 f,.int .i64 n,aA s,.ilst 4 (Pats.av ps) false]) 4 [] false,false)]) (lc':=[(0,BC fs cs,false),(1,.cells (putCells .leaf 0 [.int .i64 f,.int .i64 n,aA s,.ilst 4 (Pats.av ps) false]) 4 [] false,false)]) hs (by kernel_rfl) (klB _) (by kernel_rfl) (by kernel_rfl) trivial (by kernel_rfl) trivial (by kernel_rfl) (by kernel_rfl) (by kernel_rfl) (by kernel_rfl) (by kernel_rfl) (by kernel_rfl) (by kernel_rfl) (by kernel_rfl);cases hb:knP cs (.mk f' n' s' ps')with
  | true=>
   rw [hb]at hs';rw [Bool.true_and];exact(aZs fs cs f n s ps i f' n' s' ps' true sd sd sd hs' rfl sd).ends (aH8 fs cs f n s ps hl ih t (i+1) g2)
  | false=>
   rw [hb]at hs';rw [Bool.false_and];exact aZr fs cs f n s ps i f' n' s' ps' false sd sd sd hs' rfl
mutual
theorem aH9 (fs:List aC)(cs:List Con)(hc:cs.length<1000000) :∀p:Pat,aQ p<1000000→KPS fs cs p
 | .mk f n s ps,hp=>by
  simp only [aQ]at hp;have:=bK ps;refine⟨(aSa fs cs f n s ps).as.fr,by kernel_rfl,?_⟩;have E :Ends PP 1 (aSa fs cs f n s ps).as (.ret (.bool (knP cs (.mk f n s ps)))) (aG [(0,BC fs cs,false)] 1) :=by
   have L:=aH8 fs cs f n s ps (by omega) (aLs fs cs hc ps (by omega)) ps 0 rfl;rw [knP];by_cases h6:f=6
   · rw [if_pos h6];unfold ckn;by_cases h0:0≤dY s cs 0
     · obtain⟨c,hcc⟩ :=aDn h0;rw [hcc,decide_eq_true h0,Bool.true_and];by_cases ha:c.args= (List.length ps:Int)
       · simp only [ha,decide_true,Bool.true_and];exact(aZp fs cs f n s ps _ c (by simp [h6]) (mL cs s hc) (by simp;omega) h0 hcc (by simp [ha])).ends L
       · simp only [ha,decide_false,Bool.false_and];exact aZo fs cs f n s ps _ c (by simp [h6]) (mL cs s hc) (by simp;omega) h0 hcc (by simpa using ha)
     · rw [decide_eq_false h0,Bool.false_and,Bool.false_and];exact aZn fs cs f n s ps _ (by simp [h6]) (mL cs s hc) (by simp;omega)
   · rw [if_neg h6,Bool.true_and];exact(aZq fs cs f n s ps (by simp [h6])).ends L
  exact Eq.mp (by kernel_rfl) E
theorem aLs (fs:List aC)(cs:List Con)(hc:cs.length<1000000) :∀ps:List Pat,aM ps<1000000→∀p∈ps,KPS fs cs p
 | [],_,p,hp=>by cases hp
 | q::ps,h,p,hp=>by
  simp only [aM]at h;rcases List.mem_cons.1 hp with e|hp
  ·rw [e];exact aH9 fs cs hc q (by omega)
  ·exact aLs fs cs hc ps (by omega) p hp
end
abbrev eI (o n:Int)(s:aC)(ks:List Term)(ps:List Pat) :AObj:=.cells (putCells .leaf 0 [.int .i64 o,.int .i64 n,aA s,.ilst 5 (Terms.av ks) false,.ilst 4 (Pats.av ps) false]) 5 [] false
def KTS (fs:List aC)(cs:List Con)(t:Term)(env:List aC) :Prop:=Spec PP (.enter 52 [.ptr 0 0,Term.av t,.ilst 1 (List.map aA env) false]) (aG [(0,BC fs cs,false)] 1) (.ret (.bool (knT fs cs t env))) (aG [(0,BC fs cs,false)] 1)
theorem qV {ps:List Pat}(h:∀p∈ps,aQ p≤1000)(o:Int)(s:aC)(k:Nat) : (bZ o s ps k).length≤1000:=by
 unfold bZ;split
 ·simp
 · split
   ·split<;>simp
   · split
     · cases k with
       |zero=>simp
       | succ j=>
        simp only;cases hp:ps[j]? with
        |none=>simp
        | some p=>
         have:=xW p;have:=h p (List.mem_of_getElem? hp);simp only;omega
     ·simp
theorem bFC (fs:List aC)(cs:List Con)(o n:Int)(s:aC)(ks:List Term)(ps:List Pat)(env:List aC)(hl:ks.length≤900)(h15:o=15→ks.length≤ps.length+1)(hps:∀p∈ps,aQ p≤1000)(he:env.length≤900000)
  (ih:∀t∈ks,∀e:List aC,e.length≤env.length+1000→KTS fs cs t e) :∀ (ts:List Term) (i:Nat),ks.drop i=ts →
  Ends PP 1 (aDi fs cs o n s ks ps env (i:Int)).as (.ret (.bool (aD2 fs cs o s ps ts i env))) (aG [(0,BC fs cs,false)] 1)
 | [],i,h=>by
  have:=bA h;exact aZF fs cs o n s ks ps env i sd
 | .mk o' n' s' ks' ps'::ts,i,h=>by
  obtain⟨g1,g2,g3⟩ :=aZ h;have hi:= (List.getElem?_eq_some_iff.1 g1).1;have hbl:=qV hps o s i;have hb:=aDm o n s ks ps i (by omega) (fun h=>by have:=h15 h;omega) hps;have hw:=aDl env (bZ o s ps i) (by omega);have hs:=ih _ (List.mem_of_getElem? g1) (env++bZ o s ps i) (by simp;omega);unfold KTS at hs;rw [aD2];have hs':=cI (ks:=[0]) (n2:=2) (args':=[.ptr 0 0,Term.av (.mk o' n' s' ks' ps'),.ilst 1 (List.map aA (env++bZ o s ps i)) false]) (lc:=[(0,BC fs cs,false),(1,eI o n s ks ps,false)]) (lc':=[(0,BC fs cs,false),(1,eI o n s ks ps,false)]) hs (by kernel_rfl) (klB _) (by kernel_rfl) (by kernel_rfl) trivial (by kernel_rfl) trivial (by kernel_rfl) (by kernel_rfl) (by kernel_rfl) (by kernel_rfl) (by kernel_rfl) (by kernel_rfl) (by kernel_rfl) (by kernel_rfl);cases hb2:knT fs cs (.mk o' n' s' ks' ps') (env++bZ o s ps i)with
  | true=>
   rw [hb2]at hs';rw [Bool.true_and];exact(aZE fs cs o n s ks ps env i o' n' s' ks' ps' _ _ true sd sd sd hb hw hs' rfl sd).ends (bFC fs cs o n s ks ps env hl h15 hps he ih ts (i+1) g2)
  | false=>
   rw [hb2]at hs';rw [Bool.false_and];exact aZD fs cs o n s ks ps env i o' n' s' ks' ps' _ _ false sd sd sd hb hw hs' rfl
theorem bFD (fs:List aC)(cs:List Con)(o n:Int)(s:aC)(ks:List Term)(ps:List Pat)(env:List aC)(hc:cs.length<1000000)(hl:ps.length<1000000)(hps:∀p∈ps,aQ p≤1000)(b:Bool)
  (hk:Ends PP 1 (aDi fs cs o n s ks ps env 0).as (.ret (.bool b)) (aG [(0,BC fs cs,false)] 1)) :∀ (qs:List Pat) (i:Nat),ps.drop i=qs →
  Ends PP 1 (aDh fs cs o n s ks ps env (i:Int)).as (.ret (.bool (qs.all (knP cs) &&b))) (aG [(0,BC fs cs,false)] 1)
 | [],i,h=>by
  have:=bA h;exact(aZC fs cs o n s ks ps env i sd).ends hk
 | .mk f' n' s' ps'::qs,i,h=>by
  obtain⟨g1,g2,g3⟩ :=aZ h;have hm:=List.mem_of_getElem? g1;have hs:=aH9 fs cs hc _ (by have:=hps _ hm;omega:aQ (.mk f' n' s' ps') <1000000);unfold KPS at hs;rw [List.all_cons];have hs':=cI (ks:=[0]) (n2:=2) (args':=[.ptr 0 0,Pat.av (.mk f' n' s' ps')]) (lc:=[(0,BC fs cs,false),(1,eI o n s ks ps,false)]) (lc':=[(0,BC fs cs,false),(1,eI o n s ks ps,false)]) hs (by kernel_rfl) (klB _) (by kernel_rfl) (by kernel_rfl) trivial (by kernel_rfl) trivial (by kernel_rfl) (by kernel_rfl) (by kernel_rfl) (by kernel_rfl) (by kernel_rfl) (by kernel_rfl) (by kernel_rfl) (by kernel_rfl);cases hb:knP cs (.mk f' n' s' ps')with
  | true=>
   rw [hb]at hs';rw [Bool.true_and];exact(aZB fs cs o n s ks ps env i f' n' s' ps' true sd sd sd hs' rfl sd).ends (bFD fs cs o n s ks ps env hc hl hps b hk qs (i+1) g2)
  | false=>
   rw [hb]at hs';rw [Bool.false_and,Bool.false_and];exact aZA fs cs o n s ks ps env i f' n' s' ps' false sd sd sd hs' rfl
theorem aGn {o n:Int}{s:aC}{k m:Int}(h:aK o n s k m=true)(h15:o=15) :k=1+m:=by
 subst h15;simp [aK]at h;exact h.1.2
mutual
theorem aIa (fs:List aC)(cs:List Con)(hc:cs.length<1000000)(hf:fs.length<1000000) :∀ (t:Term) (env:List aC),bX t≤900→tsm t=true→hR t=true→env.length+1000*dX t≤900000→KTS fs cs t env
 | .mk o n s ks ps,env,hz,hs,hF,he=>by
  simp only [bX]at hz;simp only [dX]at he;have hkl:=lL ks;rw [tsm]at hs;simp only [Bool.and_eq_true,decide_eq_true_eq]at hs;obtain⟨⟨⟨_,hpl⟩,hsp⟩,hsk⟩ :=hs;rw [hR]at hF;simp only [Bool.and_eq_true]at hF;obtain⟨⟨hH,_⟩,hFk⟩ :=hF
  have hps:∀p∈ps,aQ p≤1000:=fun p hp=>by
   have:=List.all_eq_true.1 hsp p hp;simp only [jL,Bool.and_eq_true,decide_eq_true_eq]at this;omega
  refine⟨(aEK fs cs o n s ks ps env).as.fr,by kernel_rfl,?_⟩;have E : Ends PP 1 (aEK fs cs o n s ks ps env).as (.ret (.bool (knT fs cs (.mk o n s ks ps) env))) (aG [(0,BC fs cs,false)] 1) :=by
   have L1:=bFC fs cs o n s ks ps env (by omega) (fun h=>by have:=aGn hH h;omega) hps (by omega) (fun t ht e hel=>aLt fs cs hc hf ks (by omega) hsk hFk t ht e (by omega)) ks 0 rfl;have L:=bFD fs cs o n s ks ps env hc (by omega) hps _ L1 ps 0 rfl;rw [knT];by_cases h4:o=4
   · rw [if_pos h4];have h1:=qT env s (by omega);cases hb:eZ env s with
     | true=>
      rw [hb]at h1;exact aZu fs cs o n s ks ps env true (by simp [h4]) h1 rfl
     | false=>
      rw [hb]at h1;rw [Bool.false_or];exact aZv fs cs o n s ks ps env false _ (by simp [h4]) h1 rfl (qT fs s hf)
   · rw [if_neg h4];by_cases h14:o=14
     · rw [if_pos h14];unfold ckn;by_cases h0:0≤dY s cs 0
       · obtain⟨c,hcc⟩ :=aDn h0;rw [hcc,decide_eq_true h0,Bool.true_and];by_cases ha:c.args= (List.length ks:Int)
         · simp only [ha,decide_true,Bool.true_and];exact(aZy fs cs o n s ks ps env _ c (by simp [h4]) (by simp [h14]) (mL cs s hc) (by simp;omega) h0 hcc (by simp [ha])).ends L
         · simp only [ha,decide_false,Bool.false_and];exact aZx fs cs o n s ks ps env _ c (by simp [h4]) (by simp [h14]) (mL cs s hc) (by simp;omega) h0 hcc (by simpa using ha)
       · rw [decide_eq_false h0,Bool.false_and,Bool.false_and,Bool.false_and];exact aZw fs cs o n s ks ps env _ (by simp [h4]) (by simp [h14]) (mL cs s hc) (by simp;omega)
     · rw [if_neg h14,Bool.true_and];exact(aZz fs cs o n s ks ps env (by simp [h4]) (by simp [h14])).ends L
  exact Eq.mp (by kernel_rfl) E
theorem aLt (fs:List aC)(cs:List Con)(hc:cs.length<1000000)(hf:fs.length<1000000) :∀ (ts:List Term),bO ts≤900→xZ ts=true→jM ts=true→∀t∈ts,∀env:List aC,env.length+1000*dK ts≤900000→KTS fs cs t env
 | [],_,_,_,t,ht=>by cases ht
 | u::ts,hz,hs,hF,t,ht=>by
  simp only [bO]at hz;rw [xZ,Bool.and_eq_true]at hs;rw [jM,Bool.and_eq_true]at hF;rcases List.mem_cons.1 ht with e|ht
  ·rw [e];exact fun env he=>aIa fs cs hc hf u env (by omega) hs.1 hF.1 (by simp only [dK]at he;omega)
  ·exact fun env he=>aLt fs cs hc hf ts (by omega) hs.2 hF.2 t ht env (by simp only [dK]at he;omega)
end
end
end Go.Hb
namespace Go.Hb
open Go.Proofs
noncomputable section
open Go.Proofs Tryz
theorem aSi {α:Type}{f:α→AV}{a b:List α}(h:List.length (a++b) ≤1000000) :List.length (List.map f a) +List.length (List.map f b) ≤1000000:=by
 rw [List.length_map,List.length_map,←List.length_append];exact h
def aSj(a b:List (aC×Int))(c:List Int)(d:aC)(e:Int):TS:=bF PP 109 [(.agg [(.map 0),(.map 1),(iI c)]),(aA d),(nI e)] [(0,(.map (aB aA aO 0 a) a.length),true),(1,(.map (aB aA aO 0 b) b.length),true)] 2
def aSk(a b:List (aC×Int))(c:List Int)(d:aC)(e:List aC)(f:aC):TS:=bF PP 108 [(.agg [(.map 0),(.map 1),(iI c),(iS (d::e))]),(aA f)] [(0,(.map (aB aA aO 0 a) a.length),true),(1,(.map (aB aA aO 0 b) b.length),true)] 2
def aGo(a b:List (aC×Int))(c:List Int)(d:aC)(e:List aC)(f:aC)(g:Int):TS:=⟨(tf 108 38 [(1,(aA f)),kp 2 2,(4,(nI 0)),(5,(nI g))] [kc f108 52,kl f108 52,.inBlock 0,kc f108 7]),[],[(0,(.map (aB aA aO 0 a) a.length),true),(1,(.map (aB aA aO 0 b) b.length),true),oC 2 [(.map 0),(.map 1),(iI c),(iS (d::e))]],3⟩
def bCK(a b:List (aC×Int))(c:List Int)(d:aC)(e f:List aC):TS:=bF PP 110 [(.agg [(.map 0),(.map 1),(iI c),(iS (d::e))]),(iS f)] [(0,(.map (aB aA aO 0 a) a.length),true),(1,(.map (aB aA aO 0 b) b.length),true)] 2
def aIb(a:Mod):TS:=bF PP 43 [(.agg [(aA a.name),(.ilst 2 (List.map DataD.av a.datas) false),(.ilst 15 (FunDs.av a.funs) false)])] [] 0
def aA1(a:Mod)(e:Int)(b:List Con)(c:List (aC×Int))(d:List Int):TS:=⟨(tf 43 108 [kp 1 0,kp 2 1,(3,.nils),kp 4 2,(5,(.gl 3 2 0 b.length false)),(22,(.ilst 2 (List.map DataD.av a.datas) false)),(23,(nI (a.datas.length:Int))),(24,(nI e))] [kc f43 244,kl f43 244,.inBlock 0,kc f43 31]),[],[oC 0 [(aA a.name),(.ilst 2 (List.map DataD.av a.datas) false),(.ilst 15 (FunDs.av a.funs) false)],oC 1 [.nilm,.nilm,.nils],oC 2 [(.map 4),(.map 5),(.gl 6 1 0 d.length false)],oL 3 2 (jC b),(4,(.map (aB aA aO 0 ([] :List (aC×Int))) ([] :List (aC×Int)).length),true),(5,(.map (aB aA aO 0 c) c.length),true),oL 6 1 (jI d)],7⟩
def aGp(a:Mod)(e:List ConD)(f g:Int)(b:List Con)(c:List (aC×Int))(d:List Int)(i:Int):TS:=⟨(tf 43 108 [kp 1 0,kp 2 1,(3,.nils),kp 4 2,(5,(.gl 3 2 0 b.length false)),(22,(.ilst 2 (List.map DataD.av a.datas) false)),(23,(nI (a.datas.length:Int))),(24,(nI i)),(29,(.ilst 2 (List.map ConD.av e) false)),(30,(nI f)),(31,(nI g))] [kc f43 62668,kl f43 62668,.inBlock 2,.inBlock 1,kc f43 1959,kl f43 244,.inBlock 0,kc f43 31]),[],[oC 0 [(aA a.name),(.ilst 2 (List.map DataD.av a.datas) false),(.ilst 15 (FunDs.av a.funs) false)],oC 1 [.nilm,.nilm,.nils],oC 2 [(.map 4),(.map 5),(.gl 6 1 0 d.length false)],oL 3 2 (jC b),(4,(.map (aB aA aO 0 ([] :List (aC×Int))) ([] :List (aC×Int)).length),true),(5,(.map (aB aA aO 0 c) c.length),true),oL 6 1 (jI d)],7⟩
def aA2(a:Mod)(f:Int)(b:List (aC×Int))(c:List Con)(d:List (aC×Int))(e:List Int):TS:=⟨(tf 43 108 [kp 2 0,(3,.nils),kp 4 1,(5,(.gl 2 2 0 c.length false)),(72,(.ilst 15 (FunDs.av a.funs) false)),(73,(nI (a.funs.length:Int))),(74,(nI f))] [kc f43 500,kl f43 500,.inBlock 4,kc f43 63]),[],[oC 0 [.nilm,.nilm,.nils],oC 1 [(.map 3),(.map 4),(.gl 5 1 0 e.length false)],oL 2 2 (jC c),(3,(.map (aB aA aO 0 b) b.length),true),(4,(.map (aB aA aO 0 d) d.length),true),oL 5 1 (jI e)],6⟩
def aSl(a b:Int)(c:aC)(d:List Term)(e:List Pat)(f:Int):TS:=bF PP 111 [(.agg [(nI a),(nI b),(aA c),(.ilst 5 (Terms.av d) false),(iP e)]),(nI f)] [] 0
def aSm(b a:List (aC×Int))(e:List Int)(c:aC)(f:Int):=tT 2 (aSj b a e c f)<|.o (.y fun d:Int=>.i [rn 10,.ans (.look (some (oH c a,(aO d))))] [.a (cJ c a=some d) (p':=dU (aA c) (aB aA aO 0 a) 0=some (some (oH c a,(aO d)))) (kB eV)]<|gX aO 15 e d<|fun g=>.b 5 26 (g != f) (.P 5 3 [] [((.iface 82 (.agg [])),false)] [(0,(.map (aB aA aO 0 b) b.length),true),(1,(.map (aB aA aO 0 a) a.length),true)] 2)<|.E 8 3 [] (nI d) [(0,(.map (aB aA aO 0 b) b.length),true),(1,(.map (aB aA aO 0 a) a.length),true)] 2)<|.i [rn 10,.ans (.look none)] [.a (cJ c a=none) (p':=dU (aA c) (aB aA aO 0 a) 0=some none) (kA eV)]<|.P 26 3 [] [((.iface 82 (.agg [])),false)] [(0,(.map (aB aA aO 0 b) b.length),true),(1,(.map (aB aA aO 0 a) a.length),true)] 2
def aZG:=fun a b c d e f g i j k l=>aSm a b c d e|>.1 f i g j k|>.t l ⟨aI (fun _=>rfl) (fun _=>rfl) _ _ _,⟨aI (fun _=>rfl) (fun _=>rfl) _ _ _,trivial⟩⟩
def aZH:=fun a b c d e f g i j k l=>aSm a b c d e|>.1 f i g j k|>.f l ⟨aI (fun _=>rfl) (fun _=>rfl) _ _ _,⟨aI (fun _=>rfl) (fun _=>rfl) _ _ _,trivial⟩⟩
def aZI:=fun a b c d e f=>aSm a b c d e|>.2 f ⟨aI (fun _=>rfl) (fun _=>rfl) _ _ _,⟨aI (fun _=>rfl) (fun _=>rfl) _ _ _,trivial⟩⟩
def aZJ (c d:List (aC×Int))(e:List Int)(a:aC)(b:List aC)(f:aC):=fun g=>(tT 2 (aSk c d e a b f)<|gl 10 aA (a::b)<|gw 1 11 (((a::b).length:Int) -1)<|.W 4 3 [2] (aGo c d e a b f (((a::b).length:Int) -1))) g ⟨aI (fun _=>rfl) (fun _=>rfl) _ _ _,⟨aI (fun _=>rfl) (fun _=>rfl) _ _ _,trivial⟩⟩
def aLu(a c:List (aC×Int))(i:List Int)(f:aC)(g:List aC)(b:aC)(e:Int):=tT 2 (aGo a c i f g b e)<|gd 6 13 (e≥0) (gX aA 9 (f::g) e<|fun d=>.b 4 22 (aU d.length (aE d) b.length (aE b)) (.E 7 3 [] (nI e) [(0,(.map (aB aA aO 0 a) a.length),true),(1,(.map (aB aA aO 0 c) c.length),true)] 2)<|gw 6 15 (e-1)<|.W 3 3 [2] (aGo a c i f g b (e-1)))<|.o (.y fun d:Int=>.i [rn 8,.ans (.look (some (oH b a,(aO d))))] [.a (cJ b a=some d) (p':=dU (aA b) (aB aA aO 0 a) 0=some (some (oH b a,(aO d)))) (kB eV)]<|gw 18 37 ((-1:Int) -d)<|.E 3 3 [] (nI ((-1:Int) -d)) [(0,(.map (aB aA aO 0 a) a.length),true),(1,(.map (aB aA aO 0 c) c.length),true)] 2)<|.i [rn 8,.ans (.look none)] [.a (cJ b a=none) (p':=dU (aA b) (aB aA aO 0 a) 0=some none) (kA eV)]<|.P 17 3 [] [((.iface 82 (.agg [])),false)] [(0,(.map (aB aA aO 0 a) a.length),true),(1,(.map (aB aA aO 0 c) c.length),true)] 2
def aZK:=fun a b c d e f g i j k l m=>aLu a b c d e f g|>.t j i k l|>.t m ⟨aI (fun _=>rfl) (fun _=>rfl) _ _ _,⟨aI (fun _=>rfl) (fun _=>rfl) _ _ _,trivial⟩⟩
def aZL:=fun a b c d e f g i j k l m n=>aLu a b c d e f g|>.t j i k l|>.f m n ⟨aI (fun _=>rfl) (fun _=>rfl) _ _ _,⟨aI (fun _=>rfl) (fun _=>rfl) _ _ _,trivial⟩⟩
def aZM:=fun a b c d e f g i j k l=>aLu a b c d e f g|>.f j|>.1 i k l ⟨aI (fun _=>rfl) (fun _=>rfl) _ _ _,⟨aI (fun _=>rfl) (fun _=>rfl) _ _ _,trivial⟩⟩
def aZN:=fun a b c d e f g i j=>aLu a b c d e f g|>.f i|>.2 j ⟨aI (fun _=>rfl) (fun _=>rfl) _ _ _,⟨aI (fun _=>rfl) (fun _=>rfl) _ _ _,trivial⟩⟩
def aZO (d e:List (aC×Int))(f:List Int)(a:aC)(b c:List aC):=fun g i=>(tT 2 (bCK d e f a b c)<|gk 9 (.enter 184 [(iS (a::b))]) [(0,(.map (aB aA aO 0 d) d.length),true),(1,(.map (aB aA aO 0 e) e.length),true),oC 2 [(.map 0),(.map 1),(iI f),(iS (a::b))],oC 3 [.nilm,.nilm,.nils,.nils]] 4 (.ilst 1 (List.map aA (a::b)) true) [(0,(.map (aB aA aO 0 d) d.length),true),(1,(.map (aB aA aO 0 e) e.length),true),oC 2 [(.map 0),(.map 1),(iI f),(iS (a::b))],oC 3 [.nilm,.nilm,.nils,.nils]] 4<|.i [rn 1,.appN (List.map aA ((a::b) ++c)) ((a::b) ++c).length] [hk aA c,.a (List.length ((a::b) ++c) ≤1000000) (p':=List.length (List.map aA (a::b)) +List.length (List.map aA c) ≤1000000) aSi,.q (p:=(List.map aA (a::b)) ++ (List.map aA c) = (List.map aA ((a::b) ++c))) (List.map_append ..).symm]<|.E 9 4 [] (.agg [(.map 0),(.map 1),(iI f),(iS ((a::b) ++c))]) [(0,(.map (aB aA aO 0 d) d.length),true),(1,(.map (aB aA aO 0 e) e.length),true)] 2) g i ⟨aI (fun _=>rfl) (fun _=>rfl) _ _ _,⟨aI (fun _=>rfl) (fun _=>rfl) _ _ _,trivial⟩⟩
def aZP (a:Mod):=(tT 0 (aIb a)<|.i [rn 9,.mset 2 (aB aA aO 0 ([] :List (aC×Int))) ([] :List (aC×Int)).length] [hr (aB aA aO 0 ([] :List (aC×Int))),hr (List.length ([] :List (aC×Int)))]<|.i [rn 1,.mset 3 (aB aA aO 0 ([] :List (aC×Int))) ([] :List (aC×Int)).length] [hr (aB aA aO 0 ([] :List (aC×Int))),hr (List.length ([] :List (aC×Int)))]<|gl 13 DataD.av a.datas<|.i [rn 4,.nilL 5 2] []<|gu 0 5 (jC ([] :List Con))<|gs 0 5 (.gl 5 2 0 ([] :List Con).length false)<|.i [.cnil 4 2 1] []<|gu 0 6 (jI ([] :List Int))<|gv 0 4 2 (.gl 6 1 0 ([] :List Int).length false)<|.W 0 7 [0,1,4,5,2,3,6] (aA1 a 0 ([] :List Con) ([] :List (aC×Int)) ([] :List Int))) ⟨kk,⟨aI (fun _=>rfl) (fun _=>rfl) _ _ _,⟨aI (fun _=>rfl) (fun _=>rfl) _ _ _,⟨kk,trivial⟩⟩⟩⟩
def bCL(a:Mod)(b:Int)(c:List Con)(d:List (aC×Int))(e:List Int):=tT 0 (aA1 a b c d e)<|gd 5 25 (b< (a.datas.length:Int)) (gX DataD.av 6 a.datas b<|fun f=>gl 8 ConD.av f.cons<|.W 4 8 [0,1,2,3,4,5,6] (aGp a f.cons (f.cons.length:Int) 0 c d e b))<|gm 7 cD a.funs<|.W 4 7 [1,2,3,4,5,6] (aA2 a 0 ([] :List (aC×Int)) c d e)
def aZQ:=fun a b c d e f g i j=>bCL a b c d e|>.t g f i j ⟨kk,⟨aI (fun _=>rfl) (fun _=>rfl) _ _ _,⟨aI (fun _=>rfl) (fun _=>rfl) _ _ _,⟨kk,trivial⟩⟩⟩⟩
def aZR:=fun a b c d e f=>bCL a b c d e|>.f f ⟨kk,⟨aI (fun _=>rfl) (fun _=>rfl) _ _ _,⟨aI (fun _=>rfl) (fun _=>rfl) _ _ _,⟨kk,trivial⟩⟩⟩⟩
def aSn(g:Mod)(i:List ConD)(j d:Int)(c:List Con)(b:List (aC×Int))(e:List Int)(f:Int):=tT 0 (aGp g i j d c b e f)<|gd 5 32 (d<j) (gX ConD.av 6 i d<|fun a=>.o (.y fun k:Int=>.i [rn 11,.ans (.look (some (oH a.name b,(aO k))))] [.a (cJ a.name b=some k) (p':=dU (aA a.name) (aB aA aO 0 b) 0=some (some (oH a.name b,(aO k)))) (kB eV)]<|gQ 15 8 [((.iface 82 (.agg [])),false)])<|.i [rn 11,.ans (.look none)] [.a (cJ a.name b=none) (p':=dU (aA a.name) (aB aA aO 0 b) 0=some none) (kA eV)]<|.i [rn 20,.mput (aB aA aO 0 (eF a.name (c.length:Int) b)) (eF a.name (c.length:Int) b).length] [.q (p:=pZ (aB aA aO 0 b) b.length (aA a.name) (aO (c.length:Int)) =some ((aB aA aO 0 (eF a.name (c.length:Int) b)),List.length (eF a.name (c.length:Int) b))) (aB1 eV _ _ _)]<|gm 7 cT a.args<|ga 1 aO e [(a.args.length:Int)]<|gm 9 cT a.args<|ga 2 Con.av c [(Con.mk a.name (a.args.length:Int))]<|gw 5 69 (d+1)<|.W 3 12 [0,1,2,11,4,5,9] (aGp g i j (d+1) (c++ [(Con.mk a.name (a.args.length:Int))]) (eF a.name (c.length:Int) b) (e++ [(a.args.length:Int)]) f))<|gw 5 70 (f+1)<|.W 3 7 [0,1,2,3,4,5,6] (aA1 g (f+1) c b e)
def aZS:=fun a b c d e f g i j k l m n o=>aSn a b c d e f g i|>.t l j m n|>.1 k o tv
def aZT:=fun a b c d e f g i j k l m n o p q=>aSn a b c d e f g i|>.t k j l m|>.2 n o p q ⟨kk,⟨aI (fun _=>rfl) (fun _=>rfl) _ _ _,⟨aI (fun _=>rfl) (fun _=>rfl) _ _ _,⟨kk,trivial⟩⟩⟩⟩
def aZU:=fun a b c d e f g i j k=>aSn a b c d e f g i|>.f j k ⟨kk,⟨aI (fun _=>rfl) (fun _=>rfl) _ _ _,⟨aI (fun _=>rfl) (fun _=>rfl) _ _ _,⟨kk,trivial⟩⟩⟩⟩
def aLv(d:Mod)(c:Int)(a:List (aC×Int))(e:List Con)(f:List (aC×Int))(g:List Int):=tT 0 (aA2 d c a e f g)<|gd 5 75 (c< (d.funs.length:Int)) (.y fun b:aC=>.y fun k:aC=>.y fun l:Int=>.y fun m:Int=>.y fun n:aC=>.y fun o:List Typ=>.y fun p:Int=>.y fun q:Int=>.y fun r:aC=>.y fun s:List Typ=>.y fun t:Int=>.y fun u:Int=>.y fun v:aC=>.y fun w:List Term=>.y fun x:List Pat=>giF cD 7 d.funs c (FunD.mk b k (Typ.mk l m n o) (Typ.mk p q r s) (Term.mk t u v w x))<|.o (.y fun i:Int=>.i [rn 12,.ans (.look (some (oH b a,(aO i))))] [.a (cJ b a=some i) (p':=dU (aA b) (aB aA aO 0 a) 0=some (some (oH b a,(aO i)))) (kB eV)]<|gQ 15 7 [((.iface 82 (.agg [])),false)])<|.i [rn 12,.ans (.look none)] [.a (cJ b a=none) (p':=dU (aA b) (aB aA aO 0 a) 0=some none) (kA eV)]<|.i [rn 18,.mput (aB aA aO 0 (eF b c a)) (eF b c a).length] [.q (p:=pZ (aB aA aO 0 a) a.length (aA b) (aO c) =some ((aB aA aO 0 (eF b c a)),List.length (eF b c a))) (aB1 eV _ _ _)]<|gw 4 95 (c+1)<|.W 3 7 [0,1,2,3,4,5] (aA2 d (c+1) (eF b c a) e f g))<|.o (.y fun j:Int=>.i [rn 7,.ans (.look (some (oH (strOf [109,97,105,110]) a,(aO j))))] [.a (cJ (strOf [109,97,105,110]) a=some j) (p':=dU (aA (strOf [109,97,105,110])) (aB aA aO 0 a) 0=some (some (oH (strOf [109,97,105,110]) a,(aO j)))) (kB eV)]<|gy 21 0 2 5 1 aO g false<|gz 0 3 2 2 Con.av e false<|.E 0 6 [3,4] (.tup [(.agg [(.map 0),(.map 1),(iI g)]),(iC e)]) [(0,(.map (aB aA aO 0 a) a.length),true),(1,(.map (aB aA aO 0 f) f.length),true)] 2)<|.i [rn 7,.ans (.look none)] [.a (cJ (strOf [109,97,105,110]) a=none) (p':=dU (aA (strOf [109,97,105,110])) (aB aA aO 0 a) 0=some none) (kA eV)]<|gQ 16 6 [((.iface 82 (.agg [])),false)]
def aZV:=fun a b c d e f g i j k l m n o p q r s t u v w x y z A=>aLv a b c d e f|>.t x g i j k l m n o p q r s t u v y z|>.1 w A tv
def aZW:=fun a b c d e f g i j k l m n o p q r s t u v w x y z A=>aLv a b c d e f|>.t w g i j k l m n o p q r s t u v x y|>.2 z A ⟨kk,⟨aI (fun _=>rfl) (fun _=>rfl) _ _ _,⟨aI (fun _=>rfl) (fun _=>rfl) _ _ _,⟨kk,trivial⟩⟩⟩⟩
def aZX:=fun a b c d e f g i j=>aLv a b c d e f|>.f i|>.1 g j ⟨aI (fun _=>rfl) (fun _=>rfl) _ _ _,⟨aI (fun _=>rfl) (fun _=>rfl) _ _ _,trivial⟩⟩
def aZY:=fun a b c d e f g i=>aLv a b c d e f|>.f g|>.2 i tv
def aDo(c l:Int)(a:aC)(m:List Term)(e:List Pat)(b:Int):=tT 0 (aSl c l a m e b)<|.b 13 11 (c==5) (.i [rn 24,.toL 4 false [(aA a)]] [hr (some [(aA a)]),hr true]<|gu 0 1 (List.map aA [a])<|gs 0 4 (.gl 1 1 0 [a].length true)<|.i [.weak 4] []<|gz 0 4 1 1 aA [a] false<|gE 0 2 (iS [a]))<|.b 5 16 (c==27) (.i [rn 19,.toL 4 false [(aA a)]] [hr (some [(aA a)]),hr true]<|gu 0 1 (List.map aA [a])<|gs 0 4 (.gl 1 1 0 [a].length true)<|.i [.weak 4] []<|gz 0 4 1 1 aA [a] false<|gE 0 2 (iS [a]))<|.b 4 20 (c==7) (.b 6 7 (b==1) (.i [rn 9,.toL 4 false [(aA a)]] [hr (some [(aA a)]),hr true]<|gu 0 1 (List.map aA [a])<|gs 0 4 (.gl 1 1 0 [a].length true)<|.i [.weak 4] []<|gz 0 4 1 1 aA [a] false<|gE 0 2 (iS [a]))<|.b 7 32 (c==15) (gd 5 28 (b>0) (gw 7 40 (b-1)<|mU 0 e (b-1)<|fun f g i j=>.y fun d:List aC=>.y fun k:Int=>gp 1 185 [(.agg [(nI f),(nI g),(aA i),(iP j)])] (.tup [(iS d),(nI k)])<|gE 12 1 (iS d))<|.i [rn 8,.nilI 4 1] []<|gE 0 1 (.ilst 1 (List.map aA ([] :List aC)) true))<|.i [rn 13,.nilI 4 1] []<|gE 0 1 (.ilst 1 (List.map aA ([] :List aC)) true))<|.b 13 32 (c==15) (gd 5 28 (b>0) (gw 7 40 (b-1)<|mU 0 e (b-1)<|fun f g i j=>.y fun d:List aC=>.y fun k:Int=>gp 1 185 [(.agg [(nI f),(nI g),(aA i),(iP j)])] (.tup [(iS d),(nI k)])<|gE 12 1 (iS d))<|.i [rn 8,.nilI 4 1] []<|gE 0 1 (.ilst 1 (List.map aA ([] :List aC)) true))<|.i [rn 13,.nilI 4 1] []<|gE 0 1 (.ilst 1 (List.map aA ([] :List aC)) true)
def aZZ:=fun a b c d e f g=>aDo a b c d e f|>.t g tv
def aZ0:=fun a b c d e f g i=>aDo a b c d e f|>.f g|>.t i tv
def aZ1:=fun a b c d e f g i j k=>aDo a b c d e f|>.f g|>.f i|>.t j|>.t k tv
def aZ2:=fun a b c d e f g i j k l=>aDo a b c d e f|>.f g|>.f i|>.t j|>.f k|>.f l tv
def aZ3:=fun a b c d e f g i j k l m n o p q r s t u v=>aDo a b c d e f|>.f n|>.f o|>.f p|>.t q|>.t r s g i j k t u l m v tv
def aZ4:=fun a b c d e f g i j k l=>aDo a b c d e f|>.f g|>.f i|>.f j|>.t k|>.f l tv
def aZ5:=fun a b c d e f g i j k=>aDo a b c d e f|>.f g|>.f i|>.f j|>.f k tv
end
end Go.Hb
namespace Go.Hb
open Go.Proofs
set_option maxHeartbeats 4000000
noncomputable section
abbrev UB :List (AV×Bool) :=[((.iface 82 (.agg [])),false)]
abbrev kV (ml:List (aC×Int)) :AObj:=.map (aB aA aO 0 ml) (List.length ml)
structure WS where
 l:List Con
 mc:List (aC×Int)
 ar:List Int
def aBR :List ConD→WS→Option WS
 | [],w=>some w
 | c::t,w=>match cJ c.name w.mc with
  |some _=>none
  |none=>aBR t ⟨w.l++ [mK c],eF c.name (List.length w.l:Int) w.mc,w.ar++ [(List.length c.args:Int)]⟩
def aD3 :List DataD→WS→Option WS
 | [],w=>some w
 | d::t,w=>match aBR d.cons w with
  |none=>none
  |some w'=>aD3 t w'
def aD4 :List FunD→Nat→List (aC×Int) →Option (List (aC×Int))
 | [],_,mf=>some mf
 | f::t,i,mf=>match cJ f.nm mf with
  |some _=>none
  |none=>aD4 t (i+1) (eF f.nm (i:Int) mf)
def bCM (a:TS)(b:WS→TS) :Option WS→Prop
 |none=>Ends PP 0 a.as (.pan UB) (aG [] 0)
 |some w=>LeadsM PP 0 a.as (b w).as
theorem bFE (m:Mod)(cs:List ConD)(j:Int)(hj: -1≤j∧j≤1000)(hl:cs.length≤1000) :∀ (t:List ConD) (k:Nat) (w:WS),cs.drop k=t→w.l.length+t.length≤500000→w.ar.length+t.length≤500000 →
  bCM (aGp m cs (List.length cs:Int) (k:Int) w.l w.mc w.ar j) (fun w'=>aA1 m (j+1) w'.l w'.mc w'.ar) (aBR t w)
 | [],k,w,h,hb,hb2=>by
  have:=bA h;exact aZU m cs (List.length cs:Int) k w.l w.mc w.ar j (by simp;omega) sd
 | c::t,k,w,h,hb,hb2=>by
  obtain⟨q1,q2,q3⟩ :=aZ h;have hk:= (List.getElem?_eq_some_iff.1 q1).1;simp only [List.length_cons]at hb hb2;rw [aBR];cases hm:cJ c.name w.mc with
  |some y=>exact aZS m cs (List.length cs:Int) k w.l w.mc w.ar j c y (by simp;omega) (by omega) (by rw [Int.toNat_natCast];exact q1) hm
  | none=>
   have h0:=aZT m cs (List.length cs:Int) k w.l w.mc w.ar j c (by simp;omega) (by omega) (by rw [Int.toNat_natCast];exact q1) hm (by simp;omega) (by simp;omega) sd;have ih:=bFE m cs j hj hl t (k+1) ⟨w.l++ [mK c],eF c.name (List.length w.l:Int) w.mc,w.ar++ [(List.length c.args:Int)]⟩ q2 (by simp;omega) (by simp;omega);simp only;generalize aBR t ⟨w.l++ [mK c],eF c.name (List.length w.l:Int) w.mc,w.ar++ [(List.length c.args:Int)]⟩ =r at ih ⊢;cases r with
   |none=>exact h0.ends ih
   |some w'=>exact h0.trans ih
theorem aIc :∀ (t:List ConD) (w w':WS),aBR t w=some w'→w'.l.length=w.l.length+t.length∧w'.ar.length=w.ar.length+t.length
 | [],w,w',h=>by rw [aBR]at h;cases h;simp
 | c::t,w,w',h=>by
  rw [aBR]at h;cases hm:cJ c.name w.mc with
  |some y=>rw [hm]at h;cases h
  | none=>
   rw [hm]at h;have:=aIc t _ w' h;simp only [List.length_append,List.length_cons,List.length_nil]at this ⊢;omega
theorem bFF (m:Mod)(hl:m.funs.length≤1000)(w:WS) :∀ (t:List FunD) (i:Nat) (mf:List (aC×Int)),m.funs.drop i=t→i≤m.funs.length →
  match aD4 t i mf with
  |none=>Ends PP 0 (aA2 m (i:Int) mf w.l w.mc w.ar).as (.pan UB) (aG [] 0)
  |some mf'=>LeadsM PP 0 (aA2 m (i:Int) mf w.l w.mc w.ar).as (aA2 m ((m.funs.length:Nat) :Int) mf' w.l w.mc w.ar).as
 | [],i,mf,h,hi=>by
  have h1:=bA h;rw [aD4];obtain rfl:i=m.funs.length:=by omega
  exact LeadsM.refl _
 | .mk n p (.mk f0 f1 f2 f3) (.mk g0 g1 g2 g3) (.mk b0 b1 b2 b3 b4) ::t,i,mf,h,hi=>by
  obtain⟨q1,q2,q3⟩ :=aZ h;rw [aD4];simp only [FunD.nm];cases hm:cJ n mf with
  |some y=>exact aZV m i mf w.l w.mc w.ar n p f0 f1 f2 f3 g0 g1 g2 g3 b0 b1 b2 b3 b4 y sd sd sd hm
  | none=>
   have h0:=aZW m i mf w.l w.mc w.ar n p f0 f1 f2 f3 g0 g1 g2 g3 b0 b1 b2 b3 b4 sd sd sd hm sd;have ih:=bFF m hl w t (i+1) (eF n (i:Int) mf) q2 (by omega);simp only;generalize aD4 t (i+1) (eF n (i:Int) mf) =r at ih ⊢;cases r with
   |none=>exact h0.ends ih
   |some w'=>exact h0.trans ih
theorem bFG (m:Mod)(hd:∀d∈m.datas,d.cons.length≤1000)(hl:m.datas.length≤100) :∀ (t:List DataD) (i:Nat) (w:WS),m.datas.drop i=t→i≤m.datas.length→w.l.length≤1000*i→w.ar.length≤1000*i →
  bCM (aA1 m (i:Int) w.l w.mc w.ar) (fun w'=>aA1 m ((m.datas.length:Nat) :Int) w'.l w'.mc w'.ar) (aD3 t w)
 | [],i,w,h,hi,_,_=>by
  have h1:=bA h;rw [aD3];obtain rfl:i=m.datas.length:=by omega
  exact LeadsM.refl _
 | d::t,i,w,h,hi,h1,h2=>by
  obtain⟨q1,q2,q3⟩ :=aZ h;have hdl:=hd d (List.mem_of_getElem? q1);have h0:=aZQ m i w.l w.mc w.ar d sd sd sd;have hin:=bFE m d.cons (i:Int) (by omega) hdl d.cons 0 w rfl (by omega) (by omega);rw [aD3];cases hc:aBR d.cons w with
  | none=>
   rw [hc]at hin;exact h0.ends hin
  | some w'=>
   rw [hc]at hin;obtain⟨e1,e2⟩ :=aIc _ _ _ hc;have ih:=bFG m hd hl t (i+1) w' q2 (by omega) (by omega) (by omega);simp only;generalize aD3 t w'=r at ih ⊢;cases r with
   |none=>exact(h0.trans hin).ends ih
   |some w2=>exact(h0.trans hin).trans ih
def qE (m:Mod) :Option (List (aC×Int) ×WS) :=
 match aD3 m.datas ⟨[],[],[]⟩with
 |none=>none
 | some w=>match aD4 m.funs 0 []with
  |none=>none
  | some mf=>match cJ (strOf [109,97,105,110]) mf with
   |none=>none
   |some _=>some (mf,w)
theorem aSo (m:Mod)(hf:m.funs.length≤1000)(hd:∀d∈m.datas,d.cons.length≤1000)(hl:m.datas.length≤100) :
  match qE m with
  |none=>Ends PP 0 (aIb m).as (.pan UB) (aG [] 0)
  |some (mf,w) =>Ends PP 0 (aIb m).as (.ret (.tup [.agg [.map 0,.map 1,.ilst 1 (List.map aO w.ar) false],.ilst 2 (List.map Con.av w.l) false])) (aG [(0,kV mf,true),(1,kV w.mc,true)] 2) :=by
 have h0:=aZP m;have hD:=bFG m hd hl m.datas 0 ⟨[],[],[]⟩ rfl (Nat.zero_le _) (by simp) (by simp);unfold qE;cases e1:aD3 m.datas ⟨[],[],[]⟩with
 |none=>rw [e1]at hD;exact h0.ends hD
 | some w=>
  rw [e1]at hD;have h1:= (h0.trans hD).trans (aZR m ((m.datas.length:Nat) :Int) w.l w.mc w.ar (by simp));have hF:=bFF m hf w m.funs 0 [] rfl (Nat.zero_le _);simp only;cases e2:aD4 m.funs 0 []with
  |none=>rw [e2]at hF;exact h1.ends hF
  | some mf=>
   rw [e2]at hF;simp only;cases e3:cJ (strOf [109,97,105,110]) mf with
   |none=>exact(h1.trans hF).ends (aZY m _ mf w.l w.mc w.ar (by simp) e3)
   |some y=>exact(h1.trans hF).ends (aZX m _ mf w.l w.mc w.ar y (by simp) e3)
abbrev WH (mf mc:List (aC×Int)) :Hp:=aG [(0,kV mf,true),(1,kV mc,true)] 2
def aGq (mc:List (aC×Int))(ar:List Int)(s:aC)(k:Int) :Option Int:=
 match cJ s mc with
 |none=>none
 |some n=>if ar[n.toNat]?=some k then some n else none
abbrev aMR :Option Int→Res
 |none=>.pan UB
 |some n=>.ret (.int .i64 n)
theorem aId (mf mc:List (aC×Int))(ar:List Int)(s:aC)(k:Int)(hn:∀n,cJ s mc=some n→0≤n∧n<ar.length) :
  Spec PP (.enter 109 [.agg [.map 0,.map 1,.ilst 1 (List.map aO ar) false],aA s,.int .i64 k]) (WH mf mc) (aMR (aGq mc ar s k)) (WH mf mc) :=by
 refine⟨(aSj mf mc ar s k).as.fr,by kernel_rfl,?_⟩;have E:Ends PP 2 (aSj mf mc ar s k).as (aMR (aGq mc ar s k)) (WH mf mc) :=by
  unfold aGq;cases hm:cJ s mc with
  |none=>exact aZI mf mc ar s k hm
  | some n=>
   obtain⟨h0,h1⟩ :=hn n hm;obtain⟨y,hy⟩ :∃y,ar[n.toNat]?=some y:= ⟨_,List.getElem?_eq_getElem (by omega)⟩;simp only [hy];by_cases e:y=k
   · subst e;rw [if_pos rfl];exact aZH mf mc ar s y n y hm h0 hy (by simp)
   · rw [if_neg (by simpa using e)];exact aZG mf mc ar s k n y hm h0 hy (by simpa using e)
 exact Eq.mp (by kernel_rfl) E
def aEM (mf:List (aC×Int))(pl:List aC)(s:aC) :Option Int:=
 if 0≤dR pl s then some (dR pl s)else match cJ s mf with
  |none=>none
  |some f=>some (-1-f)
theorem aIe (mf mc:List (aC×Int))(ar:List Int)(q:aC)(pl:List aC)(s:aC)(hb:∀f,cJ s mf=some f→0≤f∧f≤1000000) :∀ (i:Nat),i≤ (q::pl).length→i≤1000000 →
  Ends PP 2 (aGo mf mc ar q pl s ((i:Int) -1)).as (aMR (if 0≤eM (q::pl) s i then some (eM (q::pl) s i)else match cJ s mf with|none=>none|some f=>some (-1-f))) (WH mf mc)
 | 0,_,_=>by
  rw [eM,if_neg (by omega)];cases hm:cJ s mf with
  |none=>exact aZN mf mc ar q pl s _ (by simp) hm
  | some f=>
   have:=hb f hm;exact aZM mf mc ar q pl s _ f (by simp) hm (by apply wrap64<;>omega)
 | i +1,hi,hb2=>by
  obtain⟨y,hy⟩ :∃y,(q::pl)[i]?=some y:= ⟨_,List.getElem?_eq_getElem (by omega)⟩;have e: ((i+1:Nat) :Int) -1= (i:Int) :=by omega
  rw [e,eM];by_cases h:y=s
  · subst h;rw [if_pos hy,if_pos (by omega)];exact aZK mf mc ar q pl y i y (by simp) (by omega) (by rw [Int.toNat_natCast];exact hy) (by rw [hQ];simp)
  · have e2: (if(q::pl)[i]?=some s then(i:Int)else eM (q::pl) s i) =eM (q::pl) s i:=if_neg (by rw [hy];simpa using h);rw [e2];exact(aZL mf mc ar q pl s i y (by simp) (by omega) (by rw [Int.toNat_natCast];exact hy) (by rw [hQ];simpa using h) (by apply wrap64<;>omega)).ends (aIe mf mc ar q pl s hb i (by omega) (by omega))
theorem aSp (mf mc:List (aC×Int))(ar:List Int)(q:aC)(pl:List aC)(s:aC)(hb:∀f,cJ s mf=some f→0≤f∧f≤1000000)(hl: (q::pl).length≤1000000) :
  Spec PP (.enter 108 [.agg [.map 0,.map 1,.ilst 1 (List.map aO ar) false,.ilst 1 (List.map aA (q::pl)) false],aA s]) (WH mf mc) (aMR (aEM mf (q::pl) s)) (WH mf mc) :=by
 refine⟨(aSk mf mc ar q pl s).as.fr,by kernel_rfl,?_⟩;have E:Ends PP 2 (aSk mf mc ar q pl s).as (aMR (aEM mf (q::pl) s)) (WH mf mc) :=
  (aZJ mf mc ar q pl s (by apply wrap64<;>omega)).ends (aIe mf mc ar q pl s hb (q::pl).length (Nat.le_refl _) hl)
 exact Eq.mp (by kernel_rfl) E
end
end Go.Hb
namespace Go.Hb
open Go.Proofs
noncomputable section
end
end Go.Hb
namespace Go.Hb
open Go.Proofs
noncomputable section
end
end Go.Hb
namespace Go.Hb
open Go.Proofs
set_option maxHeartbeats 2000000
noncomputable section
end
end Go.Hb
namespace Go.Hb
open Go.Proofs
noncomputable section
open Go.Proofs Tryz
def bCN(a b:Int)(c:aC)(d:List Pat)(e:List Con)(f:List aC)(g:Int):TS:=bF PP 150 [(.agg [(nI a),(nI b),(aA c),(iP d)]),(iC e),(iS f),(nI g)] [] 0
def yE(a c:Int)(d:aC)(e:List Pat)(f:List Con)(g:List aC)(m:Int)(i:aC)(j k l:Int)(b:List Pat):TS:=⟨(tf 150 68 [(1,(iC f)),(2,(iS g)),(3,(nI k)),kp 4 0,kp 8 1,(9,(nI 0)),kp 10 2,(11,(nI l))] [kc f150 500,kl f150 500,.inBlock 0,kc f150 63]),[],[oC 0 [(nI a),(nI c),(aA d),(iP e)],oC 1 [(nI 0),(nI 0),(.str 0 0),.nils],oC 2 [(nI a),(nI j),(aA i),(.gl 3 4 0 b.length false)],oL 3 4 (Pats.av b)],4⟩
def bCO(a:Prog)(b c:List aC)(d e:Int)(f:aC)(g:List Pat)(i:Int):TS:=bF PP 143 [(.agg [(iN a.nodes),(iI a.funs),(nI a.main),(iC a.cons),(iS b),(iS c)]),(.agg [(nI d),(nI e),(aA f),(iP g)]),(nI i)] [] 0
def aA3(a:Prog)(d e:List aC)(f l:Int)(m:aC)(b:List Pat)(n:Int)(g:aC)(i j k:Int)(c:List Pat):TS:=⟨(tf 143 65 [(2,(nI i)),kp 3 0,kp 6 1,(7,(nI 0)),kp 8 2,(43,(iP b)),(44,(nI (b.length:Int))),(45,(nI k))] [kc f143 244,kl f143 244,.inBlock 1,kc f143 31]),[],[oC 0 [(iN a.nodes),(iI a.funs),(nI a.main),(iC a.cons),(iS d),(iS e)],oC 1 [(nI 0),(nI 0),(.str 0 0),.nils],oC 2 [(nI f),(nI j),(aA g),(.gl 3 4 0 c.length false)],oL 3 4 (Pats.av c)],4⟩
def aSq(c a:Int)(g:aC)(i:List Pat)(d:List Con)(f:List aC)(b:Int):=tT 0 (bCN c a g i d f b)<|.b 23 21 (c==2) (gX aA 5 f b<|fun e=>gw 7 28 (b+1)<|.b 9 31 (c==6) (.y fun j:Con=>.i [rn 1,.reg (rd 3 (.ans (.idx (Con.av j))::rd 6 []))] [hA (0≤a),.a (((d)[a.toNat]?) =some j) (gP (f:=Con.av)),hr (aA j.name),hr (aA j.name),hr (nI a),hr (nI a)]<|.i [rn 7,.cnil 2 3 4] []<|gu 0 3 (Pats.av ([] :List Pat))<|gv 0 2 3 (.gl 3 4 0 ([] :List Pat).length false)<|.W 0 4 [0,1,2,3] (yE c a g i d f b j.name 0 (b+1) 0 ([] :List Pat)))<|.i [rn 9,.cnil 2 3 4] []<|gu 0 3 (Pats.av ([] :List Pat))<|gv 0 2 3 (.gl 3 4 0 ([] :List Pat).length false)<|.W 0 4 [0,1,2,3] (yE c a g i d f b e a (b+1) 0 ([] :List Pat)))<|.b 9 31 (c==6) (.y fun e:Con=>.i [rn 1,.reg (rd 3 (.ans (.idx (Con.av e))::rd 6 []))] [hA (0≤a),.a (((d)[a.toNat]?) =some e) (gP (f:=Con.av)),hr (aA e.name),hr (aA e.name),hr (nI a),hr (nI a)]<|.i [rn 7,.cnil 2 3 4] []<|gu 0 3 (Pats.av ([] :List Pat))<|gv 0 2 3 (.gl 3 4 0 ([] :List Pat).length false)<|.W 0 4 [0,1,2,3] (yE c a g i d f b e.name 0 b 0 ([] :List Pat)))<|.i [rn 9,.cnil 2 3 4] []<|gu 0 3 (Pats.av ([] :List Pat))<|gv 0 2 3 (.gl 3 4 0 ([] :List Pat).length false)<|.W 0 4 [0,1,2,3] (yE c a g i d f b (strOf []) a b 0 ([] :List Pat))
def aZ6:=fun a b c d e f g i j k l m n=>aSq a b c d e f g|>.t j i k l m|>.f n ⟨cC,trivial⟩
def aZ7:=fun a b c d e f g i j k l m=>aSq a b c d e f g|>.f j|>.t k i l m ⟨cC,trivial⟩
def aZ8:=fun a b c d e f g i j=>aSq a b c d e f g|>.f i|>.f j ⟨cC,trivial⟩
def bCP(d o:Int)(p:aC)(a:List Pat)(e:List Con)(f:List aC)(q:Int)(g:aC)(i j b:Int)(c:List Pat):=tT 0 (yE d o p a e f q g i j b c)<|gm 6 aH a<|gd 2 44 (b< (a.length:Int)) (mU 9 a b<|fun s t u v=>.y fun k:Int=>.y fun l:Int=>.y fun m:aC=>.y fun n:List Pat=>.y fun r:Int=>gp 4 150 [(.agg [(nI s),(nI t),(aA u),(iP v)]),(iC e),(iS f),(nI j)] (.tup [(.agg [(nI k),(nI l),(aA m),(iP n)]),(nI r)])<|gA 13 aH c [(Pat.mk k l m n)]<|gw 11 46 (b+1)<|.W 3 7 [0,1,2,6] (yE d o p a e f q g i r (b+1) (c++ [(Pat.mk k l m n)])))<|gY 10 1 3 3 4 aH cC c false<|gE 0 4 (.tup [(.agg [(nI d),(nI i),(aA g),(iP c)]),(nI j)])
def aZ9:=fun a b c d e f g i j k l m n o p q r s t u v w x y z A B=>bCP a b c d e f g i j k l m|>.t w n o p q x y r s t u v z A B ⟨cC,trivial⟩
def bAa:=fun a b c d e f g i j k l m n=>bCP a b c d e f g i j k l m|>.f n tv
def aSr(c:Prog)(i g:List aC)(f a:Int)(j:aC)(d:List Pat)(b:Int):=tT 0 (bCO c i g f a j d b)<|.b 29 19 (f==2) (gX aA 6 g b<|fun e=>gw 7 28 (b+1)<|gm 8 aH d<|.i [rn 4,.cnil 3 3 4] []<|gu 0 4 (Pats.av ([] :List Pat))<|gv 0 3 3 (.gl 4 4 0 ([] :List Pat).length false)<|.W 0 5 [0,2,3,4] (aA3 c i g f a j d b e (b+1) a 0 ([] :List Pat)))<|.b 6 29 (f==6) (.y fun e:Con=>.i [rn 1,.reg (rd 6 (.ans (.idx (Con.av e))::rd 6 []))] [hA (0≤a),.a (((c.cons)[a.toNat]?) =some e) (gP (f:=Con.av)),hr (aA e.name),hr (aA e.name),hr (nI a),hr (nI a),hr (AV.ilst 2 (jC c.cons) false),hr (AV.ilst 2 (jC c.cons) false)]<|gm 6 aH d<|.i [rn 4,.cnil 3 3 4] []<|gu 0 4 (Pats.av ([] :List Pat))<|gv 0 3 3 (.gl 4 4 0 ([] :List Pat).length false)<|.W 0 5 [0,2,3,4] (aA3 c i g f a j d b e.name b 0 0 ([] :List Pat)))<|gm 8 aH d<|.i [rn 4,.cnil 3 3 4] []<|gu 0 4 (Pats.av ([] :List Pat))<|gv 0 3 3 (.gl 4 4 0 ([] :List Pat).length false)<|.W 0 5 [0,2,3,4] (aA3 c i g f a j d b (strOf []) b a 0 ([] :List Pat))
def bAb:=fun a b c d e f g i j k l m n=>aSr a b c d e f g i|>.t k j l m n ⟨cC,trivial⟩
def bAc:=fun a b c d e f g i j k l m n=>aSr a b c d e f g i|>.f k|>.t l j m n ⟨cC,trivial⟩
def bAd:=fun a b c d e f g i j k=>aSr a b c d e f g i|>.f j|>.f k ⟨cC,trivial⟩
def bCQ(a:Prog)(e f:List aC)(g p:Int)(q:aC)(d:List Pat)(r:Int)(i:aC)(j k b:Int)(c:List Pat):=tT 0 (aA3 a e f g p q d r i j k b c)<|gd 5 46 (b< (d.length:Int)) (mU 6 d b<|fun t u v w=>.y fun l:Int=>.y fun m:Int=>.y fun n:aC=>.y fun o:List Pat=>.y fun s:Int=>gp 13 143 [(.agg [(iN a.nodes),(iI a.funs),(nI a.main),(iC a.cons),(iS e),(iS f)]),(.agg [(nI t),(nI u),(aA v),(iP w)]),(nI j)] (.tup [(.agg [(nI l),(nI m),(aA n),(iP o)]),(nI s)])<|gA 11 aH c [(Pat.mk l m n o)]<|gw 6 62 (b+1)<|.W 3 8 [0,1,2,7] (aA3 a e f g p q d r i s k (b+1) (c++ [(Pat.mk l m n o)])))<|gY 10 1 3 3 4 aH cC c false<|gE 0 4 (.tup [(.agg [(nI g),(nI k),(aA i),(iP c)]),(nI j)])
def bAe:=fun a b c d e f g i j k l m n o p q r s t u v w x y z A B C=>bCQ a b c d e f g i j k l m n|>.t x o p q r y z s t u v w A B C ⟨cC,trivial⟩
def bAf:=fun a b c d e f g i j k l m n o=>bCQ a b c d e f g i j k l m n|>.f o tv
end
end Go.Hb
namespace Go.Hb
open Go.Proofs
set_option maxHeartbeats 4000000
noncomputable section
def hdN (cl:List Con)(pl:List aC)(f n k:Int) :Option (Int×aC×Int) :=
 if f=2 then if 0≤k then match pl[k.toNat]? with
  |some s=>some (n,s,k+1)
  |none=>none else none
 else if f=6 then if 0≤n then match cl[n.toNat]? with
  |some c=>some (0,c.name,k)
  |none=>none else none
 else some (n,[],k)
mutual
def aA4 (cl:List Con)(pl:List aC) :Pat→Int→Option (Pat×Int)
 | .mk f n _ ps,k=>match hdN cl pl f n k with
  | some h=>match kC cl pl ps h.2.2 with
   |some r=>some (.mk f h.1 h.2.1 r.1,r.2)
   |none=>none
  |none=>none
def kC (cl:List Con)(pl:List aC) :List Pat→Int→Option (List Pat×Int)
 | [],k=>some ([],k)
 | p::ps,k=>match aA4 cl pl p k with
  | some q=>match kC cl pl ps q.2 with
   |some r=>some (q.1::r.1,r.2)
   |none=>none
  |none=>none
end
abbrev NP (cl:List Con)(pl:List aC)(q:Pat) :Prop:=∀k r,aA4 cl pl q k=some r→Pure PP 150 [Pat.av q,.ilst 2 (List.map Con.av cl) false,.ilst 1 (List.map aA pl) false,.int .i64 k] (.tup [Pat.av r.1,.int .i64 r.2])
theorem aAn (f n:Int)(s:aC)(ps:List Pat)(cl:List Con)(pl:List aC)(k0:Int)(t':aC)(n':Int)(hl:ps.length<1000000)(ih:∀q∈ps,NP cl pl q) :
  ∀ (t:List Pat) (i:Nat) (k:Int) (acc:List Pat) (r:List Pat×Int),ps.drop i=t→kC cl pl t k=some r→acc.length=i →
   Ends PP 0 (yE f n s ps cl pl k0 t' n' k (i:Int) acc).as (.ret (.tup [.agg [.int .i64 f,.int .i64 n',aA t',.ilst 4 (Pats.av (acc++r.1)) false],.int .i64 r.2])) (aG [] 0)
 | [],i,k,acc,r,h,hr,ha=>by
  have:=bA h;rw [kC]at hr;cases hr;rw [List.append_nil];exact bAa f n s ps cl pl k0 t' n' k i acc sd
 | .mk f' n1 s' ps'::t,i,k,acc,r,h,hr,ha=>by
  obtain⟨g1,g2,g3⟩ :=aZ h;rw [kC]at hr;split at hr
  · rename_i q hq;split at hr
    · rename_i r' hr';cases hr;obtain⟨⟨a1,a2,a3,a4⟩,a5⟩ :=q;refine(aZ9 f n s ps cl pl k0 t' n' k i acc f' n1 s' ps' a1 a2 a3 a4 a5 sd sd sd (ih _ (List.mem_of_getElem? g1) _ _ hq) (by simp;omega) sd).ends ?_;have:=aAn f n s ps cl pl k0 t' n' hl ih t (i+1) a5 (acc++ [.mk a1 a2 a3 a4]) r' g2 hr' (by simp;omega);rw [List.append_assoc]at this;exact this
    ·cases hr
  ·cases hr
mutual
theorem aSs (cl:List Con)(pl:List aC)(hpl:pl.length≤1000000000) :∀ (q:Pat),aQ q<1000000→NP cl pl q
 | .mk f n s ps,hp,k,r,h=>by
  simp only [aQ]at hp;have:=bK ps;refine cB (s:=bCN f n s ps cl pl k) (by kernel_rfl) (by kernel_rfl) (by simp [AV.keylessL,AV.keyless,eE]) (by simp [AV.keyless,AV.keylessL,eE]) ?_;rw [aA4]at h;unfold hdN at h;have ih:=aLw cl pl hpl ps (by omega);by_cases hf:f=2
  · rw [if_pos hf]at h;by_cases hk:0≤k
    · rw [if_pos hk]at h;cases hs:pl[k.toNat]? with
      |none=>rw [hs]at h;cases h
      | some y=>
       rw [hs]at h;simp only at h;split at h
       · rename_i r' hr';cases h;have hb:= (List.getElem?_eq_some_iff.1 hs).1;exact(aZ6 f n s ps cl pl k y (by simp [hf]) hk hs sd (by simp [hf])).ends (aAn f n s ps cl pl k y n (by omega) ih ps 0 (k+1) [] r' rfl hr' rfl)
       ·cases h
    ·rw [if_neg hk]at h;cases h
  · rw [if_neg hf]at h;by_cases hf6:f=6
    · rw [if_pos hf6]at h;by_cases hk:0≤n
      · rw [if_pos hk]at h;cases hs:cl[n.toNat]? with
        |none=>rw [hs]at h;cases h
        | some y=>
         rw [hs]at h;simp only at h;split at h
         · rename_i r' hr';cases h;exact(aZ7 f n s ps cl pl k y (by simp [hf]) (by simp [hf6]) hk hs).ends (aAn f n s ps cl pl k y.name 0 (by omega) ih ps 0 k [] r' rfl hr' rfl)
         ·cases h
      ·rw [if_neg hk]at h;cases h
    · rw [if_neg hf6]at h;simp only at h;split at h
      · rename_i r' hr';cases h;exact(aZ8 f n s ps cl pl k (by simp [hf]) (by simp [hf6])).ends (aAn f n s ps cl pl k [] n (by omega) ih ps 0 k [] r' rfl hr' rfl)
      ·cases h
theorem aLw (cl:List Con)(pl:List aC)(hpl:pl.length≤1000000000) :∀ (ps:List Pat),aM ps<1000000→∀q∈ps,NP cl pl q
 | [],_,q,hq=>by cases hq
 | p::ps,h,q,hq=>by
  simp only [aM]at h;rcases List.mem_cons.1 hq with e|hq
  ·rw [e];exact aSs cl pl hpl p (by omega)
  ·exact aLw cl pl hpl ps (by omega) q hq
end
abbrev XV (p:Prog)(fl pl:List aC) :AV:=.agg [.ilst 4 (List.map Node.av p.nodes) false,.ilst 1 (List.map aO p.funs) false,.int .i64 p.main,.ilst 2 (List.map Con.av p.cons) false,.ilst 1 (List.map aA fl) false,.ilst 1 (List.map aA pl) false]
abbrev NB (p:Prog)(fl pl:List aC)(q:Pat) :Prop:=∀k r,aA4 p.cons pl q k=some r→Pure PP 143 [XV p fl pl,Pat.av q,.int .i64 k] (.tup [Pat.av r.1,.int .i64 r.2])
theorem aAo (p:Prog)(fl pl:List aC)(f n:Int)(s:aC)(ps:List Pat)(k0:Int)(t':aC)(n':Int)(hl:ps.length<1000000)(ih:∀q∈ps,NB p fl pl q) :
  ∀ (t:List Pat) (i:Nat) (k:Int) (acc:List Pat) (r:List Pat×Int),ps.drop i=t→kC p.cons pl t k=some r→acc.length=i →
   Ends PP 0 (aA3 p fl pl f n s ps k0 t' k n' (i:Int) acc).as (.ret (.tup [.agg [.int .i64 f,.int .i64 n',aA t',.ilst 4 (Pats.av (acc++r.1)) false],.int .i64 r.2])) (aG [] 0)
 | [],i,k,acc,r,h,hr,ha=>by
  have:=bA h;rw [kC]at hr;cases hr;rw [List.append_nil];exact bAf p fl pl f n s ps k0 t' k n' i acc sd
 | .mk f' n1 s' ps'::t,i,k,acc,r,h,hr,ha=>by
  obtain⟨g1,g2,g3⟩ :=aZ h;rw [kC]at hr;split at hr
  · rename_i q hq;split at hr
    · rename_i r' hr';cases hr;obtain⟨⟨a1,a2,a3,a4⟩,a5⟩ :=q;refine(bAe p fl pl f n s ps k0 t' k n' i acc f' n1 s' ps' a1 a2 a3 a4 a5 sd sd sd (ih _ (List.mem_of_getElem? g1) _ _ hq) (by simp;omega) sd).ends ?_;have:=aAo p fl pl f n s ps k0 t' n' hl ih t (i+1) a5 (acc++ [.mk a1 a2 a3 a4]) r' g2 hr' (by simp;omega);rw [List.append_assoc]at this;exact this
    ·cases hr
  ·cases hr
mutual
theorem aSt (p:Prog)(fl pl:List aC)(hx:AV.keyless (XV p fl pl) =true)(hpl:pl.length≤1000000000) :∀ (q:Pat),aQ q<1000000→NB p fl pl q
 | .mk f n s ps,hp,k,r,h=>by
  simp only [aQ]at hp;have:=bK ps;refine cB (s:=bCO p fl pl f n s ps k) (by kernel_rfl) (by kernel_rfl) (by simp only [AV.keylessL,hx,eE];rfl) (by simp [AV.keyless,AV.keylessL,eE]) ?_;rw [aA4]at h;unfold hdN at h;have ih:=aLx p fl pl hx hpl ps (by omega);by_cases hf:f=2
  · rw [if_pos hf]at h;by_cases hk:0≤k
    · rw [if_pos hk]at h;cases hs:pl[k.toNat]? with
      |none=>rw [hs]at h;cases h
      | some y=>
       rw [hs]at h;simp only at h;split at h
       · rename_i r' hr';cases h;have hb:= (List.getElem?_eq_some_iff.1 hs).1;exact(bAb p fl pl f n s ps k y (by simp [hf]) hk hs sd).ends (aAo p fl pl f n s ps k y n (by omega) ih ps 0 (k+1) [] r' rfl hr' rfl)
       ·cases h
    ·rw [if_neg hk]at h;cases h
  · rw [if_neg hf]at h;by_cases hf6:f=6
    · rw [if_pos hf6]at h;by_cases hk:0≤n
      · rw [if_pos hk]at h;cases hs:p.cons[n.toNat]? with
        |none=>rw [hs]at h;cases h
        | some y=>
         rw [hs]at h;simp only at h;split at h
         · rename_i r' hr';cases h;exact(bAc p fl pl f n s ps k y (by simp [hf]) (by simp [hf6]) hk hs).ends (aAo p fl pl f n s ps k y.name 0 (by omega) ih ps 0 k [] r' rfl hr' rfl)
         ·cases h
      ·rw [if_neg hk]at h;cases h
    · rw [if_neg hf6]at h;simp only at h;split at h
      · rename_i r' hr';cases h;exact(bAd p fl pl f n s ps k (by simp [hf]) (by simp [hf6])).ends (aAo p fl pl f n s ps k [] n (by omega) ih ps 0 k [] r' rfl hr' rfl)
      ·cases h
theorem aLx (p:Prog)(fl pl:List aC)(hx:AV.keyless (XV p fl pl) =true)(hpl:pl.length≤1000000000) :∀ (ps:List Pat),aM ps<1000000→∀q∈ps,NB p fl pl q
 | [],_,q,hq=>by cases hq
 | p'::ps,h,q,hq=>by
  simp only [aM]at h;rcases List.mem_cons.1 hq with e|hq
  ·rw [e];exact aSt p fl pl hx hpl p' (by omega)
  ·exact aLx p fl pl hx hpl ps (by omega) q hq
end
end
end Go.Hb
namespace Go.Hb
open Go.Proofs
set_option maxHeartbeats 4000000
noncomputable section
structure TB (p:Prog) (fl pl:List aC) (A:Nat) :Prop where
 fl:fl.length≤1000000000
 pl:pl.length≤1000000000
 ks:∀x∈p.nodes,x.kids.length<1000000∧x.pats.length<1000000∧∀q∈x.pats,aQ q<1000000
 ad:∀x∈p.nodes,∀i:Nat,i<x.kids.length→Pure PP A [Node.av x,.int .i64 (i:Int)] (.int .i64 (aHI x i))
 kl:AV.keyless (PA p) =true
end
end Go.Hb
namespace Go.Hb
open Go.Proofs
noncomputable section
open Go.Proofs Tryz
def qW(a b:Int)(c:aC)(d:List Pat)(e f:Int):TS:=⟨(tf 202 24 [kp 1 0,(2,(nI 0)),(3,(nI e)),(4,(nI f))] [kc f202 244,kl f202 244,.inBlock 0,kc f202 31]),[],[oC 0 [(nI a),(nI b),(aA c),(iP d)]],1⟩
def bCS(a b:Int)(c:aC)(d:List Pat):=tT 0 (start PP 202 [(.agg [(nI a),(nI b),(aA c),(iP d)])])<|.b 16 7 (a==2) (.W 11 1 [0] (qW a b c d 1 0))<|.W 9 1 [0] (qW a b c d 0 0)
def aJ2:=fun a b c d e=>bCS a b c d|>.t e tv
def aJ3:=fun a b c d e=>bCS a b c d|>.f e tv
def bCT(d e:Int)(f:aC)(a:List Pat)(c b:Int):=tT 0 (qW d e f a c b)<|gm 6 aH a<|gd 2 12 (b< (a.length:Int)) (mU 9 a b<|fun i j k l=>gpI 1 202 [(.agg [(nI i),(nI j),(aA k),(iP l)])]<|fun g=>gw 1 22 (c+g)<|gw 6 14 (b+1)<|.W 3 1 [0] (qW d e f a (c+g) (b+1)))<|gE 8 1 (nI c)
def aJ4:=fun a b c d e f g i j k l m n o p q r=>bCT a b c d e f|>.t m g i j k n o l p q r tv
def aJ5:=fun a b c d e f g=>bCT a b c d e f|>.f g tv
end
end Go.Hb
namespace Go.Hb
open Go.Proofs
set_option maxHeartbeats 4000000
noncomputable section
mutual
def rnm :Pat→Int
 | .mk f _ _ ps=> (if f=2 then 1 else 0) +vB ps
def vB :List Pat→Int
 | [] =>0
 |p::ps=>rnm p+vB ps
end
mutual
theorem aJ7 :∀p,0≤rnm p∧rnm p≤aQ p
 | .mk f _ _ ps=>by
  have:=vX ps;simp only [rnm,aQ];split<;>omega
theorem vX :∀ps,0≤vB ps∧vB ps≤aM ps
 | [] =>by simp [vB,aM]
 | p::ps=>by
  have:=aJ7 p;have:=vX ps;simp only [vB,aM];omega
end
mutual
theorem bFH (cons:List Con) :∀p,dB cons p=true→bnm p=rnm p
 | .mk f n s ps,h=>by
  simp only [dB,Bool.and_eq_true]at h;have:=aSu cons ps h.2;simp only [bnm,rnm];by_cases g:f=2
  · have hk:=h.1;subst g;simp only [cZ]at hk;simp at hk;obtain⟨⟨hk,_⟩,_⟩ :=hk;subst hk;simp [vB]
  ·rw [if_neg g,if_neg g,this];omega
theorem aSu (cons:List Con) :∀ps,bS cons ps=true→aBP ps=vB ps
 | [],_=>rfl
 | p::ps,h=>by
  simp only [bS,Bool.and_eq_true]at h;simp only [aBP,vB,bFH cons p h.1,aSu cons ps h.2]
end
theorem vC (f n:Int)(s:aC)(ps:List Pat)(hl:ps.length<1000000)(ih:∀p∈ps,Pure PP 202 [Pat.av p] (.int .i64 (rnm p))) :
  ∀ (t:List Pat) (i:Nat) (a:Int),0≤a→a+vB t≤1000000→ps.drop i=t→Ends PP 0 (qW f n s ps a (i:Int)).as (.ret (.int .i64 (a+vB t))) (aG [] 0)
 | [],i,a,_,_,h=>by
  have:=bA h;exact Ends.eqv (aJ5 f n s ps a i sd) (by simp [vB])
 | .mk f' n' s' ps'::t,i,a,ha,hb,h=>by
  obtain⟨g1,g2,g3⟩ :=aZ h;have ihp:=ih _ (List.mem_of_getElem? g1);have b1:=aJ7 (.mk f' n' s' ps');have b2:=vX t;rw [vB]at hb ⊢;refine(aJ4 f n s ps a i f' n' s' ps' _ sd sd sd ihp sd sd).ends ?_;exact Ends.eqv (vC f n s ps hl ih t (i+1) (a+rnm (.mk f' n' s' ps')) (by omega) (by omega) g2) (by rw [Int.add_assoc])
mutual
theorem aIf :∀ (p:Pat),aQ p<100000→Pure PP 202 [Pat.av p] (.int .i64 (rnm p))
 | .mk f n s ps,h=>by
  refine aV (by kernel_rfl) (by simp [AV.keylessL,eE]) rfl ?_;simp only [aQ]at h;have:=bK ps;have b:=vX ps;by_cases g:f=2
  · subst g;refine(aJ2 2 n s ps rfl).ends ?_;exact Ends.eqv (vC 2 n s ps (by omega) (yF ps (by omega)) ps 0 1 (by omega) (by omega) rfl) (by simp [rnm])
  · refine(aJ3 f n s ps (by simpa using g)).ends ?_;exact Ends.eqv (vC f n s ps (by omega) (yF ps (by omega)) ps 0 0 (by omega) (by omega) rfl) (by simp [rnm,g])
theorem yF :∀ (ps:List Pat),aM ps<100000→∀p∈ps,Pure PP 202 [Pat.av p] (.int .i64 (rnm p))
 | [],_,p,hp=>by cases hp
 | q::ps,h,p,hp=>by
  simp only [aM]at h;rcases List.mem_cons.1 hp with e|hp
  ·rw [e];exact aIf q (by omega)
  ·exact yF ps (by omega) p hp
end
theorem yG {E:Emb}{e:Nat}{xs:List AV}{cv:Value}(h:VR E (.ilst e xs true) cv) :VR E (.ilst e xs false) cv:=by
 simp only [VR]at h ⊢;obtain⟨vs,h1,h2,h3⟩ :=h;refine⟨vs,h1,h2,?_⟩;rcases h3 with⟨a1,a,cap,a2,a3,a4⟩ | ⟨k,a,cap,C,a1,a2,a3,a4,a5⟩
 ·exact .inl ⟨a1,a,cap,a2,a3,fun e=> (by cases e)⟩
 ·exact .inr ⟨k,a,cap,C,a1,a2,a3,fun e=> (by cases e),a5⟩
end
end Go.Hb
namespace Go.Hb
open Go.Proofs
noncomputable section
open Go.Proofs Tryz
def aGr(a b:Int)(c:aC)(d:List Term)(e:List Pat)(f g:Int)(i:aC)(j:List Term)(k:List Pat)(l:Int):TS:=⟨(tf 28 82 [kp 2 0,kp 3 1,(4,(bV false)),(5,(nI l))] [kc f28 116,kl f28 116,.inBlock 0,kc f28 15]),[],[oC 0 [(nI a),(nI b),(aA c),(.ilst 5 (Terms.av d) false),(iP e)],oC 1 [(nI f),(nI g),(aA i),(.ilst 5 (Terms.av j) false),(iP k)]],2⟩
def aDp(a b:Int)(c:aC)(d:List Term)(e:List Pat)(f g:Int)(i:aC)(j:List Term)(k:List Pat)(l:Int):TS:=⟨(tf 28 82 [kp 2 0,kp 3 1,(4,(bV false)),(6,(nI l))] [kc f28 244,kl f28 244,.inBlock 2,kc f28 31]),[],[oC 0 [(nI a),(nI b),(aA c),(.ilst 5 (Terms.av d) false),(iP e)],oC 1 [(nI f),(nI g),(aA i),(.ilst 5 (Terms.av j) false),(iP k)]],2⟩
def bFI(g i:Int)(a:aC)(b:List Term)(c:List Pat)(j k:Int)(d:aC)(e:List Term)(f:List Pat):=tT 0 (start PP 28 [(.agg [(nI g),(nI i),(aA a),(.ilst 5 (Terms.av b) false),(iP c)]),(.agg [(nI j),(nI k),(aA d),(.ilst 5 (Terms.av e) false),(iP f)])])<|.b 15 12 (g != j) (gE 38 2 (bV false))<|.b 7 19 (i != k) (gE 31 2 (bV false))<|.b 7 26 (!(aU a.length (aE a) d.length (aE d))) (gE 24 2 (bV false))<|gm 2 bG b<|gm 2 bG e<|.b 3 35 ((b.length:Int) != (e.length:Int)) (gE 15 2 (bV false))<|gm 2 aH c<|gm 2 aH f<|.b 3 43 ((c.length:Int) != (f.length:Int)) (gE 6 2 (bV false))<|.W 9 2 [0,1] (aGr g i a b c j k d e f 0)
def bAg:=fun a b c d e f g i j k l m n o p=>bFI a b c d e f g i j k|>.f l|>.f m|>.f n|>.f o|>.f p tv
def bCU(d e:Int)(f:aC)(g:List Term)(b:List Pat)(i j:Int)(k:aC)(l:List Term)(c:List Pat)(a:Int):=tT 0 (aGr d e f g b i j k l c a)<|gm 6 aH b<|gd 2 48 (a< (b.length:Int)) (.y fun m:Int=>.y fun n:Int=>.y fun o:aC=>.y fun p:List Pat=>.y fun q:Int=>.y fun r:Int=>.y fun s:aC=>.y fun t:List Pat=>.y fun u:Bool=>.i [rn 5,.reg (rd 3 (.ans (.idx (Pat.av (Pat.mk m n o p)))::rd 4 [.ans (.idx (Pat.av (Pat.mk q r s t))),.d,.pure (bV u),.d]))] [hA (0≤a),.a (((b)[a.toNat]?) =some (Pat.mk m n o p)) (cS aH),hA (0≤a),.a (((c)[a.toNat]?) =some (Pat.mk q r s t)) (cS aH),hA (Pure PP 88 [(.agg [(nI m),(nI n),(aA o),(iP p)]),(.agg [(nI q),(nI r),(aA s),(iP t)])] (bV u))]<|.b 0 62 (!u) (gE 6 2 (bV false))<|gw 6 50 (a+1)<|.W 3 2 [0,1] (aGr d e f g b i j k l c (a+1)))<|.W 9 2 [0,1] (aDp d e f g b i j k l c 0)
def bAh:=fun b c d e f g i j k l m n o p q r s t u v w a x y z A B=>bCU b c d e f g i j k l m|>.t w n o p q r s t u v a x a y z|>.f A B tv
def bAi:=fun a b c d e f g i j k l m=>bCU a b c d e f g i j k l|>.f m tv
def bCV(p q:Int)(r:aC)(b:List Term)(s:List Pat)(t u:Int)(v:aC)(c:List Term)(w:List Pat)(a:Int):=tT 0 (aDp p q r b s t u v c w a)<|gm 6 bG b<|gd 2 67 (a< (b.length:Int)) (.y fun d:Int=>.y fun e:Int=>.y fun f:aC=>.y fun g:List Term=>.y fun i:List Pat=>.y fun j:Int=>.y fun k:Int=>.y fun l:aC=>.y fun m:List Term=>.y fun n:List Pat=>.y fun o:Bool=>.i [rn 5,.reg (rd 3 (.ans (.idx (Term.av (Term.mk d e f g i)))::rd 4 [.ans (.idx (Term.av (Term.mk j k l m n))),.d,.pure (bV o),.d]))] [hA (0≤a),.a (((b)[a.toNat]?) =some (Term.mk d e f g i)) (cS bG),hA (0≤a),.a (((c)[a.toNat]?) =some (Term.mk j k l m n)) (cS bG),hA (Pure PP 28 [(.agg [(nI d),(nI e),(aA f),(.ilst 5 (Terms.av g) false),(iP i)]),(.agg [(nI j),(nI k),(aA l),(.ilst 5 (Terms.av m) false),(iP n)])] (bV o))]<|.b 0 81 (!o) (gE 6 2 (bV false))<|gw 6 69 (a+1)<|.W 3 2 [0,1] (aDp p q r b s t u v c w (a+1)))<|gE 7 2 (bV true)
def bAj:=fun b c d e f g i j k l m n o p q r s t u v w x y a z A B C D=>bCV b c d e f g i j k l m|>.t y n o p q r s t u v w x a z a A B|>.f C D tv
def bAk:=fun a b c d e f g i j k l m=>bCV a b c d e f g i j k l|>.f m tv
end
end Go.Hb
namespace Go.Hb
open Go.Proofs
set_option maxHeartbeats 4000000
noncomputable section
end
end Go.Hb
namespace Go.Hb
open Go.Proofs
set_option maxHeartbeats 4000000
noncomputable section
end
end Go.Hb
namespace Go.Hb
open Go.Proofs
set_option maxHeartbeats 4000000
noncomputable section
end
end Go.Hb
namespace Go.Hb
open Go.Proofs
set_option maxHeartbeats 4000000
noncomputable section
end
end Go.Hb
namespace Go.Hb
open Go.Proofs
noncomputable section
structure Spk where
 prog:Prog
 funs:List aC
 places:List aC
def Spk.av (x:Spk) :AV:=.agg [.ilst 4 (List.map Node.av x.prog.nodes) false,.ilst 1 (List.map aO x.prog.funs) false,.int .i64 x.prog.main,.ilst 2 (List.map Con.av x.prog.cons) false,.ilst 1 (List.map aA x.funs) false,.ilst 1 (List.map aA x.places) false]
end
end Go.Hb
namespace Go.Hb
open Go.Proofs
noncomputable section
open Go.Proofs Tryz
end
end Go.Hb
