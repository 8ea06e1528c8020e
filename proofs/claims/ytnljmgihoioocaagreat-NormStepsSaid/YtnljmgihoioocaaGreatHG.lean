/- A machine on abstract values, its soundness, ways, plain laws. -/
import Derived.Test.YtnljmgihoioocaaGreatHF
import Derived.WalkKit
import Derived.OpenShut
import Derived.ChangeArms
set_option linter.defProp false
set_option linter.unusedVariables false
set_option linter.unusedSimpArgs false
set_option linter.unusedSectionVars false
set_option maxRecDepth 100000
namespace Go.Hb
open AV (keyless keylessL ptr ren renL)
open List (all_nil append_assoc drop getElem?_set length length_map length_nil map map_cons map_nil mem_cons_of_mem mem_cons_self nodup_nil set_cons_succ take)
open Nat (le_of_lt le_refl lt_irrefl mul_one)
open Go.Proofs Tryz
noncomputable section
section
def embOf (w:World) :Emb:= ⟨fun _=>none,fun k=>match w.heap[k]? with
 |some (.cells C _ _) =>some C
 |_=>none⟩
theorem aQ2 {w:World}{k:Nat}{C:Array Value}{el:TypeId}{fz:Nat×Nat}(h:w.heap[k]?=some (.cells C el fz)) : (embOf w).imm k=some C:=by
 simp only [embOf,h]
theorem aQ3 (w:World) :Rel (embOf w) ⟨.leaf,0⟩ w.heap:=by
 refine⟨fun b o e=>?_,fun b b' o o' L L' e=>?_,fun _ _=>rfl,fun k C e=>?_,fun b o L e=>?_,fun b o e=>?_⟩
 ·simp [Hp.look,T.at_leaf]at e
 ·simp [Hp.look,T.at_leaf]at e
 · simp only [embOf]at e;split at e
   ·rename_i C' el fz h;cases e;exact⟨el,fz,h⟩
   ·cases e
 ·simp [Hp.look,T.at_leaf]at e
 ·simp [Hp.look,T.at_leaf]at e
def Elt (w:World)(e:Nat)(a:AV)(cs:List Value) :Prop:=cs.length=e∧∃u:Value,u.cells.toList=cs∧VR (embOf w) a u∧∀c∈cs,c.oneCell'=true
theorem Elt.one {w:World}{a:AV}{u:Value}(h:VR (embOf w) a u)(ha:a.one=true)(hu:u.cells= #[u]) :Elt w 1 a [u] :=
 ⟨rfl,u,by rw [hu],h,fun c hc=>by rw [List.mem_singleton.1 hc];exact h.one ha⟩
variable {H :Type} {enc:TypeId×Value→H} {P:Program} {w:World} {spare:Nat→Bool} {held:Bool}
theorem aY9 {a:Addr}{C:Array Value}{el:TypeId}{fz:Nat×Nat}(hC:w.heap[a.block]?=some (.cells C el fz))(hs:a.spot=none)(k:Nat) :w.cell? (a.add k) =C[a.off+k]?:=by
 unfold World.cell? Addr.add;by_cases h:k=0
 ·subst h;simp [hC,hs]
 ·simp [h,hC]
theorem add_add (a:Addr)(i j:Nat) : (a.add i).add j=a.add (i+j) :=by
 unfold Addr.add;by_cases hi:i=0<;>by_cases hj:j=0<;>simp [hi,hj,Nat.add_assoc]
theorem aQ4 (us:List Value)(u:Value) :flat (us++ [u]) =flat us++u.cells.toList:=by simp [flat]
theorem oS {α:Type}(f:α→AV){t e:TypeId}{n fuel:Nat}(ht:P.underlying t=some (.slice e))(hc:P.cellsOf e=n)(hn:0<n){cs:List Value}{x:DataW H×List MemPlace}
  (h:DataW.trod enc P w 0 spare held fuel t cs=some x) (hel:∀fu,fu<fuel→∀cs x,DataW.trod enc P w 0 spare held fu e cs=some x→∃y,Elt w n (f y) cs) :∃ (ys:List α) (c:Value),cs= [c] ∧VR (embOf w) (.ilst n (ys.map f) false) c:=by
 rcases DataW.trod_slice ht h with⟨rfl,_⟩ | ⟨a,len,cap,elems,rest,m,rfl,rfl,_,_,hlc,_,hlen,hat,_⟩
 · refine⟨[],_,rfl,?_⟩;simp only [VR];exact⟨[],by simp [VRs],⟨fun u hu=> (by cases hu),.inl ⟨rfl,none,0,rfl,fun _=>rfl,fun _=>rfl⟩⟩⟩
 · cases len with
   | zero=>
    refine⟨[],_,rfl,?_⟩;simp only [VR];exact⟨[],by simp [VRs],⟨fun u hu=> (by cases hu),.inl ⟨rfl,some a,cap,rfl,fun e=> (by cases e),fun e=> (by cases e)⟩⟩⟩
   | succ len=>
    rw [hc]at hat
    have each:∀i,i<len+1→∃cs' y,w.cells? 0 (a.add (i*n)) n=some cs'∧Elt w n (f y) cs':=fun i hi=>by
     have h1:=hat i hi;rw [List.getElem?_eq_getElem (by omega)]at h1;obtain⟨cs',g1,g2⟩ :=Option.bind_eq_some_iff.1 h1;obtain⟨y,g3⟩ :=hel m (Nat.lt_succ_self m) cs' _ g2;exact⟨cs',y,g1,g3⟩
    obtain⟨C,el,fz,hC,hs⟩ :∃C el fz,w.heap[a.block]?=some (.cells C el fz) ∧a.spot=none:=by
     obtain⟨cs',y,g1,g2,_⟩ :=each 0 (by omega);obtain⟨_,_,g3⟩ :=World.cells?_some g1;have g4:=g3 0 hn;have: (a.add (0*n)).add 0=a:=by simp [Addr.add]
     rw [this,List.getElem?_eq_getElem (by omega)]at g4;unfold World.cell? at g4;split at g4
     · rename_i C el fz hh;split at g4
       ·cases g4
       · rename_i hsp;refine⟨C,el,fz,hh,?_⟩;cases hq:a.spot with
         |none=>rfl
         |some q=>rw [hq]at hsp;simp at hsp
     ·cases g4
    have all:∀k,k≤len+1→∃ (ys:List α) (us:List Value),us.length=k∧VRs (embOf w) (ys.map f) us∧ (∀u∈us,yO n u) ∧∀j,j<k*n→C[a.off+j]?= (flat us)[j]?:=by
     intro k
     induction k with
     |zero=>exact fun _=> ⟨[],[],rfl,by simp [VRs],fun u hu=> (by cases hu),fun j hj=>by omega⟩
     | succ k ih=>
      intro hk;obtain⟨ys,us,q1,q2,q3,q4⟩ :=ih (by omega);obtain⟨cs',y,g1,g2,u,g3,g4,g5⟩ :=each k (by omega);obtain⟨_,g6,g7⟩ :=World.cells?_some g1;have hfl:=flat_length q3;refine⟨ys++ [y],us++ [u],by simp [q1],?_,fun v hv=>?_,fun j hj=>?_⟩
      ·rw [List.map_append];exact q2.append (VRs.cons g4 (VRs.nil _))
      · rcases List.mem_append.1 hv with hv|hv
        ·exact q3 v hv
        · rw [List.mem_singleton.1 hv];refine⟨?_,fun c hc=>g5 c (by rw [←g3];exact hc)⟩;rw [←Array.length_toList,g3,g2]
      · rw [aQ4,g3];by_cases hj2:j<k*n
        ·rw [q4 j hj2,List.getElem?_append_left (by rw [hfl,q1];exact hj2)]
        · have hr:j-k*n<n:=by rw [Nat.succ_mul]at hj;omega
          rw [List.getElem?_append_right (by rw [hfl,q1];omega),hfl,q1,←g7 _ hr,add_add,aY9 hC hs];congr 2;omega
    obtain⟨ys,us,q1,q2,q3,q4⟩ :=all (len+1) (le_refl _);refine⟨ys,_,rfl,?_⟩;simp only [VR];refine⟨us,q2,q3,.inr ⟨a.block,a.off,cap,C,?_,aQ2 hC,by omega,fun e=> (by cases e),by rw [q1];exact q4⟩⟩;rw [q1,←hs]
theorem oU {fuel:Nat}{t:TypeId}(ht:P.underlying t=some (.int .i64)){cs:List Value}{x:DataW H×List MemPlace}(h:DataW.trod enc P w 0 spare held fuel t cs=some x) :∃n,cs= [.int .i64 n] :=by
 obtain⟨n,h1,_⟩ :=DataW.trod_int ht h;exact⟨n,h1⟩
theorem aKn {fuel:Nat}{t:TypeId}(ht:P.underlying t=some .string){cs:List Value}{x:DataW H×List MemPlace}(h:DataW.trod enc P w 0 spare held fuel t cs=some x) :∃ (s:cA) (c:Value),cs= [c] ∧VR (embOf w) (dD s) c:=by
 obtain⟨s,h1,_⟩ :=DataW.trod_string ht h;refine⟨s.data.toList,_,h1,?_⟩;have:=eU s.data.toList;simp only [dD,VR,fU,this]
theorem four {α:Type}{cs:List α}(h:cs.length=4) :∃a b c d,cs= [a,b,c,d] :=by
 match cs,h with
 | [a,b,c,d],_=>exact⟨a,b,c,d,rfl⟩
theorem two {α:Type}{cs:List α}(h:cs.length=2) :∃a b,cs= [a,b] :=by
 match cs,h with
 | [a,b],_=>exact⟨a,b,rfl⟩
theorem aH4 {l:List AV}{cs:List Value}(h:VRs (embOf w) l cs)(ho:cJ l=true) :Elt w l.length (.agg l) cs:=
 ⟨h.length,.agg ⟨cs⟩,rfl,by simp only [VR];exact⟨cs,rfl,h⟩,VRs.ones h ho⟩
theorem aZa {a:AV}{c:Value}(h:VR (embOf w) a c)(ha:a.one=true)(hc:c.cells= #[c]) :Elt w 1 a [c] :=
 ⟨rfl,c,by rw [hc],h,fun x hx=>by rw [List.mem_singleton.1 hx];exact h.one ha⟩
section
theorem cells3 :PP.cellsOf 3=1:=by kernel_rfl
theorem cells9 :PP.cellsOf 9=1:=by kernel_rfl
theorem cells22 :PP.cellsOf 22=1:=by kernel_rfl
theorem cells23 :PP.cellsOf 23=1:=by kernel_rfl
theorem cells24 :PP.cellsOf 24=1:=by kernel_rfl
theorem cells26 :PP.cellsOf 26=4:=by kernel_rfl
theorem cells53 :PP.cellsOf 53=2:=by kernel_rfl
theorem cells47 :PP.cellsOf 47=1:=by kernel_rfl
theorem cells48 :PP.cellsOf 48=1:=by kernel_rfl
theorem cells50 :PP.cellsOf 50=4:=by kernel_rfl
theorem cells55 :PP.cellsOf 55=1:=by kernel_rfl
theorem aH5 :PP.cellsOf 57=4:=by kernel_rfl
theorem got {α:Type}{xs:List α}{n i:Nat}{r:Option α}(h:r=xs[i]?)(hl:xs.length=n)(hi:i<n) :∃x,r=some x:=by
 rw [List.getElem?_eq_getElem (by omega)]at h;exact⟨_,h⟩
theorem aGx {fuel:Nat}{cs:List Value}{x:DataW H×List MemPlace}(h:DataW.trod enc PP w 0 spare held fuel 23 cs=some x) :∃ (l:List Int) (c:Value),cs= [c] ∧VR (embOf w) (.ilst 1 (l.map bU) false) c:=
 oS bU Tryz.underlying23 cells3 (by omega) h (fun fu _ cs x hx=>by
  obtain⟨n,rfl⟩ :=oU Tryz.underlying3 hx;exact⟨n,aZa (by simp only [bU,VR]) rfl rfl⟩)
theorem aT0 :∀ (fuel:Nat) (cs:List Value) (x:DataW H×List MemPlace),DataW.trod enc PP w 0 spare held fuel 57 cs=some x→∃p:Pat,Elt w 4 (Pat.av p) cs:=by
 intro fuel
 induction fuel using Nat.strongRecOn with
 | ind fuel ih=>
  intro cs x h;obtain⟨xs,m,rfl,rfl,hl,hlen,hf⟩ :=DataW.trod_struct Tryz.underlying57 h;rw [aH5]at hl;obtain⟨c0,c1,c2,c3,rfl⟩ :=four hl;have h0:DataW.trod enc PP w 0 spare held m 55 (([c0,c1,c2,c3].drop 0).take (PP.cellsOf 55)) =xs[0]?:=hf 0 _ rfl;have h1:DataW.trod enc PP w 0 spare held m 3 (([c0,c1,c2,c3].drop 1).take (PP.cellsOf 3)) =xs[1]?:=hf 1 _ rfl;have h2:DataW.trod enc PP w 0 spare held m 9 (([c0,c1,c2,c3].drop 2).take (PP.cellsOf 9)) =xs[2]?:=hf 2 _ rfl;have h3:DataW.trod enc PP w 0 spare held m 48 (([c0,c1,c2,c3].drop 3).take (PP.cellsOf 48)) =xs[3]?:=hf 3 _ rfl;simp only [cells55,cells3,cells9,cells48,drop,take]at h0 h1 h2 h3;obtain⟨x0,h0⟩ :=got h0 hlen (by decide);obtain⟨x1,h1⟩ :=got h1 hlen (by decide);obtain⟨x2,h2⟩ :=got h2 hlen (by decide);obtain⟨x3,h3⟩ :=got h3 hlen (by decide);obtain⟨f,e0⟩ :=oU Tryz.underlying55 h0;obtain⟨n,e1⟩ :=oU Tryz.underlying3 h1;obtain⟨s,c,e2,v2⟩ :=aKn Tryz.underlying9 h2;obtain⟨ps,c',e3,v3⟩ :=oS Pat.av Tryz.underlying48 aH5 (by omega) h3 (fun fu hfu cs x hx=>ih fu (by omega) cs x hx);cases e0;cases e1;cases e2;cases e3;refine⟨.mk f n s ps,?_⟩;simp only [Pat.av,aD];refine aH4 (VRs.cons (by simp only [VR]) (VRs.cons (by simp only [VR]) (VRs.cons v2 (VRs.cons v3 (VRs.nil _))))) ?_;rfl
theorem aQ5 (fuel:Nat)(cs:List Value)(x:DataW H×List MemPlace)(h:DataW.trod enc PP w 0 spare held fuel 50 cs=some x) :∃p:Node,Elt w 4 (Node.av p) cs:=by
 obtain⟨xs,m,rfl,rfl,hl,hlen,hf⟩ :=DataW.trod_struct Tryz.underlying50 h;rw [cells50]at hl;obtain⟨c0,c1,c2,c3,rfl⟩ :=four hl;have h0:DataW.trod enc PP w 0 spare held m 47 (([c0,c1,c2,c3].drop 0).take (PP.cellsOf 47)) =xs[0]?:=hf 0 _ rfl;have h1:DataW.trod enc PP w 0 spare held m 3 (([c0,c1,c2,c3].drop 1).take (PP.cellsOf 3)) =xs[1]?:=hf 1 _ rfl;have h2:DataW.trod enc PP w 0 spare held m 23 (([c0,c1,c2,c3].drop 2).take (PP.cellsOf 23)) =xs[2]?:=hf 2 _ rfl;have h3:DataW.trod enc PP w 0 spare held m 48 (([c0,c1,c2,c3].drop 3).take (PP.cellsOf 48)) =xs[3]?:=hf 3 _ rfl;simp only [cells47,cells3,cells23,cells48,drop,take]at h0 h1 h2 h3;obtain⟨x0,h0⟩ :=got h0 hlen (by decide);obtain⟨x1,h1⟩ :=got h1 hlen (by decide);obtain⟨x2,h2⟩ :=got h2 hlen (by decide);obtain⟨x3,h3⟩ :=got h3 hlen (by decide);obtain⟨f,e0⟩ :=oU Tryz.underlying47 h0;obtain⟨n,e1⟩ :=oU Tryz.underlying3 h1;obtain⟨ks,c,e2,v2⟩ :=aGx h2;obtain⟨ps,c',e3,v3⟩ :=oS Pat.av Tryz.underlying48 aH5 (by omega) h3 (fun fu _ cs x hx=>aT0 fu cs x hx);cases e0;cases e1;cases e2;cases e3;refine⟨⟨f,n,ks,ps⟩,?_⟩;simp only [Node.av,aD];refine aH4 (VRs.cons (by simp only [VR]) (VRs.cons (by simp only [VR]) (VRs.cons v2 (VRs.cons v3 (VRs.nil _))))) ?_;rfl
theorem aT1 (fuel:Nat)(cs:List Value)(x:DataW H×List MemPlace)(h:DataW.trod enc PP w 0 spare held fuel 53 cs=some x) :∃p:Con,Elt w 2 (Con.av p) cs:=by
 obtain⟨xs,m,rfl,rfl,hl,hlen,hf⟩ :=DataW.trod_struct Tryz.underlying53 h;rw [cells53]at hl;obtain⟨c0,c1,rfl⟩ :=two hl;have h0:DataW.trod enc PP w 0 spare held m 9 (([c0,c1].drop 0).take (PP.cellsOf 9)) =xs[0]?:=hf 0 _ rfl;have h1:DataW.trod enc PP w 0 spare held m 3 (([c0,c1].drop 1).take (PP.cellsOf 3)) =xs[1]?:=hf 1 _ rfl;simp only [cells9,cells3,drop,take]at h0 h1;obtain⟨x0,h0⟩ :=got h0 hlen (by decide);obtain⟨x1,h1⟩ :=got h1 hlen (by decide);obtain⟨s,c,e0,v0⟩ :=aKn Tryz.underlying9 h0;obtain⟨n,e1⟩ :=oU Tryz.underlying3 h1;cases e0;cases e1;refine⟨⟨s,n⟩,?_⟩;simp only [Con.av];refine aH4 (VRs.cons v0 (VRs.cons (by simp only [VR]) (VRs.nil _))) ?_;rfl
theorem lift_prog (fuel:Nat)(cs:List Value)(x:DataW H×List MemPlace)(h:DataW.trod enc PP w 0 spare held fuel 26 cs=some x) :∃p:Prog,VR (embOf w) (Prog.av p) (.agg ⟨cs⟩) :=by
 obtain⟨xs,m,rfl,rfl,hl,hlen,hf⟩ :=DataW.trod_struct Tryz.underlying26 h;rw [cells26]at hl;obtain⟨c0,c1,c2,c3,rfl⟩ :=four hl;have h0:DataW.trod enc PP w 0 spare held m 22 (([c0,c1,c2,c3].drop 0).take (PP.cellsOf 22)) =xs[0]?:=hf 0 _ rfl;have h1:DataW.trod enc PP w 0 spare held m 23 (([c0,c1,c2,c3].drop 1).take (PP.cellsOf 23)) =xs[1]?:=hf 1 _ rfl;have h2:DataW.trod enc PP w 0 spare held m 3 (([c0,c1,c2,c3].drop 2).take (PP.cellsOf 3)) =xs[2]?:=hf 2 _ rfl;have h3:DataW.trod enc PP w 0 spare held m 24 (([c0,c1,c2,c3].drop 3).take (PP.cellsOf 24)) =xs[3]?:=hf 3 _ rfl;simp only [cells22,cells23,cells3,cells24,drop,take]at h0 h1 h2 h3;obtain⟨x0,h0⟩ :=got h0 hlen (by decide);obtain⟨x1,h1⟩ :=got h1 hlen (by decide);obtain⟨x2,h2⟩ :=got h2 hlen (by decide);obtain⟨x3,h3⟩ :=got h3 hlen (by decide);obtain⟨ns,c,e0,v0⟩ :=oS Node.av Tryz.underlying22 cells50 (by omega) h0 (fun fu _ cs x hx=>aQ5 fu cs x hx);obtain⟨fs,c',e1,v1⟩ :=aGx h1;obtain⟨n,e2⟩ :=oU Tryz.underlying3 h2;obtain⟨ks,c'',e3,v3⟩ :=oS Con.av Tryz.underlying24 cells53 (by omega) h3 (fun fu _ cs x hx=>aT1 fu cs x hx);cases e0;cases e1;cases e2;cases e3;refine⟨⟨ns,fs,n,ks⟩,?_⟩;simp only [Prog.av,VR];exact⟨_,rfl,VRs.cons v0 (VRs.cons v1 (VRs.cons (by simp only [VR]) (VRs.cons v3 (VRs.nil _))))⟩
end
end
section
variable {P :Program}
theorem Rel.swap {E E':Emb}{h h':Hp}{w:World}(r:Rel E h w.heap)(K:Nat→Prop)(hnb:h.nb≤h'.nb)(hlow:∀b,b<h.nb→E' b=E b)(himm:E'.imm=E.imm)(hfr:∀b,h'.nb≤b→E' b=none)
  (hgone:∀b o,h.look b=some o→¬K b→bQ o= [] ∧hU o=false)
  (hnew:∀b o,h'.look b=some o→ (K b∧h.look b=some o) ∨ (b<h'.nb∧bQ o= [] ∧hU o=false∧ (b<h.nb→¬K b∧∃o0,h.look b=some o0) ∧∃L,E' b=some L∧OR E' w.heap L o∧∀i,Own o L i→∃b0 o0 L0,¬K b0∧h.look b0=some o0∧E b0=some L0∧Own o0 L0 i))
  (hdis:∀b b' o o' L L',¬ (K b∧h.look b=some o) →¬ (K b'∧h.look b'=some o') →h'.look b=some o→h'.look b'=some o'→E' b=some L→E' b'=some L'→b≠b'→¬Meet o o' L L') :
  E.le E'∧Rel E' h' w.heap∧∀m,m≤h.nb→ExtM m E h w E' h' w:=by
 have hle:E.le E':= ⟨fun b L e=>by rw [hlow b (r.nb_gt e)];exact e,fun k C e=>by rw [himm];exact e⟩;have hK:∀ {b o},K b∧h.look b=some o→E' b=E b:=fun {b o} g=>hlow b (r.keys b o g.2)
 have hown:∀ {b o L},h'.look b=some o→E' b=some L→∀i,Own o L i→∃b0 o0 L0,h.look b0=some o0∧E b0=some L0∧Own o0 L0 i:=fun {b o L} e k i hi=>by
  rcases hnew b o e with g| ⟨_,_,_,_,L1,g1,_,g3⟩
  ·exact⟨b,o,L,g.2,by rw [←hK g];exact k,hi⟩
  · rw [k]at g1;cases g1;obtain⟨b0,o0,L0,_,q1,q2,q3⟩ :=g3 i hi;exact⟨b0,o0,L0,q1,q2,q3⟩
 have apart:∀ {b b' o o' L L'},¬ (K b∧h.look b=some o) →K b'∧h.look b'=some o'→h'.look b=some o→E' b=some L→E b'=some L'→∀i,Own o L i→¬Own o' L' i:=fun {b b' o o' L L'} g g' e k k' i i1 i2=>by
  rcases hnew b o e with q| ⟨_,_,_,_,L1,g1,_,g3⟩
  ·exact g q
  · rw [k]at g1;cases g1;obtain⟨b0,o0,L0,q0,q1,q2,q3⟩ :=g3 i i1;obtain⟨u1,u2⟩ :=hgone b0 o0 q1 q0;rcases r.kin b0 b' o0 o' L0 L' q1 g'.2 q2 k' ⟨i,q3,i2⟩ (fun e=>q0 (e ▸ g'.1))with⟨x,_⟩ | ⟨_,x,_⟩
    ·rw [u1]at x;cases x
    ·rw [u2]at x;cases x
 refine⟨hle,⟨fun b o e=>?_,fun b b' o o' L L' e e' k k' hbl hne=>?_,hfr,fun k C e=>by rw [himm]at e;exact r.imm k C e,fun b o L e k i hi=>?_,fun b o e=>?_⟩,fun m hm=> ⟨fun b hb=>hlow b (by omega),hle.2,le_refl _,fun _ _ _=>rfl,fun b o L e k i hi _=>hown e k i hi,by omega,rfl,rfl,rfl,fun _ _=>rfl,fun k C e _=>.inl (by rw [himm]at e;exact e),fun b o e hb=>?_⟩⟩
 · rcases hnew b o e with g| ⟨_,_,_,_,L,g1,g2,_⟩
   · rcases r.obj0 b o g.2 with⟨u1,u2⟩ | ⟨L,k1,k2⟩
     ·exact .inl ⟨u1,by rw [hK g];exact u2⟩
     ·exact .inr ⟨L,by rw [hK g];exact k1,k2.mono hle⟩
   ·exact .inr ⟨L,g1,g2⟩
 · by_cases g:K b∧h.look b=some o
   · by_cases g':K b'∧h.look b'=some o'
     · rw [hK g]at k;rw [hK g']at k';exact r.kin b b' o o' L L' g.2 g'.2 k k' hbl hne
     · rw [hK g]at k;obtain⟨i,i1,i2⟩ :=hbl;exact absurd i1 (apart g' g e' k' k i i2)
   · by_cases g':K b'∧h.look b'=some o'
     · rw [hK g']at k';obtain⟨i,i1,i2⟩ :=hbl;exact absurd i2 (apart g g' e k k' i i1)
     ·exact absurd hbl (hdis b b' o o' L L' g g' e e' k k' hne)
 · rw [himm];obtain⟨b0,o0,L0,q1,q2,q3⟩ :=hown e k i hi;exact r.apart b0 o0 L0 q1 q2 i q3
 · rcases hnew b o e with g| ⟨g,_⟩
   ·have:=r.keys b o g.2;omega
   ·exact g
 · rcases hnew b o e with g| ⟨_,_,_,g,_⟩
   ·exact⟨o,g.2⟩
   ·exact(g (by omega)).2
end
inductive XT where
 |mk (op n:Int) (kids:List XT) (pats:List Pat)
mutual
def XT.av :XT→AV
 | .mk o n ks ps=>.iptr [.int .i64 o,.int .i64 n,.ilst 1 (XTs.av ks) false,.ilst 4 (Pats.av ps) false]
def XTs.av :List XT→List AV
 | [] =>[]
 |p::ps=>XT.av p::XTs.av ps
end
theorem dJ :∀l,XTs.av l=map XT.av l
 | [] =>rfl
 |p::ps=>by rw [XTs.av,dJ ps];rfl
mutual
theorem aKo :∀p,keyless (XT.av p) =true
 | .mk o n ks ps=>by simp [XT.av,keyless]
theorem aZb :∀l,keylessL (XTs.av l) =true
 | [] =>rfl
 |p::ps=>by rw [XTs.av,keylessL,aKo p,aZb ps];rfl
end
abbrev Imm :=Nat→Option (Array Value)
def Imm.le (a b:Imm) :Prop:=∀k C,a k=some C→b k=some C
def emI (imm:Imm) :Emb:= ⟨fun _=>none,imm⟩
theorem aB0 {a b:Imm}(h:Imm.le a b) : (emI a).le (emI b) := ⟨fun _ _ e=>e,h⟩
def adr (a:Nat×Nat) :Value:=.pointer (some ⟨a.1,a.2,none⟩)
mutual
def TAt (imm:Imm)(H:Array Obj) :Nat×Nat→XT→List Nat→Prop
 | a,.mk o n ks ps,F=>∃ (C:Array Value) (e:TypeId) (kv pv:Value) (Fk:List Nat),H[a.1]?=some (.cells C e (0,0)) ∧C[a.2]?=some (.int .i64 o) ∧C[a.2+1]?=some (.int .i64 n) ∧C[a.2+2]?=some kv∧C[a.2+3]?=some pv∧VR (emI imm) (.ilst 4 (Pats.av ps) false) pv∧F=a.1::Fk ∧
   ((ks= [] ∧Fk= [] ∧ ((∃b,kv= .slice b 0 0) ∨∃ (b:Nat×Nat) (cap:Nat),kv= .slice (some ⟨b.1,b.2,none⟩) 0 cap)) ∨∃ (b:Nat×Nat) (cap:Nat) (Ck:Array Value) (ek:TypeId) (ad:List (Nat×Nat)) (Fr:List Nat),kv= .slice (some ⟨b.1,b.2,none⟩) ks.length cap∧ks≠ [] ∧ks.length≤cap∧b.2+cap≤Ck.size∧H[b.1]?=some (.cells Ck ek (0,0)) ∧ad.length=ks.length∧ (∀j,j<ks.length→Ck[b.2+j]?= (ad.map adr)[j]?) ∧Fk=b.1::Fr∧TsAt imm H ad ks Fr)
def TsAt (imm:Imm)(H:Array Obj) :List (Nat×Nat) →List XT→List Nat→Prop
 |ad,[],F=>ad= [] ∧F= []
 |ad,t::ts,F=>∃a ad' F1 F2,ad=a::ad'∧F=F1++F2∧TAt imm H a t F1∧TsAt imm H ad' ts F2
end
mutual
theorem TAt.go {imm imm':Imm}{H H':Array Obj}(hi:Imm.le imm imm') :∀ (t:XT) (a:Nat×Nat) (F:List Nat),TAt imm H a t F→ (∀i∈F,H'[i]?=H[i]?) →TAt imm' H' a t F
 | .mk o n ks ps,a,F,h,hH=>by
  simp only [TAt]at h ⊢;obtain⟨C,e,kv,pv,Fk,h1,h2,h3,h4,h5,h6,h7,h8⟩ :=h;subst h7;refine⟨C,e,kv,pv,Fk,by rw [hH _ (mem_cons_self ..)];exact h1,h2,h3,h4,h5,h6.mono (aB0 hi),rfl,?_⟩;rcases h8 with g| ⟨b,cap,Ck,ek,ad,Fr,g1,g0,g2,g3,g4,g5,g6,g7,g8⟩
  ·exact .inl g
  · subst g7;exact .inr ⟨b,cap,Ck,ek,ad,Fr,g1,g0,g2,g3,by rw [hH _ (by simp)];exact g4,g5,g6,rfl,TsAt.go hi ks ad Fr g8 (fun i hi=>hH i (by simp [hi]))⟩
theorem TsAt.go {imm imm':Imm}{H H':Array Obj}(hi:Imm.le imm imm') :∀ (ts:List XT) (ad:List (Nat×Nat)) (F:List Nat),TsAt imm H ad ts F→ (∀i∈F,H'[i]?=H[i]?) →TsAt imm' H' ad ts F
 | [],ad,F,h,_=>by simpa only [TsAt]using h
 | t::ts,ad,F,h,hH=>by
  simp only [TsAt]at h ⊢;obtain⟨a,ad',F1,F2,rfl,rfl,h3,h4⟩ :=h;exact⟨a,ad',F1,F2,rfl,rfl,TAt.go hi t a F1 h3 (fun i hi=>hH i (by simp [hi])),TsAt.go hi ts ad' F2 h4 (fun i hi=>hH i (by simp [hi]))⟩
end
mutual
theorem TAt.blk {imm:Imm}{H:Array Obj}:∀ (t:XT) (a:Nat×Nat) (F:List Nat),TAt imm H a t F→∀i∈F,∃C e,H[i]?=some (.cells C e (0,0))
 | .mk o n ks ps,a,F,h,i,hi=>by
  simp only [TAt]at h;obtain⟨C,e,kv,pv,Fk,h1,h2,h3,h4,h5,h6,rfl,h8⟩ :=h;rcases List.mem_cons.1 hi with rfl|hi
  ·exact⟨C,e,h1⟩
  · rcases h8 with⟨_,rfl,_⟩ | ⟨b,cap,Ck,ek,ad,Fr,g1,g0,g2,g3,g4,g5,g6,rfl,g8⟩
    ·cases hi
    · rcases List.mem_cons.1 hi with rfl|hi
      ·exact⟨Ck,ek,g4⟩
      ·exact TsAt.blk ks ad Fr g8 i hi
theorem TsAt.blk {imm:Imm}{H:Array Obj}:∀ (ts:List XT) (ad:List (Nat×Nat)) (F:List Nat),TsAt imm H ad ts F→∀i∈F,∃C e,H[i]?=some (.cells C e (0,0))
 | [],ad,F,h,i,hi=>by simp only [TsAt]at h;rw [h.2]at hi;cases hi
 | t::ts,ad,F,h,i,hi=>by
  simp only [TsAt]at h;obtain⟨a,ad',F1,F2,rfl,rfl,h3,h4⟩ :=h;rcases List.mem_append.1 hi with hi|hi
  ·exact TAt.blk t a F1 h3 i hi
  ·exact TsAt.blk ts ad' F2 h4 i hi
end
theorem TsAt.len {imm:Imm}{H:Array Obj}:∀ {ts:List XT} {ad:List (Nat×Nat)} {F:List Nat},TsAt imm H ad ts F→ad.length=ts.length
 | [],ad,F,h=>by simp only [TsAt]at h;rw [h.1];rfl
 | t::ts,ad,F,h=>by
  simp only [TsAt]at h;obtain⟨a,ad',F1,F2,rfl,rfl,_,h4⟩ :=h;simp [h4.len]
def OsAt (imm:Imm)(H:Array Obj) :List (Nat×Nat) →List (Option XT) →List Nat→Prop
 |ad,[],F=>ad= [] ∧F= []
 |ad,some t::ts,F=>∃a ad' F1 F2,ad=a::ad'∧F=F1++F2∧TAt imm H a t F1∧OsAt imm H ad' ts F2
 |ad,none::ts,F=>∃a ad',ad=a::ad'∧OsAt imm H ad' ts F
theorem os_ts {imm:Imm}{H:Array Obj}:∀ {ts:List XT} {ad:List (Nat×Nat)} {F:List Nat},OsAt imm H ad (ts.map some) F↔TsAt imm H ad ts F
 | [],ad,F=>by simp [OsAt,TsAt]
 | t::ts,ad,F=>by
  simp only [map_cons,OsAt,TsAt];constructor
  ·rintro⟨a,ad',F1,F2,h1,h2,h3,h4⟩;exact⟨a,ad',F1,F2,h1,h2,h3,os_ts.1 h4⟩
  ·rintro⟨a,ad',F1,F2,h1,h2,h3,h4⟩;exact⟨a,ad',F1,F2,h1,h2,h3,os_ts.2 h4⟩
theorem OsAt.go {imm imm':Imm}{H H':Array Obj}(hi:Imm.le imm imm') :∀ (ts:List (Option XT)) (ad:List (Nat×Nat)) (F:List Nat),OsAt imm H ad ts F→ (∀i∈F,H'[i]?=H[i]?) →OsAt imm' H' ad ts F
 | [],ad,F,h,_=>by simpa only [OsAt]using h
 | some t::ts,ad,F,h,hH=>by
  simp only [OsAt]at h ⊢;obtain⟨a,ad',F1,F2,rfl,rfl,h3,h4⟩ :=h;exact⟨a,ad',F1,F2,rfl,rfl,TAt.go hi t a F1 h3 (fun i hi=>hH i (by simp [hi])),OsAt.go hi ts ad' F2 h4 (fun i hi=>hH i (by simp [hi]))⟩
 | none::ts,ad,F,h,hH=>by
  simp only [OsAt]at h ⊢;obtain⟨a,ad',rfl,h4⟩ :=h;exact⟨a,ad',rfl,OsAt.go hi ts ad' F h4 hH⟩
theorem OsAt.blk {imm:Imm}{H:Array Obj}:∀ (ts:List (Option XT)) (ad:List (Nat×Nat)) (F:List Nat),OsAt imm H ad ts F→∀i∈F,∃C e,H[i]?=some (.cells C e (0,0))
 | [],ad,F,h,i,hi=>by simp only [OsAt]at h;rw [h.2]at hi;cases hi
 | some t::ts,ad,F,h,i,hi=>by
  simp only [OsAt]at h;obtain⟨a,ad',F1,F2,rfl,rfl,h3,h4⟩ :=h;rcases List.mem_append.1 hi with hi|hi
  ·exact TAt.blk t a F1 h3 i hi
  ·exact OsAt.blk ts ad' F2 h4 i hi
 | none::ts,ad,F,h,i,hi=>by
  simp only [OsAt]at h;obtain⟨a,ad',rfl,h4⟩ :=h;exact OsAt.blk ts ad' F h4 i hi
theorem OsAt.len {imm:Imm}{H:Array Obj}:∀ {ts:List (Option XT)} {ad:List (Nat×Nat)} {F:List Nat},OsAt imm H ad ts F→ad.length=ts.length
 | [],ad,F,h=>by simp only [OsAt]at h;rw [h.1];rfl
 | some t::ts,ad,F,h=>by
  simp only [OsAt]at h;obtain⟨a,ad',F1,F2,rfl,rfl,_,h4⟩ :=h;simp [h4.len]
 | none::ts,ad,F,h=>by
  simp only [OsAt]at h;obtain⟨a,ad',rfl,h4⟩ :=h;simp [h4.len]
theorem OsAt.out {imm:Imm}{H:Array Obj}:∀ {ts:List (Option XT)} {ad:List (Nat×Nat)} {F:List Nat} {i:Nat} {t:XT},OsAt imm H ad ts F→ts[i]?=some (some t) →∃a F1 F2,ad[i]?=some a∧TAt imm H a t F1∧OsAt imm H ad (ts.set i none) F2∧ (F1++F2).Perm F
 | [],ad,F,i,t,_,e=>by simp at e
 | some t'::ts,ad,F,0,t,h,e=>by
  simp only [OsAt]at h;obtain⟨a,ad',F1,F2,rfl,rfl,h3,h4⟩ :=h;simp only [List.getElem?_cons_zero,Option.some.injEq]at e;subst e;exact⟨a,F1,F2,rfl,h3,by simp only [List.set_cons_zero,OsAt];exact⟨a,ad',rfl,h4⟩,List.Perm.refl _⟩
 |none::ts,ad,F,0,t,h,e=>by simp at e
 | some t'::ts,ad,F,i+1,t,h,e=>by
  simp only [OsAt]at h;obtain⟨a,ad',F1,F2,rfl,rfl,h3,h4⟩ :=h;obtain⟨a0,G1,G2,g1,g2,g3,g4⟩ :=OsAt.out h4 (by simpa using e);refine⟨a0,G1,F1++G2,by simpa using g1,g2,by simp only [set_cons_succ,OsAt];exact⟨a,ad',F1,G2,rfl,rfl,h3,g3⟩,?_⟩;have: (G1++ (F1++G2)).Perm (F1++ (G1++G2)) :=by
   rw [←append_assoc,←append_assoc];exact List.Perm.append_right _ List.perm_append_comm
  exact this.trans (List.Perm.append_left _ g4)
 | none::ts,ad,F,i+1,t,h,e=>by
  simp only [OsAt]at h;obtain⟨a,ad',rfl,h4⟩ :=h;obtain⟨a0,G1,G2,g1,g2,g3,g4⟩ :=OsAt.out h4 (by simpa using e);exact⟨a0,G1,G2,by simpa using g1,g2,by simp only [set_cons_succ,OsAt];exact⟨a,ad',rfl,g3⟩,g4⟩
theorem OsAt.put {imm:Imm}{H:Array Obj}:∀ {ts:List (Option XT)} {ad:List (Nat×Nat)} {F F1:List Nat} {i:Nat} {t:XT} {a:Nat×Nat},OsAt imm H ad ts F→ts[i]?=some none→TAt imm H a t F1→∃F2,OsAt imm H (ad.set i a) (ts.set i (some t)) F2∧F2.Perm (F1++F)
 | [],ad,F,F1,i,t,a,_,e,_=>by simp at e
 |some t'::ts,ad,F,F1,0,t,a,h,e,_=>by simp at e
 | none::ts,ad,F,F1,0,t,a,h,e,ht=>by
  simp only [OsAt]at h;obtain⟨a',ad',rfl,h4⟩ :=h;exact⟨F1++F,by simp only [List.set_cons_zero,OsAt];exact⟨a,ad',F1,F,rfl,rfl,ht,h4⟩,List.Perm.refl _⟩
 | some t'::ts,ad,F,F1,i+1,t,a,h,e,ht=>by
  simp only [OsAt]at h;obtain⟨a',ad',G1,G2,rfl,rfl,h3,h4⟩ :=h;obtain⟨F2,g1,g2⟩ :=OsAt.put h4 (by simpa using e) ht;refine⟨G1++F2,by simp only [set_cons_succ,OsAt];exact⟨a',ad'.set i a,G1,F2,rfl,rfl,h3,g1⟩,?_⟩;refine(List.Perm.append_left _ g2).trans ?_;rw [←append_assoc,←append_assoc];exact List.Perm.append_right _ List.perm_append_comm
 | none::ts,ad,F,F1,i+1,t,a,h,e,ht=>by
  simp only [OsAt]at h;obtain⟨a',ad',rfl,h4⟩ :=h;obtain⟨F2,g1,g2⟩ :=OsAt.put h4 (by simpa using e) ht;exact⟨F2,by simp only [set_cons_succ,OsAt];exact⟨a',ad'.set i a,rfl,g1⟩,g2⟩
section
variable {P :Program}
abbrev ZP :=List Nat→List (Nat×Nat×Nat) →Imm→Array Obj→Prop
def gh :AObj:=.zone false [] (fun _ _ _ _=>True)
def bN (ts:List XT) :ZP:=fun F Ks imm H=>F.Nodup∧∃K:Nat×Nat×Nat,Ks= [K] ∧ ((ts= [] ∧F= []) ∨∃ (C:Array Value) (e:TypeId) (ad:List (Nat×Nat)) (Fr:List Nat),ts≠ [] ∧F=K.1::Fr∧H[K.1]?=some (.cells C e (0,0)) ∧C.size=K.2.2∧ (∀j,j<ts.length→C[K.2.1+j]?= (ad.map adr)[j]?) ∧TsAt imm H ad ts Fr)
def ZV (us:List (Nat×Nat))(ts:List (Option XT)) :ZP:=fun F _ imm H=>F.Nodup∧OsAt imm H us ts F
def cU (us:List (Nat×Nat))(ts:List (Option XT))(i:Nat) :ZP:=fun F Ks imm H=>F.Nodup∧OsAt imm H us ts F∧ts[i]?=some none∧∃K:Nat×Nat×Nat,Ks= [K] ∧us[i]?=some (K.1,K.2.1)
def Z1 (t:XT) :ZP:=fun F Ks imm H=>F.Nodup∧∃K:Nat×Nat×Nat,Ks= [K] ∧TAt imm H (K.1,K.2.1) t F
theorem tI {E:Emb}{H:Array Obj}{F:List Nat}{sh sz:Nat}{rs:List Nat}{Ls:List Loc}{Z:ZP}(hn:map E.loc rs=map some Ls)(hb:∀i∈F,∃C e,H[i]?=some (.cells C e (0,0)))
  (hz:∀ (imm':Imm) (H':Array Obj),Imm.le E.imm imm'→ (∀i∈F,H'[i]?=H[i]?) →Z F (map (fun K=> (K.blk,K.sh,K.sz)) Ls) imm' H') :OR E H ⟨hM F,sh,sz⟩ (.zone true rs Z) :=by
 have hf:fpz true ⟨hM F,sh,sz⟩ =F:=aGa F;show(∀i∈fpz true ⟨hM F,sh,sz⟩,_) ∧_;rw [hf];exact⟨hb,Ls,hn,hz⟩
theorem zone_own {F:List Nat}{sh sz:Nat}{rs:List Nat}{Z:ZP}{i:Nat}:Own (.zone true rs Z) ⟨hM F,sh,sz⟩ i↔i∈F:=by
 show i∈fpz true ⟨hM F,sh,sz⟩ ↔_;rw [show fpz true ⟨hM F,sh,sz⟩ =F from aGa F]
theorem aPU {E:Emb}{H:Array Obj}{L:Loc}:OR E H L gh:= ⟨fun i hi=> (by cases hi),[],rfl,fun _ _ _ _=>trivial⟩
theorem jY {L:Loc}{i:Nat}:¬Own gh L i:=fun h=>by cases h
theorem eY {E:Emb}{H:Array Obj}{L:Loc}{rs:List Nat}{Z:ZP}(r:OR E H L (.zone true rs Z)) :∃Ls:List Loc,map E.loc rs=map some Ls∧Z (hR L.blk) (map (fun K=> (K.blk,K.sh,K.sz)) Ls) E.imm H:=by
 obtain⟨_,Ls,h1,h2⟩ :=r;exact⟨Ls,h1,h2 E.imm H (fun _ _ e=>e) (fun _ _=>rfl)⟩
def iG (h h':Hp) :Prop:=∀ (E:Emb) (w:World),Rel E h w.heap→∃E',E.le E'∧Rel E' h' w.heap∧∀m,m≤h.nb→ExtM m E h w E' h' w
theorem aKp {m:Nat}{fr:AFrame}{cs:List AFrame}{h h':Hp}(z:iG h h') :LeadsM P m ⟨fr,cs,h⟩ ⟨fr,cs,h'⟩ :=fun hm E cf ccs w base f fs r=>by
 obtain⟨E',h1,h2,h3⟩ :=z E w r;exact⟨E',cf,ccs,w,Steps.refl _ _,f.mono h1,fs.mono h1,h2,h3 m hm⟩
def aAa {α:Type}(h:Hp)(ok:α→Prop)(h':α→Hp) :Prop:=∀ (E:Emb) (w:World),Rel E h w.heap→∃x E',ok x∧E.le E'∧Rel E' (h' x) w.heap∧∀m,m≤h.nb→ExtM m E h w E' (h' x) w
theorem aKq {α:Type}{m:Nat}{fr:AFrame}{cs:List AFrame}{h:Hp}{ok:α→Prop}{h':α→Hp}{res:Res}{hf:Hp}(z:aAa h ok h')(k:∀x,ok x→Ends P m ⟨fr,cs,h' x⟩ res hf) :Ends P m ⟨fr,cs,h⟩ res hf:=fun hm E cf ccs w f fs r cl base=>by
 obtain⟨x,E',h0,h1,h2,h3⟩ :=z E w r;have x3:=h3 m hm;obtain⟨cl',w',E2,s2,g2,r2,x2⟩ :=k x h0 x3.nb E' cf ccs w (f.mono h1) (fs.mono h1) h2 cl base;exact⟨cl',w',E2,s2,g2,r2,x3.trans x2⟩
theorem Rel.noMeet {E:Emb}{h:Hp}{H:Array Obj}(r:Rel E h H){b b':Nat}{o o':AObj}{L L':Loc}(e:h.look b=some o)(e':h.look b'=some o')(k:E b=some L)(k':E b'=some L')(hne:b≠b')(h1:bQ o= [] :=by rfl)(h2:bQ o'= [] :=by rfl) :¬Meet o o' L L':=fun hm=>by
 rcases r.kin b b' o o' L L' e e' k k' hm hne with⟨g,_⟩ | ⟨g,_⟩
 ·rw [h1]at g;cases g
 ·rw [h2]at g;cases g
def vls (us:List (Nat×Nat)) :List AV:=map (fun a=>AV.val (adr a)) us
theorem vls_vrs {E:Emb}:∀ {us:List (Nat×Nat)} {vs:List Value},VRs E (vls us) vs↔vs=us.map adr
 | [],vs=>by simp [vls,VRs]
 | u::us,vs=>by
  simp only [vls,map_cons,VRs,VR];constructor
  ·rintro⟨v,vs',rfl,rfl,h⟩;rw [vls_vrs.1 h]
  ·intro h;exact⟨_,_,h,rfl,vls_vrs.2 rfl⟩
theorem aH6 (a:Nat×Nat) :yO 1 (adr a) := ⟨rfl,fun c hc=>by simp [adr,Value.cells]at hc;subst hc;rfl⟩
theorem lB :∀us:List (Nat×Nat),flat (us.map adr) =us.map adr
 | [] =>rfl
 | u::us=>by
  have:=lB us;unfold flat at this ⊢;simp only [map_cons,List.flatMap_cons,this];rfl
theorem xG {h h':Hp}{k g:Nat}{us:List (Nat×Nat)}{ts:List XT}(hk:h.look k=some (.lst 1 (vls us)))(hg:h.look g=some (.zone true [] (ZV us (ts.map some))))(hne:ts≠ [])(hn:h.nb<h'.nb)
  (hl:∀b o,h'.look b=some o→ (b=k∧o=gh) ∨ (b=h.nb∧o= .zone true [k] (bN ts)) ∨ (b≠k∧b≠g∧h.look b=some o)) :iG h h':=fun E w r=>by
 have hkg:k≠g:=fun e=>by subst e;rw [hk]at hg;cases hg
 obtain⟨Lg,g1,g2⟩ :=r.obj g _ hg;obtain⟨Ls,_,hnd,hos⟩ :=eY g2;have hts:=os_ts.1 hos;have hlen:us.length=ts.length:=hts.len;have hu:jK (.lst 1 (vls us)) =false:=by
  cases us with
  |nil=>exact absurd (List.length_eq_zero_iff.1 hlen.symm) hne
  |cons u us=>rfl
 obtain⟨Lk,k1,C,el,vs,c1,c2,c3,c4,c5⟩ :=r.obj k _ hk hu;have c3:=vls_vrs.1 c3;subst c3;have hno:Lk.blk∉hR Lg.blk:=fun hh=>r.noMeet hk hg k1 g1 hkg rfl rfl ⟨_,rfl,hh⟩
 let E':=E.put h.nb ⟨hM (Lk.blk::hR Lg.blk),0,0⟩
 have hkb:=r.keys k _ hk;have hgb:=r.keys g _ hg;have eo:∀ {b},b≠h.nb→E' b=E b:=fun hb=>Emb.put_ne _ _ hb;have hle:E.le E':=Emb.le_put (r.fresh _ (le_refl _));have hzone:OR E' w.heap ⟨hM (Lk.blk::hR Lg.blk),0,0⟩ (.zone true [k] (bN ts)) :=by
  refine tI (Ls:=[Lk]) (by simp only [map_cons,map_nil,List.cons.injEq,and_true];rw [show E'.loc k=E.loc k from eo (by omega)];exact k1) (fun i hi=>?_) (fun imm' H' hi hH=> ⟨List.nodup_cons.2 ⟨hno,hnd⟩,_,rfl,.inr ⟨C,el,us,_,hne,rfl,by rw [hH _ (mem_cons_self ..)];exact c1,c2,fun j hj=>?_,TsAt.go hi ts us _ hts (fun i hi=>hH i (mem_cons_of_mem _ hi))⟩⟩)
  · rcases List.mem_cons.1 hi with rfl|hi
    ·exact⟨C,el,c1⟩
    ·exact TsAt.blk ts us _ hts i hi
  · have:=c5 j (by rw [length_map];omega);rw [this,lB]
 obtain⟨q1,q2,q3⟩ :=r.swap (E':=E') (h':=h') (fun b=>b≠k∧b≠g) (le_of_lt hn) (fun b hb=>eo (by omega)) rfl (fun b hb=>by rw [eo (by omega)];exact r.fresh b (by omega))
  (fun b o e hb=>by
   by_cases h1:b=k
   ·subst h1;rw [hk]at e;cases e;exact⟨rfl,rfl⟩
   · have h2:b=g:=Classical.not_not.1 (fun h2=>hb ⟨h1,h2⟩);subst h2;rw [hg]at e;cases e;exact⟨rfl,rfl⟩)
  (fun b o e=>by
   rcases hl b o e with⟨rfl,rfl⟩ | ⟨rfl,rfl⟩ | ⟨h1,h2,h3⟩
   ·exact .inr ⟨by omega,rfl,rfl,fun _=> ⟨fun hh=>hh.1 rfl,_,hk⟩,Lk,by rw [eo (by omega)];exact k1,aPU,fun i hi=>absurd hi jY⟩
   · refine .inr ⟨hn,rfl,rfl,fun hh=>absurd hh (lt_irrefl _),_,Emb.put_same _ _ _,hzone,fun i hi=>?_⟩;rw [zone_own]at hi;rcases List.mem_cons.1 hi with rfl|hi
     ·exact⟨k,_,Lk,fun hh=>hh.1 rfl,hk,k1,rfl⟩
     ·exact⟨g,_,Lg,fun hh=>hh.2 rfl,hg,g1,hi⟩
   ·exact .inl ⟨⟨h1,h2⟩,h3⟩)
  (fun b b' o o' L L' n1 n2 e e' k k' hbb hm=>by
   obtain⟨i,i1,i2⟩ :=hm;rcases hl b o e with⟨rfl,rfl⟩ | ⟨rfl,rfl⟩ | ⟨h1,h2,h3⟩
   ·exact jY i1
   · rcases hl b' o' e' with⟨rfl,rfl⟩ | ⟨rfl,rfl⟩ | ⟨h1,h2,h3⟩
     ·exact jY i2
     ·exact hbb rfl
     ·exact n2 ⟨⟨h1,h2⟩,h3⟩
   ·exact n1 ⟨⟨h1,h2⟩,h3⟩)
 exact⟨E',q1,q2,q3⟩
def ndC (op n:Int)(kv:AV)(pv:AV) :AObj:=.cells (putCells .leaf 0 [.int .i64 op,.int .i64 n,kv,pv]) 4 [] false
theorem aH7 {E:Emb}{H:Array Obj}{L:Loc}{op n:Int}{kv pv:AV}(r:OR E H L (ndC op n kv pv)) :∃C e k p,H[L.blk]?=some (.cells C e (0,0)) ∧C.size=L.sz∧C[L.sh]?=some (.int .i64 op) ∧C[L.sh+1]?=some (.int .i64 n) ∧C[L.sh+2]?=some k∧VR E kv k∧C[L.sh+3]?=some p∧VR E pv p:=by
 obtain⟨C,e,h1,h2,h3⟩ :=r;obtain⟨_,v0,a0,b0⟩ :=h3 0 (.int .i64 op) (by rw [aY];rfl);obtain⟨_,v1,a1,b1⟩ :=h3 1 (.int .i64 n) (by rw [aY];rfl);obtain⟨_,v2,a2,b2⟩ :=h3 2 kv (by rw [aY];rfl);obtain⟨_,v3,a3,b3⟩ :=h3 3 pv (by rw [aY];rfl);simp only [VR]at b0 b1;subst b0 b1;exact⟨C,e,v2,v3,h1,h2,a0,a1,a2,b2,a3,b3⟩
theorem bDi {E:Emb}{H:Array Obj}{L:Loc}{op n:Int}{kv pv:AV}{C:Array Value}{e:TypeId}{k p:Value}(h1:H[L.blk]?=some (.cells C e (0,0)))(h2:C.size=L.sz)(a0:C[L.sh]?=some (.int .i64 op))(a1:C[L.sh+1]?=some (.int .i64 n))(a2:C[L.sh+2]?=some k)(b2:VR E kv k)(a3:C[L.sh+3]?=some p)(b3:VR E pv p) :OR E H L (ndC op n kv pv) :=by
 refine⟨C,e,h1,h2,fun i a ha=>?_⟩;rw [aY]at ha;split at ha
 · match i,ha with
   |0,ha=>cases ha;exact⟨by omega,_,a0,by simp only [VR]⟩
   |1,ha=>cases ha;exact⟨by omega,_,a1,by simp only [VR]⟩
   |2,ha=>cases ha;exact⟨by omega,_,a2,b2⟩
   |3,ha=>cases ha;exact⟨by omega,_,a3,b3⟩
   |n+4,ha=>rename_i hl;simp at hl;omega
 ·cases ha
theorem VR.emI {E:Emb}{a:AV}{v:Value}(hk:keyless a=true)(h:VR E a v) :VR (Hb.emI E.imm) a v:=dW hk h
theorem VR.of_emI {E:Emb}{a:AV}{v:Value}(h:VR (Hb.emI E.imm) a v) :VR E a v:=VR.of_p h
theorem aPV {E:Emb}{H:Array Obj}{Lb Kk:Loc}{op n:Int}{k:Nat}{len:Nat}{ex:Bool}{pv:AV}{ps:List Pat}{ks:List XT}{F:List Nat}(hk:E k=some Kk)(r:OR E H Lb (ndC op n (.gl k 1 0 len ex) pv))(hlen:len=ks.length)(hp:∀E v,VR E pv v→VR E (.ilst 4 (Pats.av ps) false) v)
  (hz:bN ks F [(Kk.blk,Kk.sh,Kk.sz)] E.imm H) :TAt E.imm H (Lb.blk,Lb.sh) (.mk op n ks ps) (Lb.blk::F) :=by
 obtain⟨C,e,kv,p,c1,c2,c3,c4,c5,c6,c7,c8⟩ :=aH7 r;obtain⟨_,K,hK,hz⟩ :=hz;cases hK;simp only [TAt];refine⟨C,e,kv,p,F,c1,c3,c4,c5,c7,VR.emI (by simp [keyless]) (hp E p c8),rfl,?_⟩;simp only [VR]at c6;rcases hz with⟨rfl,rfl⟩ | ⟨Ck,ek,ad,Fr,g1,g2,g3,g4,g5,g6⟩
 · refine .inl ⟨rfl,rfl,?_⟩;simp only [length_nil]at hlen;rcases c6 with⟨_,a,ha⟩ | ⟨L,a,cap,h1,h2,h3,h4,h5⟩
   ·exact .inl ⟨a,ha⟩
   ·rw [hlen]at h2;exact .inr ⟨(L.blk,a),cap,h2⟩
 · have hl0:0<ks.length:=List.length_pos_iff.2 g1;rcases c6 with⟨h0,a,ha⟩ | ⟨L,a,cap,h1,h2,h3,h4,h5⟩
   ·omega
   · rw [hk]at h1;cases h1;obtain⟨q1,q2⟩ :=h5 (by omega);refine .inr ⟨(Kk.blk,a),cap,Ck,ek,ad,Fr,by rw [←hlen];exact h2,g1,by omega,?_,g3,g6.len,fun j hj=>?_,g2,g6⟩
     ·simp only at g4 ⊢;omega
     · have:=g5 j hj;simp only at this ⊢;rw [q1,show Kk.sh+0*1+j=Kk.sh+j by omega];exact this
theorem nV {h h':Hp}{g:Nat}{us:List (Nat×Nat)}{ts:List (Option XT)}{i:Nat}{u:Nat×Nat}{op n:Int}{ks:List XT}{ps:List Pat}(hg:h.look g=some (.zone true [] (ZV us ts)))(hu:us[i]?=some u)(ht:ts[i]?=some (some (.mk op n ks ps)))(hn:h'.nb=h.nb+4)
  (hl:∀b o,h'.look b=some o→ (b=h.nb∧o=ndC op n (.gl (h.nb+1) 1 0 ks.length false) (.ilst 4 (Pats.av ps) false)) ∨ (b=h.nb+1∧o=gh) ∨ (b=h.nb+2∧o= .zone true [h.nb+1] (bN ks)) ∨ (b=h.nb+3∧o= .zone true [h.nb] (cU us (ts.set i none) i)) ∨ (b≠g∧h.look b=some o))
  {m:Nat} (hm:m≤h.nb) :kY m h h' (.val (adr u)) (.ptr h.nb 0) :=fun E w r=>by
 obtain⟨Lg,g1,g2⟩ :=r.obj g _ hg;obtain⟨Ls,_,hnd,hos⟩ :=eY g2;obtain⟨a,F1,F2,o1,o2,o3,o4⟩ :=hos.out ht;rw [hu]at o1;cases o1;have hnd':= (o4.nodup_iff).2 hnd;obtain⟨nd1,nd2,nd3⟩ :=List.nodup_append.1 hnd';simp only [TAt]at o2;obtain⟨C,e,kv,pv,Fk,t1,t2,t3,t4,t5,t6,rfl,t8⟩ :=o2;obtain⟨Kk,k1,k2⟩ :∃Kk:Loc,(∀E:Emb,E (h.nb+1) =some Kk→VR E (.gl (h.nb+1) 1 0 ks.length false) kv) ∧∀ (imm':Imm) (H':Array Obj),Imm.le E.imm imm'→ (∀i∈Fk,H'[i]?=w.heap[i]?) →bN ks Fk [(Kk.blk,Kk.sh,Kk.sz)] imm' H':=by
  rcases t8 with⟨rfl,rfl,x⟩ | ⟨b,cap,Ck,ek,ad,Fr,x1,x0,x2,x3,x4,x5,x6,rfl,x8⟩
  · rcases x with⟨b,rfl⟩ | ⟨b,cap,rfl⟩
    ·exact⟨⟨0,0,0⟩,fun E _=>by simp only [VR];exact .inl ⟨rfl,b,rfl⟩,fun _ _ _ _=> ⟨nodup_nil,_,rfl,.inl ⟨rfl,rfl⟩⟩⟩
    ·exact⟨⟨b.1,b.2,b.2+cap⟩,fun E hE=>by simp only [VR];exact .inr ⟨_,b.2,cap,hE,rfl,by simp,fun h=>by(cases h),fun _=> ⟨by simp,by simp⟩⟩,fun _ _ _ _=> ⟨nodup_nil,_,rfl,.inl ⟨rfl,rfl⟩⟩⟩
  · exact⟨⟨b.1,b.2,Ck.size⟩,fun E hE=>by simp only [VR];exact .inr ⟨_,b.2,cap,hE,x1,x2,fun h=>by(cases h),fun _=> ⟨by simp,by simp only [mul_one];exact x3⟩⟩,
     fun imm' H' hi hH=> ⟨(List.nodup_cons.1 nd1).2,_,rfl,.inr ⟨Ck,ek,ad,Fr,x0,rfl,by rw [hH _ (mem_cons_self ..)];exact x4,rfl,fun j hj=>x6 j hj,TsAt.go hi ks ad Fr x8 (fun i hi=>hH i (mem_cons_of_mem _ hi))⟩⟩⟩
 have hFk:∀i∈Fk,∃C e,w.heap[i]?=some (.cells C e (0,0)) :=fun i hi=>by
  rcases t8 with⟨rfl,rfl,x⟩ | ⟨b,cap,Ck,ek,ad,Fr,x1,x0,x2,x3,x4,x5,x6,rfl,x8⟩
  ·cases hi
  · rcases List.mem_cons.1 hi with rfl|hi
    ·exact⟨_,_,x4⟩
    ·exact TsAt.blk ks ad Fr x8 i hi
 let E':Emb:= ⟨fun b=>if b=h.nb then some ⟨u.1,u.2,C.size⟩else if b=h.nb+1 then some Kk else if b=h.nb+2 then some ⟨hM Fk,0,0⟩else if b=h.nb+3 then some ⟨hM F2,0,0⟩else E b,E.imm⟩
 have e0:E' h.nb=some ⟨u.1,u.2,C.size⟩ :=if_pos rfl;have e1:E' (h.nb+1) =some Kk:=by simp [E']
 have e2:E' (h.nb+2) =some ⟨hM Fk,0,0⟩ :=by simp [E']
 have e3:E' (h.nb+3) =some ⟨hM F2,0,0⟩ :=by simp [E']
 have eo:∀ {b},b<h.nb∨h.nb+4≤b→E' b=E b:=fun {b} hb=>by
  simp only [E'];rw [if_neg (by omega),if_neg (by omega),if_neg (by omega),if_neg (by omega)]
 have hgb:=r.keys g _ hg
 have inF:∀ {i},i=u.1∨i∈Fk∨i∈F2→i∈hR Lg.blk:=fun {i} hi=>by
  refine(o4.mem_iff).1 ?_;rcases hi with rfl|hi|hi
  ·simp
  ·simp [hi]
  ·simp [hi]
 have d1:u.1∉Fk:= (List.nodup_cons.1 nd1).1;have d2:∀ {i},i∈F2→i≠u.1∧i∉Fk:=fun {i} hi=> ⟨fun hh=>nd3 u.1 (mem_cons_self ..) i hi hh.symm,fun hh=>nd3 i (mem_cons_of_mem _ hh) i hi rfl⟩;have hset: (ts.set i none)[i]?=some none:=by
  rw [getElem?_set,if_pos rfl,if_pos (List.getElem?_eq_some_iff.1 ht).1]
 have oc:OR E' w.heap ⟨u.1,u.2,C.size⟩ (ndC op n (.gl (h.nb+1) 1 0 ks.length false) (.ilst 4 (Pats.av ps) false)) :=bDi t1 rfl t2 t3 t4 (k1 E' e1) t5 (VR.of_emI (E:=E') t6);have oz:OR E' w.heap ⟨hM Fk,0,0⟩ (.zone true [h.nb+1] (bN ks)) :=tI (Ls:=[Kk]) (by simp only [map_cons,map_nil,List.cons.injEq,and_true];exact e1) hFk (fun imm' H' hi hH=>k2 imm' H' hi hH);have oh:OR E' w.heap ⟨hM F2,0,0⟩ (.zone true [h.nb] (cU us (ts.set i none) i)) :=tI (Ls:=[⟨u.1,u.2,C.size⟩]) (by simp only [map_cons,map_nil,List.cons.injEq,and_true];exact e0) (OsAt.blk _ us F2 o3) (fun imm' H' hi hH=> ⟨nd2,OsAt.go hi _ us F2 o3 hH,hset,_,rfl,hu⟩)
 have nw:∀ {b o L},h'.look b=some o→E' b=some L→¬ (b≠g∧h.look b=some o) → (b=h.nb∧o=ndC op n (.gl (h.nb+1) 1 0 ks.length false) (.ilst 4 (Pats.av ps) false) ∧L= ⟨u.1,u.2,C.size⟩) ∨ (b=h.nb+1∧o=gh) ∨ (b=h.nb+2∧o= .zone true [h.nb+1] (bN ks) ∧L= ⟨hM Fk,0,0⟩) ∨ (b=h.nb+3∧o= .zone true [h.nb] (cU us (ts.set i none) i) ∧L= ⟨hM F2,0,0⟩) :=fun {b o L} e k hb=>by
  rcases hl b o e with⟨rfl,rfl⟩ | ⟨rfl,rfl⟩ | ⟨rfl,rfl⟩ | ⟨rfl,rfl⟩ |h3
  ·rw [e0]at k;cases k;exact .inl ⟨rfl,rfl,rfl⟩
  ·exact .inr (.inl ⟨rfl,rfl⟩)
  ·rw [e2]at k;cases k;exact .inr (.inr (.inl ⟨rfl,rfl,rfl⟩))
  ·rw [e3]at k;cases k;exact .inr (.inr (.inr ⟨rfl,rfl,rfl⟩))
  ·exact absurd h3 hb
 obtain ⟨q1,q2,q3⟩ :=r.swap (E':=E') (h':=h') (fun b=>b≠g) (by omega) (fun b hb=>eo (.inl hb)) rfl (fun b hb=>by rw [eo (by omega)];exact r.fresh b (by omega))
  (fun b o e hb=>by
   have h2:b=g:=Classical.not_not.1 hb;subst h2;rw [hg]at e;cases e;exact⟨rfl,rfl⟩)
  (fun b o e=>by
   have old:∀i,i∈hR Lg.blk→∃b0 o0 L0,¬ (fun b=>b≠g) b0∧h.look b0=some o0∧E b0=some L0∧Own o0 L0 i:=fun i hi=> ⟨g,_,Lg,fun hh=>hh rfl,hg,g1,hi⟩;rcases hl b o e with⟨rfl,rfl⟩ | ⟨rfl,rfl⟩ | ⟨rfl,rfl⟩ | ⟨rfl,rfl⟩ |h3
   ·exact .inr ⟨by omega,rfl,rfl,fun hh=>absurd hh (by omega),_,e0,oc,fun i hi=>old i (inF (.inl (Eq.symm hi)))⟩
   ·exact .inr ⟨by omega,rfl,rfl,fun hh=>absurd hh (by omega),_,e1,aPU,fun i hi=>absurd hi jY⟩
   ·exact .inr ⟨by omega,rfl,rfl,fun hh=>absurd hh (by omega),_,e2,oz,fun i hi=>old i (inF (.inr (.inl (zone_own.1 hi))))⟩
   ·exact .inr ⟨by omega,rfl,rfl,fun hh=>absurd hh (by omega),_,e3,oh,fun i hi=>old i (inF (.inr (.inr (zone_own.1 hi))))⟩
   ·exact .inl h3)
  (fun b b' o o' L L' n1 n2 e e' k k' hbb hm=>by
   obtain⟨x,i1,i2⟩ :=hm;rcases nw e k n1 with⟨rfl,rfl,rfl⟩ | ⟨rfl,rfl⟩ | ⟨rfl,rfl,rfl⟩ | ⟨rfl,rfl,rfl⟩
   · obtain rfl:u.1=x:=i1;rcases nw e' k' n2 with⟨rfl,rfl,rfl⟩ | ⟨rfl,rfl⟩ | ⟨rfl,rfl,rfl⟩ | ⟨rfl,rfl,rfl⟩
     ·exact hbb rfl
     ·exact jY i2
     ·exact d1 (zone_own.1 i2)
     ·exact(d2 (zone_own.1 i2)).1 rfl
   ·exact jY i1
   · have i1:=zone_own.1 i1;rcases nw e' k' n2 with⟨rfl,rfl,rfl⟩ | ⟨rfl,rfl⟩ | ⟨rfl,rfl,rfl⟩ | ⟨rfl,rfl,rfl⟩
     · obtain rfl:u.1=x:=i2;exact d1 i1
     ·exact jY i2
     ·exact hbb rfl
     ·exact(d2 (zone_own.1 i2)).2 i1
   · have i1:=zone_own.1 i1;rcases nw e' k' n2 with⟨rfl,rfl,rfl⟩ | ⟨rfl,rfl⟩ | ⟨rfl,rfl,rfl⟩ | ⟨rfl,rfl,rfl⟩
     · obtain rfl:u.1=x:=i2;exact(d2 i1).1 rfl
     ·exact jY i2
     ·exact(d2 i1).2 (zone_own.1 i2)
     ·exact hbb rfl)
 refine⟨E',q1,q2,q3 m hm,fun cv hv=>?_⟩;simp only [VR]at hv ⊢;exact⟨_,e0,by subst hv;rfl⟩
theorem rJ {E:Emb}{h h':Hp}{w:World}(r:Rel E h w.heap)(G:List Nat){rs:List Nat}{Z:ZP}{F:List Nat}{Ls:List Loc}(hn:h.nb<h'.nb)
  (hl:∀b o,h'.look b=some o→ (b=h.nb∧o= .zone true rs Z) ∨ (b∈G∧o=gh∧∃L,E b=some L) ∨ (b∉G∧h.look b=some o))
  (hG:∀b∈G,∃o,h.look b=some o∧bQ o= [] ∧hU o=false) (hrs:map E.loc rs=map some Ls)
  (hF:∀i∈F,(∃b∈G,∃o L,h.look b=some o∧E b=some L∧Own o L i) ∧∃C e,w.heap[i]?=some (.cells C e (0,0)))
  (hz:∀ (imm':Imm) (H':Array Obj),Imm.le E.imm imm'→ (∀i∈F,H'[i]?=w.heap[i]?) →Z F (map (fun K=> (K.blk,K.sh,K.sz)) Ls) imm' H') :
  ∃E',E.le E'∧Rel E' h' w.heap∧∀m,m≤h.nb→ExtM m E h w E' h' w:=by
 let E':=E.put h.nb ⟨hM F,0,0⟩
 have eo:∀ {b},b≠h.nb→E' b=E b:=fun hb=>Emb.put_ne _ _ hb;have hle:E.le E':=Emb.le_put (r.fresh _ (le_refl _));have hGb:∀b∈G,b<h.nb:=fun b hb=>by obtain⟨o,e,_⟩ :=hG b hb;exact r.keys b o e
 have hzone:OR E' w.heap ⟨hM F,0,0⟩ (.zone true rs Z) :=tI (rX hle.1 hrs) (fun i hi=> (hF i hi).2) hz
 obtain⟨q1,q2,q3⟩ :=r.swap (E':=E') (h':=h') (fun b=>b∉G) (le_of_lt hn) (fun b hb=>eo (by omega)) rfl (fun b hb=>by rw [eo (by omega)];exact r.fresh b (by omega))
  (fun b o e hb=>by
   have hb:=Classical.not_not.1 hb;obtain⟨o',e',h1,h2⟩ :=hG b hb;rw [e]at e';cases e';exact⟨h1,h2⟩)
  (fun b o e=>by
   rcases hl b o e with⟨rfl,rfl⟩ | ⟨h1,rfl,L,h2⟩ | ⟨h1,h2⟩
   · refine .inr ⟨hn,rfl,rfl,fun hh=>absurd hh (lt_irrefl _),_,Emb.put_same _ _ _,hzone,fun i hi=>?_⟩;obtain⟨⟨b0,h0,o0,L0,a1,a2,a3⟩,_⟩ :=hF i (zone_own.1 hi);exact⟨b0,o0,L0,fun hh=>hh h0,a1,a2,a3⟩
   · have:=hGb b h1;refine .inr ⟨by omega,rfl,rfl,fun _=> ⟨fun hh=>hh h1,?_⟩,L,by rw [eo (by omega)];exact h2,aPU,fun i hi=>absurd hi jY⟩;obtain⟨o',e',_⟩ :=hG b h1;exact⟨o',e'⟩
   ·exact .inl ⟨h1,h2⟩)
  (fun b b' o o' L L' n1 n2 e e' k k' hbb hm=>by
   obtain⟨i,i1,i2⟩ :=hm;rcases hl b o e with⟨rfl,rfl⟩ | ⟨_,rfl,_⟩ |h3
   · rcases hl b' o' e' with⟨rfl,rfl⟩ | ⟨_,rfl,_⟩ |h3
     ·exact hbb rfl
     ·exact jY i2
     ·exact n2 h3
   ·exact jY i1
   ·exact n1 h3)
 exact⟨E',q1,q2,q3⟩
theorem aAb {h h':Hp}{b k gk g:Nat}{us:List (Nat×Nat)}{ts:List (Option XT)}{i:Nat}{op n:Int}{ks:List XT}{ps:List Pat}{len:Nat}{ex:Bool}{pv:AV}(hb:h.look b=some (ndC op n (.gl k 1 0 len ex) pv))(hlen:len=ks.length)(hp:∀E v,VR E pv v→VR E (.ilst 4 (Pats.av ps) false) v)
  (hgk:h.look gk=some (.zone true [k] (bN ks))) (hg:h.look g=some (.zone true [b] (cU us ts i))) (hne:gk≠g) (hn:h.nb<h'.nb)
  (hl:∀x o,h'.look x=some o→ (x=h.nb∧o= .zone true [] (ZV us (ts.set i (some (.mk op n ks ps))))) ∨ (x∉ [b,gk,g] ∧h.look x=some o)) :iG h h':=fun E w r=>by
 obtain⟨Lb,b1,b2⟩ :=r.obj b _ hb;obtain⟨Lk,k1,k2⟩ :=r.obj gk _ hgk;obtain⟨Lg,g1,g2⟩ :=r.obj g _ hg;obtain⟨Ks,n1,z1⟩ :=eY k2;obtain⟨Gs,n2,z2⟩ :=eY g2;obtain⟨Kk,rfl⟩ :∃Kk,Ks= [Kk] :=by
  obtain⟨_,K,hK,_⟩ :=z1
  match Ks,hK with
  | [x],_=>exact⟨x,rfl⟩
 obtain⟨hnd,hos,hno,K,hK,hu⟩ :=z2;obtain⟨Gk,rfl⟩ :∃Gk,Gs= [Gk] :=by
  match Gs,hK with
  | [x],_=>exact⟨x,rfl⟩
 simp only [map_cons,map_nil,List.cons.injEq,and_true]at n1 n2 hK;rw [b1]at n2;cases n2;subst hK;have hT:=aPV n1 b2 hlen hp z1;obtain⟨F2,o1,o2⟩ :=hos.put hno hT (a:= (Lb.blk,Lb.sh));have hus:us.set i (Lb.blk,Lb.sh) =us:=by
  apply List.ext_getElem?;intro j;rw [getElem?_set];split
  · rename_i hj;subst hj;split
    ·exact hu.symm
    ·rename_i hl;rw [List.getElem?_eq_none (by omega)]at hu;cases hu
  ·rfl
 rw [hus]at o1;have hbg:b≠gk:=fun e=>by subst e;rw [hb]at hgk;cases hgk
 have hbg':b≠g:=fun e=>by subst e;rw [hb]at hg;cases hg
 have d1:Lb.blk∉hR Lk.blk:=fun hh=>r.noMeet hb hgk b1 k1 hbg rfl rfl ⟨_,rfl,hh⟩;have d2:Lb.blk∉hR Lg.blk:=fun hh=>r.noMeet hb hg b1 g1 hbg' rfl rfl ⟨_,rfl,hh⟩;have d3:∀x∈hR Lk.blk,x∉hR Lg.blk:=fun x h1 h2=>r.noMeet hgk hg k1 g1 hne rfl rfl ⟨x,h1,h2⟩;have nd:F2.Nodup:=by
  refine(o2.nodup_iff).2 (List.nodup_append.2 ⟨List.nodup_cons.2 ⟨d1,z1.1⟩,hnd,fun x hx y hy e=>?_⟩);subst e;rcases List.mem_cons.1 hx with rfl|hx
  ·exact d2 hy
  ·exact d3 x hx hy
 refine rJ r [b,gk,g] (Ls:=[]) hn (fun x o e=> (hl x o e).imp id .inr) (fun x hx=>?_) rfl (fun x hx=> ⟨?_,OsAt.blk _ us F2 o1 x hx⟩) (fun imm' H' hi hH=> ⟨nd,OsAt.go hi _ us F2 o1 hH⟩)
 · rcases List.mem_cons.1 hx with rfl|hx
   ·exact⟨_,hb,rfl,rfl⟩
   · rcases List.mem_cons.1 hx with rfl|hx
     ·exact⟨_,hgk,rfl,rfl⟩
     ·rw [List.mem_singleton.1 hx];exact⟨_,hg,rfl,rfl⟩
 · rcases List.mem_append.1 ((o2.mem_iff).1 hx)with hx|hx
   · rcases List.mem_cons.1 hx with rfl|hx
     ·exact⟨b,by simp,_,Lb,hb,b1,rfl⟩
     ·exact⟨gk,by simp,_,Lk,hgk,k1,hx⟩
   ·exact⟨g,by simp,_,Lg,hg,g1,hx⟩
theorem aA4 {h h':Hp}{b k g:Nat}{us:List (Nat×Nat)}{op n:Int}{ts:List XT}{ps:List Pat}{len:Nat}{ex:Bool}{pv:AV}(hb:h.look b=some (ndC op n (.gl k 1 0 len ex) pv))(hlen:len=ts.length)(hp:∀E v,VR E pv v→VR E (.ilst 4 (Pats.av ps) false) v)
  (hk:h.look k=some (.lst 1 (vls us))) (hg:h.look g=some (.zone true [] (ZV us (ts.map some)))) (hn:h.nb<h'.nb)
  (hl:∀x o,h'.look x=some o→ (x=h.nb∧o= .zone true [b] (Z1 (.mk op n ts ps))) ∨ (x=b∧o=gh) ∨ (x∉ [b,k,g] ∧h.look x=some o)) :iG h h':=fun E w r=>by
 obtain⟨Lb,b1,b2⟩ :=r.obj b _ hb;obtain⟨Lg,g1,g2⟩ :=r.obj g _ hg;obtain⟨Gs,n2,hnd,hos⟩ :=eY g2;have hts:=os_ts.1 hos;have hul:=hts.len;have hbg:b≠g:=fun e=>by subst e;rw [hb]at hg;cases hg
 have hbk:b≠k:=fun e=>by subst e;rw [hb]at hk;cases hk
 have hkg:k≠g:=fun e=>by subst e;rw [hk]at hg;cases hg
 have d2:Lb.blk∉hR Lg.blk:=fun hh=>r.noMeet hb hg b1 g1 hbg rfl rfl ⟨_,rfl,hh⟩
 have hG:∀x∈ [b,k,g],∃o,h.look x=some o∧bQ o= [] ∧hU o=false:=fun x hx=>by
  rcases List.mem_cons.1 hx with rfl|hx
  ·exact⟨_,hb,rfl,rfl⟩
  · rcases List.mem_cons.1 hx with rfl|hx
    ·exact⟨_,hk,rfl,rfl⟩
    ·rw [List.mem_singleton.1 hx];exact⟨_,hg,rfl,rfl⟩
 have hl':∀x o,h'.look x=some o→ (x=h.nb∧o= .zone true [b] (Z1 (.mk op n ts ps))) ∨ (x∈ [b,k,g] ∧o=gh∧∃L,E x=some L) ∨ (x∉ [b,k,g] ∧h.look x=some o) :=fun x o e=>by
  rcases hl x o e with g| ⟨rfl,rfl⟩ |g
  ·exact .inl g
  ·exact .inr (.inl ⟨by simp,rfl,Lb,b1⟩)
  ·exact .inr (.inr g)
 obtain⟨C,e,kv,p,c1,c2,c3,c4,c5,c6,c7,c8⟩ :=aH7 b2;simp only [VR]at c6;by_cases hne:ts= []
 · subst hne;simp only [length_nil]at hlen;subst hlen
   have hT:∀ (imm':Imm) (H':Array Obj),Imm.le E.imm imm'→ (∀i∈ [Lb.blk],H'[i]?=w.heap[i]?) →Z1 (.mk op n [] ps) [Lb.blk] (map (fun K=> (K.blk,K.sh,K.sz)) [Lb]) imm' H':=fun imm' H' hi hH=>by
    refine⟨List.nodup_cons.2 ⟨by simp,nodup_nil⟩,_,rfl,?_⟩;simp only [TAt];refine⟨C,e,kv,p,[],by rw [hH _ (by simp)];exact c1,c3,c4,c5,c7,(VR.emI (by simp [keyless]) (hp E p c8)).mono (aB0 hi),rfl,.inl ⟨trivial,rfl,?_⟩⟩;rcases c6 with⟨_,a,ha⟩ | ⟨L,a,cap,_,h2,_⟩
    ·exact .inl ⟨a,ha⟩
    ·exact .inr ⟨(L.blk,a),cap,h2⟩
   exact rJ r [b,k,g] (Ls:=[Lb]) hn hl' hG (by simp only [map_cons,map_nil,List.cons.injEq,and_true];exact b1) (fun x hx=>by
    rw [List.mem_singleton]at hx;subst hx;exact⟨⟨b,by simp,_,Lb,hb,b1,rfl⟩,C,e,c1⟩) hT
 · have hu:jK (.lst 1 (vls us)) =false:=by
    cases us with
    |nil=>exact absurd (List.length_eq_zero_iff.1 hul.symm) hne
    |cons u us=>rfl
   obtain⟨Lk,k1,Ck,el,vs,x1,x2,x3,x4,x5⟩ :=r.obj k _ hk hu;have x3:=vls_vrs.1 x3;subst x3;have d1:Lk.blk∉hR Lg.blk:=fun hh=>r.noMeet hk hg k1 g1 hkg rfl rfl ⟨_,rfl,hh⟩;have d3:Lb.blk≠Lk.blk:=fun hh=>r.noMeet hb hk b1 k1 hbk rfl rfl ⟨_,hh,rfl⟩
   have hrow:bN ts (Lk.blk::hR Lg.blk) [(Lk.blk,Lk.sh,Lk.sz)] E.imm w.heap:= ⟨List.nodup_cons.2 ⟨d1,hnd⟩,_,rfl,.inr ⟨Ck,el,us,_,hne,rfl,x1,x2,fun j hj=>by
    have:=x5 j (by rw [length_map];omega);rw [this,lB],hts⟩⟩
   have hT:=aPV k1 b2 hlen hp hrow;refine rJ r [b,k,g] (Ls:=[Lb]) (F:=Lb.blk:: (Lk.blk::hR Lg.blk)) hn hl' hG (by simp only [map_cons,map_nil,List.cons.injEq,and_true];exact b1) (fun x hx=>?_) (fun imm' H' hi hH=> ⟨List.nodup_cons.2 ⟨?_,List.nodup_cons.2 ⟨d1,hnd⟩⟩,_,rfl,TAt.go hi _ _ _ hT hH⟩)
   · rcases List.mem_cons.1 hx with rfl|hx
     ·exact⟨⟨b,by simp,_,Lb,hb,b1,rfl⟩,C,e,c1⟩
     · rcases List.mem_cons.1 hx with rfl|hx
       ·exact⟨⟨k,by simp,_,Lk,hk,k1,rfl⟩,Ck,el,x1⟩
       ·exact⟨⟨g,by simp,_,Lg,hg,g1,hx⟩,TsAt.blk ts us _ hts x hx⟩
   · intro hx;rcases List.mem_cons.1 hx with hx|hx
     ·exact d3 hx
     ·exact d2 hx
theorem aT2 {h h':Hp}{b:Nat}{op n:Int}{ps:List Pat}{kv pv:AV}(hb:h.look b=some (ndC op n kv pv))(hk:∀E v,VR E kv v→∃a,v= .slice a 0 0)(hp:∀E v,VR E pv v→VR E (.ilst 4 (Pats.av ps) false) v)(hn:h.nb<h'.nb)
  (hl:∀x o,h'.look x=some o→ (x=h.nb∧o= .zone true [b] (Z1 (.mk op n [] ps))) ∨ (x=b∧o=gh) ∨ (x∉ [b] ∧h.look x=some o)) :iG h h':=fun E w r=>by
 obtain⟨Lb,b1,b2⟩ :=r.obj b _ hb;obtain⟨C,e,k,p,c1,c2,c3,c4,c5,c6,c7,c8⟩ :=aH7 b2;obtain⟨a,ha⟩ :=hk E k c6
 have hT:∀ (imm':Imm) (H':Array Obj),Imm.le E.imm imm'→ (∀i∈ [Lb.blk],H'[i]?=w.heap[i]?) →Z1 (.mk op n [] ps) [Lb.blk] (map (fun K=> (K.blk,K.sh,K.sz)) [Lb]) imm' H':=fun imm' H' hi hH=>by
  refine⟨List.nodup_cons.2 ⟨by simp,nodup_nil⟩,_,rfl,?_⟩;simp only [TAt];exact⟨C,e,k,p,[],by rw [hH _ (by simp)];exact c1,c3,c4,c5,c7,(VR.emI (by simp [keyless]) (hp E p c8)).mono (aB0 hi),rfl,.inl ⟨trivial,rfl,.inl ⟨a,ha⟩⟩⟩
 exact rJ r [b] (rs:=[b]) (Ls:=[Lb]) hn (fun x o e=>by
  rcases hl x o e with g| ⟨rfl,rfl⟩ |g
  ·exact .inl g
  ·exact .inr (.inl ⟨by simp,rfl,Lb,b1⟩)
  · exact .inr (.inr g)) (fun x hx=>by rw [List.mem_singleton.1 hx];exact⟨_,hb,rfl,rfl⟩) (by simp only [map_cons,map_nil,List.cons.injEq,and_true];exact b1) (fun x hx=>by
    rw [List.mem_singleton]at hx;subst hx;exact⟨⟨b,by simp,_,Lb,hb,b1,rfl⟩,C,e,c1⟩) hT
theorem aB2 {E:Emb}{h h':Hp}{w:World}(r:Rel E h w.heap)(G:List Nat){rs:List Nat}{Z:ZP}{F:List Nat}{Ls:List Loc}{kk:Nat}{ok:AObj}{Lk:Loc}(hn:h.nb<h'.nb)
  (hl:∀b o,h'.look b=some o→ (b=h.nb∧o= .zone true rs Z) ∨ (b=kk∧o=ok) ∨ (b∈G∧o=gh∧∃L,E b=some L) ∨ (b∉G∧h.look b=some o))
  (hG:∀b∈G,∃o,h.look b=some o∧bQ o= [] ∧hU o=false) (hrs:map E.loc rs=map some Ls)
  (hk1:kk∈G) (hk2:E kk=some Lk) (hk3:bQ ok= [] ∧hU ok=false) (hk4:OR E w.heap Lk ok) (hk5:∀i,Own ok Lk i→i∉F∧∃b∈G,∃o L,h.look b=some o∧E b=some L∧Own o L i)
  (hF:∀i∈F,(∃b∈G,∃o L,h.look b=some o∧E b=some L∧Own o L i) ∧∃C e,w.heap[i]?=some (.cells C e (0,0)))
  (hz:∀ (imm':Imm) (H':Array Obj),Imm.le E.imm imm'→ (∀i∈F,H'[i]?=w.heap[i]?) →Z F (map (fun K=> (K.blk,K.sh,K.sz)) Ls) imm' H') :
  ∃E',E.le E'∧Rel E' h' w.heap∧∀m,m≤h.nb→ExtM m E h w E' h' w:=by
 let E':=E.put h.nb ⟨hM F,0,0⟩
 have eo:∀ {b},b≠h.nb→E' b=E b:=fun hb=>Emb.put_ne _ _ hb;have hle:E.le E':=Emb.le_put (r.fresh _ (le_refl _));have hGb:∀b∈G,b<h.nb:=fun b hb=>by obtain⟨o,e,_⟩ :=hG b hb;exact r.keys b o e
 have hkb:=hGb kk hk1;have hzone:OR E' w.heap ⟨hM F,0,0⟩ (.zone true rs Z) :=tI (rX hle.1 hrs) (fun i hi=> (hF i hi).2) hz
 obtain ⟨q1,q2,q3⟩ :=r.swap (E':=E') (h':=h') (fun b=>b∉G) (le_of_lt hn) (fun b hb=>eo (by omega)) rfl (fun b hb=>by rw [eo (by omega)];exact r.fresh b (by omega))
  (fun b o e hb=>by
   have hb:=Classical.not_not.1 hb;obtain⟨o',e',h1,h2⟩ :=hG b hb;rw [e]at e';cases e';exact⟨h1,h2⟩)
  (fun b o e=>by
   have old:∀ {b},b∈G→b<h.nb→¬ (fun b=>b∉G) b∧∃o0,h.look b=some o0:=fun {b} h1 _=> ⟨fun hh=>hh h1,by obtain⟨o',e',_⟩ :=hG b h1;exact⟨o',e'⟩⟩;rcases hl b o e with⟨rfl,rfl⟩ | ⟨rfl,rfl⟩ | ⟨h1,rfl,L,h2⟩ | ⟨h1,h2⟩
   · refine .inr ⟨hn,rfl,rfl,fun hh=>absurd hh (lt_irrefl _),_,Emb.put_same _ _ _,hzone,fun i hi=>?_⟩;obtain⟨⟨b0,h0,o0,L0,a1,a2,a3⟩,_⟩ :=hF i (zone_own.1 hi);exact⟨b0,o0,L0,fun hh=>hh h0,a1,a2,a3⟩
   · refine .inr ⟨by omega,hk3.1,hk3.2,old hk1,Lk,by rw [eo (by omega)];exact hk2,hk4.mono hle,fun i hi=>?_⟩;obtain⟨_,b0,h0,o0,L0,a1,a2,a3⟩ :=hk5 i hi;exact⟨b0,o0,L0,fun hh=>hh h0,a1,a2,a3⟩
   · have:=hGb b h1;exact .inr ⟨by omega,rfl,rfl,old h1,L,by rw [eo (by omega)];exact h2,aPU,fun i hi=>absurd hi jY⟩
   ·exact .inl ⟨h1,h2⟩)
  (fun b b' o o' L L' n1 n2 e e' k k' hbb hm=>by
   obtain⟨i,i1,i2⟩ :=hm;have lz:∀ {L:Loc},E' h.nb=some L→L= ⟨hM F,0,0⟩ :=fun hh=>by rw [Emb.put_same]at hh;cases hh;rfl
   have lk:∀ {L:Loc},E' kk=some L→L=Lk:=fun hh=>by rw [eo (by omega),hk2]at hh;cases hh;rfl
   rcases hl b o e with⟨rfl,rfl⟩ | ⟨rfl,rfl⟩ | ⟨_,rfl,_⟩ |h3
   · rcases hl b' o' e' with⟨rfl,rfl⟩ | ⟨rfl,rfl⟩ | ⟨_,rfl,_⟩ |h3
     ·exact hbb rfl
     · rw [lz k]at i1;rw [lk k']at i2;exact(hk5 i i2).1 (zone_own.1 i1)
     ·exact jY i2
     ·exact n2 h3
   · rcases hl b' o' e' with⟨rfl,rfl⟩ | ⟨rfl,rfl⟩ | ⟨_,rfl,_⟩ |h3
     · rw [lk k]at i1;rw [lz k']at i2;exact(hk5 i i1).1 (zone_own.1 i2)
     ·exact hbb rfl
     ·exact jY i2
     ·exact n2 h3
   ·exact jY i1
   ·exact n1 h3)
 exact⟨E',q1,q2,q3⟩
theorem aH8 {E:Emb}{H:Array Obj}{L:Loc}{C:Array Value}{el:TypeId}{us:List (Nat×Nat)}(h1:H[L.blk]?=some (.cells C el (0,0)))(h2:C.size=L.sz)(h3:∀j,j<us.length→C[L.sh+j]?= (us.map adr)[j]?) :OR E H L (.lst 1 (vls us)) :=
 ⟨C,el,us.map adr,h1,h2,vls_vrs.2 rfl,fun u hu=>by obtain⟨a,_,rfl⟩ :=List.mem_map.1 hu;exact aH6 a,fun j hj=>by rw [lB];exact h3 j (by rw [length_map]at hj;omega)⟩
theorem rK {h:Hp}{h':List (Nat×Nat) →Hp}{k g:Nat}{o:AObj}{ts:List XT}(hk:h.look k=some o)(ho:o=gh)(hg:h.look g=some (.zone true [k] (bN ts)))(hne:ts≠ [])(hn:∀us,h.nb< (h' us).nb)
  (hl:∀us b o,(h' us).look b=some o→ (b=h.nb∧o= .zone true [] (ZV us (ts.map some))) ∨ (b=k∧o= .lst 1 (vls us)) ∨ (b∉ [k,g] ∧h.look b=some o)) :aAa h (fun us=>us.length=ts.length) h':=fun E w r=>by
 subst ho;obtain⟨Lg,g1,g2⟩ :=r.obj g _ hg;obtain⟨Ls,n1,hnd,K,hK,hz⟩ :=eY g2;obtain⟨Lk,rfl⟩ :∃Lk,Ls= [Lk] :=by
  match Ls,hK with
  | [x],_=>exact⟨x,rfl⟩
 simp only [map_cons,map_nil,List.cons.injEq,and_true]at n1 hK;subst hK;rcases hz with⟨hh,_⟩ | ⟨C,e,us,Fr,_,z2,z3,z4,z5,z6⟩
 ·exact absurd hh hne
 · rw [z2]at hnd;obtain⟨nd1,nd2⟩ :=List.nodup_cons.1 hnd;simp only at z3 z4 z5 nd1 z2;have hul:=z6.len
   obtain⟨E',q1,q2,q3⟩ :=aB2 (h':=h' us) r [k,g] (rs:=[]) (Z:=ZV us (ts.map some)) (F:=Fr) (Ls:=[]) (kk:=k) (ok:=.lst 1 (vls us)) (Lk:=Lk) (hn us) (fun b o e=>by
    rcases hl us b o e with g|g|g
    ·exact .inl g
    ·exact .inr (.inl g)
    · exact .inr (.inr (.inr g))) (fun b hb=>by
      rcases List.mem_cons.1 hb with rfl|hb
      ·exact⟨_,hk,rfl,rfl⟩
      ·rw [List.mem_singleton.1 hb];exact⟨_,hg,rfl,rfl⟩) rfl (by simp) n1 ⟨rfl,rfl⟩ (aH8 z3 z4 (fun j hj=>z5 j (by omega))) (fun i hi=>by
      obtain rfl:Lk.blk=i:=hi;exact⟨nd1,g,by simp,_,Lg,hg,g1,by show _∈hR Lg.blk;rw [z2];simp⟩) (fun i hi=> ⟨⟨g,by simp,_,Lg,hg,g1,by show _∈hR Lg.blk;rw [z2];simp [hi]⟩,TsAt.blk ts us Fr z6 i hi⟩)
      (fun imm' H' hi hH=> ⟨nd2,os_ts.2 (TsAt.go hi ts us Fr z6 hH)⟩)
   exact⟨us,E',hul,q1,q2,q3⟩
theorem aH9 {h:Hp}{h':Nat×Nat→Hp}{k g gz z:Nat}{us:List (Nat×Nat)}{ts:List (Option XT)}{i:Nat}{t:XT}(hk:h.look k=some (.lst 1 ((vls us).set i (.ptr z 0))))(hg:h.look g=some (.zone true [] (ZV us ts)))(hz:h.look gz=some (.zone true [z] (Z1 t)))(ht:ts[i]?=some none)(hne:g≠gz)(hn:∀u,h.nb< (h' u).nb)
  (hl:∀u b o,(h' u).look b=some o→ (b=h.nb∧o= .zone true [] (ZV (us.set i u) (ts.set i (some t)))) ∨ (b=k∧o= .lst 1 (vls (us.set i u))) ∨ (b∉ [k,g,gz] ∧h.look b=some o)) :aAa h (fun _=>True) h':=fun E w r=>by
 obtain⟨Lg,g1,g2⟩ :=r.obj g _ hg;obtain⟨Ls,_,hnd,hos⟩ :=eY g2;obtain⟨Lz,z1,z2⟩ :=r.obj gz _ hz;obtain⟨Zs,n1,zd,K,hK,hT⟩ :=eY z2;obtain⟨Kz,rfl⟩ :∃Kz,Zs= [Kz] :=by
  match Zs,hK with
  | [x],_=>exact⟨x,rfl⟩
 simp only [map_cons,map_nil,List.cons.injEq,and_true]at n1 hK;subst hK;have hil:i<us.length:=by
  have:= (List.getElem?_eq_some_iff.1 ht).1;rw [hos.len];exact this
 have hu:jK (.lst 1 ((vls us).set i (.ptr z 0))) =false:=by
  cases us with
  |nil=>simp at hil
  |cons u us=>cases i<;>rfl
 obtain⟨Lk,k1,C,el,vs,x1,x2,x3,x4,x5⟩ :=r.obj k _ hk hu;have hvs:vs= (us.set i (Kz.blk,Kz.sh)).map adr:=by
  have:VRs E ((vls us).set i (.val (adr (Kz.blk,Kz.sh)))) vs:=by
   refine VRs.of_get (by rw [List.length_set,x3.length,List.length_set]) (fun j a ha=>?_);rw [getElem?_set]at ha;split at ha
   · rename_i hj;subst hj;have hjl:i< (vls us).length:=by simpa [vls]using hil
     rw [if_pos hjl]at ha;cases ha;obtain⟨v,v1,v2⟩ :=x3.get i (.ptr z 0) (by rw [getElem?_set,if_pos rfl,if_pos hjl]);simp only [VR]at v2 ⊢;obtain⟨L,l1,l2⟩ :=v2;rw [n1]at l1;cases l1;exact⟨v,v1,by rw [l2];rfl⟩
   · rename_i hj;exact x3.get j a (by rw [getElem?_set,if_neg hj];exact ha)
  have e: (vls us).set i (.val (adr (Kz.blk,Kz.sh))) =vls (us.set i (Kz.blk,Kz.sh)) :=by simp [vls,List.map_set]
  rw [e]at this;exact vls_vrs.1 this
 subst hvs;have hkg:k≠g:=fun e=>by subst e;rw [hk]at hg;cases hg
 have hkz:k≠gz:=fun e=>by subst e;rw [hk]at hz;cases hz
 have d1:Lk.blk∉hR Lg.blk:=fun hh=>r.noMeet hk hg k1 g1 hkg rfl rfl ⟨_,rfl,hh⟩;have d2:Lk.blk∉hR Lz.blk:=fun hh=>r.noMeet hk hz k1 z1 hkz rfl rfl ⟨_,rfl,hh⟩;have d3:∀x∈hR Lz.blk,x∉hR Lg.blk:=fun x h1 h2=>r.noMeet hg hz g1 z1 hne rfl rfl ⟨x,h2,h1⟩;obtain⟨F2,o1,o2⟩ :=hos.put ht hT;have nd:F2.Nodup:= (o2.nodup_iff).2 (List.nodup_append.2 ⟨zd,hnd,fun x hx y hy e=>by subst e;exact d3 x hx hy⟩)
 obtain ⟨E',q1,q2,q3⟩ :=aB2 (h':=h' (Kz.blk,Kz.sh)) r [k,g,gz] (rs:=[]) (Z:=ZV (us.set i (Kz.blk,Kz.sh)) (ts.set i (some t))) (F:=F2) (Ls:=[]) (kk:=k) (ok:=.lst 1 (vls (us.set i (Kz.blk,Kz.sh)))) (Lk:=Lk) (hn _) (fun b o e=>by
   rcases hl _ b o e with g|g|g
   ·exact .inl g
   ·exact .inr (.inl g)
   · exact .inr (.inr (.inr g))) (fun b hb=>by
     rcases List.mem_cons.1 hb with rfl|hb
     ·exact⟨_,hk,rfl,rfl⟩
     · rcases List.mem_cons.1 hb with rfl|hb
       ·exact⟨_,hg,rfl,rfl⟩
       ·rw [List.mem_singleton.1 hb];exact⟨_,hz,rfl,rfl⟩) rfl (by simp) k1 ⟨rfl,rfl⟩ (aH8 x1 x2 (fun j hj=>by have:=x5 j (by rw [length_map];omega);rw [this,lB])) (fun j hj=>by
     obtain rfl:Lk.blk=j:=hj;refine⟨fun hh=>?_,k,by simp,_,Lk,hk,k1,rfl⟩;rcases List.mem_append.1 ((o2.mem_iff).1 hh)with hh|hh
     ·exact d2 hh
     ·exact d1 hh) (fun j hj=>by
     refine⟨?_,OsAt.blk _ _ F2 o1 j hj⟩;rcases List.mem_append.1 ((o2.mem_iff).1 hj)with hh|hh
     ·exact⟨gz,by simp,_,Lz,hz,z1,hh⟩
     ·exact⟨g,by simp,_,Lg,hg,g1,hh⟩)
     (fun imm' H' hi hH=> ⟨nd,OsAt.go hi _ _ F2 o1 hH⟩)
 exact⟨_,E',trivial,q1,q2,q3⟩
theorem OsAt.add {imm:Imm}{H:Array Obj}{a:Nat×Nat}{t:XT}{F1:List Nat}(ht:TAt imm H a t F1) :∀ {ts:List (Option XT)} {us:List (Nat×Nat)} {F:List Nat},OsAt imm H us ts F→OsAt imm H (us++ [a]) (ts++ [some t]) (F++F1)
 | [],us,F,h=>by
  simp only [OsAt]at h;obtain⟨rfl,rfl⟩ :=h;simp only [List.nil_append,OsAt];exact⟨a,[],F1,[],rfl,by simp,ht,rfl,rfl⟩
 | some t'::ts,us,F,h=>by
  simp only [OsAt]at h;obtain⟨a',us',G1,G2,rfl,rfl,h3,h4⟩ :=h;simp only [List.cons_append,OsAt];exact⟨a',us'++ [a],G1,G2++F1,rfl,by simp,h3,OsAt.add ht h4⟩
 | none::ts,us,F,h=>by
  simp only [OsAt]at h;obtain⟨a',us',rfl,h4⟩ :=h;simp only [List.cons_append,OsAt];exact⟨a',us'++ [a],rfl,OsAt.add ht h4⟩
theorem aDl {h:Hp}{h':Nat×Nat→Hp}{k g gz z:Nat}{us:List (Nat×Nat)}{ts:List (Option XT)}{t:XT}(hk:h.look k=some (.lst 1 (vls us++ [.ptr z 0])))(hg:h.look g=some (.zone true [] (ZV us ts)))(hz:h.look gz=some (.zone true [z] (Z1 t)))(hne:g≠gz)(hn:∀u,h.nb< (h' u).nb)
  (hl:∀u b o,(h' u).look b=some o→ (b=h.nb∧o= .zone true [] (ZV (us++ [u]) (ts++ [some t]))) ∨ (b=k∧o= .lst 1 (vls (us++ [u]))) ∨ (b∉ [k,g,gz] ∧h.look b=some o)) :aAa h (fun _=>True) h':=fun E w r=>by
 obtain⟨Lg,g1,g2⟩ :=r.obj g _ hg;obtain⟨Ls,_,hnd,hos⟩ :=eY g2;obtain⟨Lz,z1,z2⟩ :=r.obj gz _ hz;obtain⟨Zs,n1,zd,K,hK,hT⟩ :=eY z2;obtain⟨Kz,rfl⟩ :∃Kz,Zs= [Kz] :=by
  match Zs,hK with
  | [x],_=>exact⟨x,rfl⟩
 simp only [map_cons,map_nil,List.cons.injEq,and_true]at n1 hK;subst hK;have hu:jK (.lst 1 (vls us++ [.ptr z 0])) =false:=by cases us<;>rfl
 obtain⟨Lk,k1,C,el,vs,x1,x2,x3,x4,x5⟩ :=r.obj k _ hk hu;have hvs:vs= (us++ [(Kz.blk,Kz.sh)]).map adr:=by
  have h1:= (x3.take us.length);have h2:= (x3.drop us.length);have hl: (vls us).length=us.length:=by simp [vls]
  rw [←hl,List.take_left]at h1;rw [←hl,List.drop_left]at h2;rw [hl]at h1 h2;have h1:=vls_vrs.1 h1;obtain⟨v,vs',e,q1,q2⟩ :=h2.cons_inv;have:=q2.nil_inv;subst this;simp only [VR]at q1;obtain⟨L,l1,l2⟩ :=q1;rw [n1]at l1;cases l1;rw [←List.take_append_drop us.length vs,h1,e,l2];simp [adr]
 subst hvs;have hkg:k≠g:=fun e=>by subst e;rw [hk]at hg;cases hg
 have hkz:k≠gz:=fun e=>by subst e;rw [hk]at hz;cases hz
 have d1:Lk.blk∉hR Lg.blk:=fun hh=>r.noMeet hk hg k1 g1 hkg rfl rfl ⟨_,rfl,hh⟩;have d2:Lk.blk∉hR Lz.blk:=fun hh=>r.noMeet hk hz k1 z1 hkz rfl rfl ⟨_,rfl,hh⟩;have d3:∀x∈hR Lz.blk,x∉hR Lg.blk:=fun x h1 h2=>r.noMeet hg hz g1 z1 hne rfl rfl ⟨x,h2,h1⟩;have o1:=hos.add hT;have nd: (hR Lg.blk++hR Lz.blk).Nodup:=List.nodup_append.2 ⟨hnd,zd,fun x hx y hy e=>by subst e;exact d3 x hy hx⟩
 obtain ⟨E',q1,q2,q3⟩ :=aB2 (h':=h' (Kz.blk,Kz.sh)) r [k,g,gz] (rs:=[]) (Z:=ZV (us++ [(Kz.blk,Kz.sh)]) (ts++ [some t])) (F:=hR Lg.blk++hR Lz.blk) (Ls:=[]) (kk:=k) (ok:=.lst 1 (vls (us++ [(Kz.blk,Kz.sh)]))) (Lk:=Lk) (hn _) (fun b o e=>by
   rcases hl _ b o e with g|g|g
   ·exact .inl g
   ·exact .inr (.inl g)
   · exact .inr (.inr (.inr g))) (fun b hb=>by
     rcases List.mem_cons.1 hb with rfl|hb
     ·exact⟨_,hk,rfl,rfl⟩
     · rcases List.mem_cons.1 hb with rfl|hb
       ·exact⟨_,hg,rfl,rfl⟩
       ·rw [List.mem_singleton.1 hb];exact⟨_,hz,rfl,rfl⟩) rfl (by simp) k1 ⟨rfl,rfl⟩ (aH8 x1 x2 (fun j hj=>by have:=x5 j (by rw [length_map];omega);rw [this,lB])) (fun j hj=>by
     obtain rfl:Lk.blk=j:=hj;refine⟨fun hh=>?_,k,by simp,_,Lk,hk,k1,rfl⟩;rcases List.mem_append.1 hh with hh|hh
     ·exact d1 hh
     ·exact d2 hh) (fun j hj=>by
     refine⟨?_,OsAt.blk _ _ _ o1 j hj⟩;rcases List.mem_append.1 hj with hh|hh
     ·exact⟨g,by simp,_,Lg,hg,g1,hh⟩
     ·exact⟨gz,by simp,_,Lz,hz,z1,hh⟩)
     (fun imm' H' hi hH=> ⟨nd,OsAt.go hi _ _ _ o1 hH⟩)
 exact⟨_,E',trivial,q1,q2,q3⟩
def snap (H:Array Obj) :Imm:=fun k=>match H[k]? with
 |some (.cells C _ _) =>some C
 |_=>none
theorem xH {H:Array Obj}{k:Nat}{C:Array Value}{e:TypeId}{f:Nat×Nat}(h:H[k]?=some (.cells C e f)) :snap H k=some C:=by
 unfold snap;rw [h]
theorem aKr {H:Array Obj}{k:Nat}{C:Array Value}(h:snap H k=some C) :∃e f,H[k]?=some (.cells C e f) :=by
 unfold snap at h;split at h
 ·rename_i C' e f he;cases h;exact⟨e,f,he⟩
 ·cases h
theorem Rel.snap {E:Emb}{h:Hp}{H:Array Obj}(r:Rel E h H) :Imm.le E.imm (snap H) :=fun k C e=>by
 obtain⟨el,f,g⟩ :=r.imm k C e;exact xH g
mutual
theorem aKs {imm:Imm}{H:Array Obj}(hi:Imm.le imm (snap H)) :∀ (t:XT) (a:Nat×Nat) (F:List Nat),TAt imm H a t F→VR (emI (snap H)) (XT.av t) (adr a)
 | .mk o n ks ps,a,F,h=>by
  simp only [TAt]at h;obtain⟨C,e,kv,pv,Fk,h1,h2,h3,h4,h5,h6,rfl,h8⟩ :=h;have hkv:VR (emI (snap H)) (.ilst 1 (XTs.av ks) false) kv:=by
   rcases h8 with⟨rfl,rfl,x⟩ | ⟨b,cap,Ck,ek,ad,Fr,g1,g0,g2,g3,g4,g5,g6,g7,g8⟩
   · simp only [VR];refine⟨[],VRs.nil _,fun _ hu=>by(cases hu),.inl ⟨rfl,?_⟩⟩;rcases x with⟨b,rfl⟩ | ⟨b,cap,rfl⟩
     ·exact⟨b,0,rfl,fun _=>rfl,fun h=>by(cases h)⟩
     ·exact⟨_,cap,rfl,fun h=>by(cases h),fun h=>by(cases h)⟩
   · simp only [VR];have hl: (ad.map adr).length=ks.length:=by rw [length_map,g5]
     refine⟨ad.map adr,aGy hi ks ad Fr g8,fun u hu=>by obtain⟨x,_,rfl⟩ :=List.mem_map.1 hu;exact aH6 x,.inr ⟨b.1,b.2,cap,Ck,by rw [hl];exact g1,xH g4,by rw [hl];exact g2,fun h=>by(cases h),fun j hj=>?_⟩⟩;rw [hl,mul_one]at hj;rw [lB];exact g6 j hj
  simp only [XT.av,VR];refine⟨[.int .i64 o,.int .i64 n,kv,pv],VRs.cons (by simp only [VR]) (VRs.cons (by simp only [VR]) (VRs.cons hkv (VRs.cons (h6.mono (aB0 hi)) (VRs.nil _)))),a.1,a.2,C,rfl,xH h1,fun j hj=>?_⟩
  match j,hj with
  |0,_=>exact h2
  |1,_=>exact h3
  |2,_=>exact h4
  |3,_=>exact h5
  |j+4,hj=>simp at hj;omega
theorem aGy {imm:Imm}{H:Array Obj}(hi:Imm.le imm (snap H)) :∀ (ts:List XT) (ad:List (Nat×Nat)) (F:List Nat),TsAt imm H ad ts F→VRs (emI (snap H)) (XTs.av ts) (ad.map adr)
 | [],ad,F,h=>by simp only [TsAt]at h;rw [h.1];exact VRs.nil _
 | t::ts,ad,F,h=>by
  simp only [TsAt]at h;obtain⟨a,ad',F1,F2,rfl,rfl,h3,h4⟩ :=h;exact VRs.cons (aKs hi t a F1 h3) (aGy hi ts ad' F2 h4)
end
def aEN (v:AV) :Prop:=∀E E' cv,VR E v cv→VR E' v cv
theorem aT3 {k:IntKind}{n:Int}:aEN (.int k n) :=fun E E' cv h=>by simpa only [VR]using h
theorem aQ6 :aEN .nili:=fun E E' cv h=>by simpa only [VR]using h
theorem aEO {t:Nat}{v:AV}(hv:aEN v) :aEN (.iface t v) :=fun E E' cv h=>by
 simp only [VR]at h ⊢;obtain⟨u,h1,h2⟩ :=h;exact⟨u,h1,hv E E' u h2⟩
theorem aQ7 :aEN (.agg []) :=fun E E' cv h=>by simpa only [VR,VRs]using h
theorem aKt {f:Nat}{args argsB:List AV}{v:AV}{h:Hp}(hp:aJ P f argsB v)(hf:aEN v)(hlen:args.length=argsB.length)
  (ha:∀ (E:Emb) (H:Array Obj) (cargs:List Value),Rel E h H→VRs E args cargs→VRs (emI (snap H)) argsB cargs) :Spec P (.enter f args) h (.ret v) h:=by
 obtain⟨gB,hgB,he⟩ :=hp ⟨.leaf,0⟩;simp only [dB,cL]at hgB;split at hgB
 · rename_i fn hfn;split at hgB
   · rename_i c hc;cases hgB;refine⟨⟨f,dA .leaf 0 args,max fn.ntmps args.length,[.code c],[],.run,.normal,none⟩,by simp [dB,cL,hfn,hc],fun hm E fr ccs w fr' fs r cl base=>?_⟩;simp only at fs;rw [fs.nil_inv]
     have hat:∀ {l:List AV} {t:Nat} {a:AV},(dA .leaf 0 l).at t=some a→l[t]?=some a:=fun {l t a} e=>by
      unfold dA at e;rw [aY]at e;split at e
      ·exact e
      ·cases e
     have hput:∀ {l:List AV} {t:Nat} {a:AV},l[t]?=some a→ (dA .leaf 0 l).at t=some a:=fun {l t a} e=>by
      unfold dA;rw [aY,if_pos (List.getElem?_eq_some_iff.1 e).1];exact e
     have hcl:∃cargs:List Value,VRs E args cargs∧∀ (t:Nat),t<args.length→fr.tmps[t]?=cargs[t]?:=by
      have hsz:args.length≤fr.tmps.size:=by have:=fr'.tm.1;simp only at this;omega
      refine⟨(fr.tmps.toList.take args.length),VRs.of_get (by simp;omega) (fun i a hi=>?_),fun t ht=>?_⟩
      · have hlt:= (List.getElem?_eq_some_iff.1 hi).1;obtain⟨cv,g1,g2⟩ :=fr'.tm.2 i a (hput hi);exact⟨cv,by rw [List.getElem?_take_of_lt hlt,Array.getElem?_toList];exact g1,g2⟩
      ·rw [List.getElem?_take_of_lt ht,Array.getElem?_toList]
     obtain⟨cargs,c1,c2⟩ :=hcl;have c3:=ha E w.heap cargs r c1;have f1:FR (emI (snap w.heap)) ⟨f,dA .leaf 0 argsB,max fn.ntmps argsB.length,[.code c],[],.run,.normal,none⟩ fr:=by
      refine⟨fr'.fn,⟨by have:=fr'.tm.1;rw [←hlen];exact this,fun t a e=>?_⟩,?_,?_,fr'.mode,fr'.kind,?_⟩
      · have h1:=hat e;have hlt:= (List.getElem?_eq_some_iff.1 h1).1;obtain⟨cv,g1,g2⟩ :=c3.get t a h1;exact⟨cv,by rw [c2 t (by omega)];exact g1,g2⟩
      ·have:=fr'.todo;simpa [IRs,IR]using this
      ·have:=fr'.defers;simpa [DRs]using this
      ·have:=fr'.round;simpa [RR]using this
     have r0:Rel (emI (snap w.heap)) ⟨.leaf,0⟩ w.heap:= ⟨fun b o e=>by simp [Hp.look,T.at_leaf]at e,fun b b' o o' L L' e=>by simp [Hp.look,T.at_leaf]at e,fun _ _=>rfl,fun k C e=>aKr e,fun b o L e=>by simp [Hp.look,T.at_leaf]at e,fun b o e=>by simp [Hp.look,T.at_leaf]at e⟩;obtain⟨cl',w',E',g1,⟨cv,rfl,g2⟩,g3,x⟩ :=he (Nat.zero_le _) (emI (snap w.heap)) fr [] w f1 rfl r0 cl base;have keep:∀i,i<w.heap.size→w'.heap[i]?=w.heap[i]?:=fun i hi=>x.keep i hi (fun b o L e=>by simp [Hp.look,T.at_leaf]at e);refine⟨_,w',E,g1,⟨cv,rfl,hf E' E cv g2⟩,⟨fun b o e=>?_,r.kin,r.fresh,fun k C e=>?_,r.apart,r.keys⟩,⟨fun _ _=>rfl,fun _ _ e=>e,x.size,fun i hi _=>keep i hi,fun b o L e k i hi _=> ⟨b,o,L,e,k,hi⟩,hm,x.os,x.tape,x.output,x.froz,fun k C e _=>.inl e,fun b o e _=> ⟨o,e⟩⟩⟩
     · rcases r.obj0 b o e with u| ⟨L,g1,g2⟩
       ·exact .inl u
       ·exact .inr ⟨L,g1,g2.heap fun i hi=>keep _ (g2.lt i hi)⟩
     · obtain⟨e1,f1,g⟩ :=r.imm k C e;exact⟨e1,f1,by rw [keep k (Array.getElem?_eq_some_iff.1 g).1];exact g⟩
   ·cases hgB
 ·cases hgB
def aO (a:Nat×Nat) :AV:=.val (adr a)
theorem aEP (τ:Nat→Nat) :∀us:List (Nat×Nat),renL τ (map aO us) =map aO us
 | [] =>rfl
 |u::us=>by rw [map_cons,renL,aEP τ us];rfl
theorem aZd {τ:Nat→Nat}{z z':Nat}(us:List (Nat×Nat))(hz:τ z'=z) :renL τ (map aO us++ [.ptr z' 0]) =map aO us++ [.ptr z 0] :=by
 rw [aCE,aEP,←hz];rfl
theorem aKu (τ:Nat→Nat) :∀ (xs:List AV) (i:Nat) (a:AV),renL τ (xs.set i a) = (renL τ xs).set i (ren τ a)
 | [],_,_=>rfl
 |x::xs,0,a=>rfl
 |x::xs,i+1,a=>by simp only [set_cons_succ,renL,aKu τ xs i a]
theorem aT4 {τ:Nat→Nat}{z z':Nat}(us:List (Nat×Nat))(i:Nat)(hz:τ z'=z) :renL τ ((map aO us).set i (.ptr z' 0)) = (map aO us).set i (.ptr z 0) :=by
 rw [aKu,aEP,←hz];rfl
theorem wc {α:Type}{a b:α}{l k:List α}(h:a=b)(g:l=k) :a::l=b::k:=by rw [h,g]
theorem wn {α:Type}: ([] :List α) = [] :=rfl
theorem aA5 {τ:Nat→Nat}{z z':Nat}{us:List (Nat×Nat)}(hz:τ z'=z) :some (bif false then AObj.lst 1 (map aO us++ [.ptr z' 0])else(AObj.lst 1 (map aO us++ [.ptr z' 0])).ren τ) =some (AObj.lst 1 (map aO us++ [.ptr z 0])) :=by
 show some (AObj.lst 1 (renL τ _)) =_;rw [aZd us hz]
theorem xI {τ:Nat→Nat}{z z':Nat}{us:List (Nat×Nat)}{i:Nat}(hz:τ z'=z) :some (bif false then AObj.lst 1 ((map aO us).set i (.ptr z' 0))else(AObj.lst 1 ((map aO us).set i (.ptr z' 0))).ren τ) =some (AObj.lst 1 ((map aO us).set i (.ptr z 0))) :=by
 show some (AObj.lst 1 (renL τ _)) =_;rw [aT4 us i hz]
theorem jZ {m:Nat}{is:List Ins}{s t:TS}{ks:List Nat}{n1:Nat}{ps:List Prop}{W:List (Option AObj)}(hW:gK (eR m t.nb n1 ks) t.hp=W)(h0:way P m is s t ks=some (n1,⟨aEp (eR m t.nb n1 ks) t.fr,t.cs.length,t.cs.map (aEp (eR m t.nb n1 ks)),W⟩,ps))(hok:cT m t ks=true)(hkl:eF t.hp)(hp:AllP ps) :LeadsM P m s.as t.as:=
 aQW (n1:=n1) (ks:=ks) (by rw [h0,←hW];rfl) hok hkl hp
theorem aKv {m:Nat}{is:List Ins}{s:TS}{hp:List (Nat×AObj×Bool)}{nb:Nat}{ks:List Nat}{n1:Nat}{v:AV}{ps:List Prop}{W:List (Option AObj)}(hW:gK (eR m nb n1 ks) hp=W)(h0:bDc P m is s hp nb ks=some (n1,ren (eR m nb n1 ks) v,W,ps))
  (hok:cT m ⟨⟨0,0,[],[],[],.run,.normal,none⟩,[],hp,nb⟩ ks=true) (hkl:eF hp) (hps:AllP ps) :Ends P m s.as (.ret v) (aA hp nb) :=
 aM6 (n1:=n1) (ks:=ks) (by rw [h0,←hW]) hok hkl hps
theorem aEQ {us:List (Nat×Nat)}:0+length us≤length (map aO us) :=by simp
theorem aNp {us:List (Nat×Nat)}{z:Nat}:take (length us) (drop 0 (map aO us)) ++ [ptr z 0] =map aO us++ [.ptr z 0] :=by
 rw [List.drop_zero,List.take_of_length_le (by simp)]
theorem aNq {us:List (Nat×Nat)}{z:Nat}:length us+length [ptr z 0] =length us+1:=rfl
theorem bDj {us:List (Nat×Nat)}:take (length ([] :List (Nat×Nat))) (drop 0 (map aO ([] :List (Nat×Nat)))) ++take (length us) (drop 0 (map aO us)) =map aO us:=by
 show [] ++take us.length (map aO us) =_;rw [List.nil_append,List.take_of_length_le (by simp)]
theorem aT5 (xs:List AV)(i:Nat)(a:AV) :xs.set (0+i) a=xs.set i a:=by rw [Nat.zero_add]
theorem aB3 {h h':Hp}{g:Nat}{rs rs':List Nat}{Z Z':ZP}(hg:h.look g=some (.zone true rs Z))(hr:rs'= [] ∨rs'=rs)
  (hz:∀F Ks imm H,Z F Ks imm H→Z' F (if rs'= []then []else Ks) imm H) (hn:h.nb<h'.nb)
  (hl:∀x o,h'.look x=some o→ (x=h.nb∧o= .zone true rs' Z') ∨ (x≠g∧h.look x=some o)) :iG h h':=fun E w r=>by
 obtain⟨Lg,g1,g2⟩ :=r.obj g _ hg;obtain⟨hF,Ls,n2,z2⟩ :=g2;refine rJ r [g] (rs:=rs') (Z:=Z') (Ls:=if rs'= []then []else Ls) (F:=hR Lg.blk) hn (fun x o e=>?_) (fun x hx=>?_) ?_ (fun i hi=> ⟨⟨g,by simp,_,Lg,hg,g1,hi⟩,hF i hi⟩) (fun imm' H' hi hH=>?_)
 · rcases hl x o e with h1| ⟨h1,h2⟩
   ·exact .inl h1
   ·exact .inr (.inr ⟨by simpa using h1,h2⟩)
 ·rw [List.mem_singleton.1 hx];exact⟨_,hg,rfl,rfl⟩
 · rcases hr with rfl|rfl
   ·rfl
   · by_cases e:rs'= []
     ·rw [if_pos e,e];rfl
     ·rw [if_neg e];exact n2
 · have:=hz _ _ _ _ (z2 imm' H' hi hH);by_cases e:rs'= []
   ·rw [if_pos e]at this ⊢;exact this
   ·rw [if_neg e]at this ⊢;exact this
theorem xJ {h h':Hp}{Z:ZP}(hz:∀imm H,Z [] [] imm H)(hn:h.nb<h'.nb)
  (hl:∀x o,h'.look x=some o→ (x=h.nb∧o= .zone true [] Z) ∨h.look x=some o) :iG h h':=fun E w r=>
 rJ r [] (rs:=[]) (Ls:=[]) (F:=[]) hn (fun x o e=> (hl x o e).imp id (fun h=>.inr ⟨by simp,h⟩)) (fun x hx=> (by cases hx)) rfl (fun i hi=> (by cases hi)) (fun imm' H' _ _=>hz imm' H')
theorem aPW {imm:Imm}{H:Array Obj}:∀us:List (Nat×Nat),OsAt imm H us (map (fun _=>none) us) []
 | [] =>by simp [OsAt]
 |u::us=>by simp only [map_cons,OsAt];exact⟨u,us,rfl,aPW us⟩
theorem aZe {us:List (Nat×Nat)}{imm:Imm}{H:Array Obj}:ZV us (map (fun _=>none) us) [] [] imm H:= ⟨nodup_nil,aPW us⟩
theorem aIa {us:List (Nat×Nat)}{ts:List (Option XT)}{i:Nat}{F:List Nat}{Ks:List (Nat×Nat×Nat)}{imm:Imm}{H:Array Obj}(h:cU us ts i F Ks imm H) :ZV us ts F [] imm H:= ⟨h.1,h.2.1⟩
end
abbrev RT :=XT
abbrev RT.mk (o n:Int)(ps:List Pat)(ks:List XT) :XT:=.mk o n ks ps
mutual
def RT.av :XT→AV
 | .mk o n ks ps=>.agg [.int .i64 o,.int .i64 n,.ilst 4 (Pats.av ps) false,.ilst 4 (RTs.av ks) false]
def RTs.av :List XT→List AV
 | [] =>[]
 |p::ps=>RT.av p::RTs.av ps
end
theorem aQ :∀l,RTs.av l=map RT.av l
 | [] =>rfl
 |p::ps=>by rw [RTs.av,aQ ps];rfl
mutual
theorem oV :∀p,keyless (RT.av p) =true
 | .mk o n ps ks=>by simp [RT.av,keyless,keylessL]
theorem xK :∀l,keylessL (RTs.av l) =true
 | [] =>rfl
 |p::ps=>by rw [RTs.av,keylessL,oV p,xK ps];rfl
end
theorem dO {l:List RT}:keylessL (RTs.av l) =true:=xK l
def XT.op :XT→Int| .mk o _ _ _=>o
def XT.n :XT→Int| .mk _ n _ _=>n
def XT.kids :XT→List XT| .mk _ _ ks _=>ks
def XT.pats :XT→List Pat| .mk _ _ _ ps=>ps
structure Flow where
 binds:List XT
 last:XT
noncomputable def Flow.av (f:Flow) :AV:=.agg ([.ilst 4 (RTs.av f.binds) false] ++ (RT.av f.last).cells)
section
variable {P :Program}
mutual
theorem aZf {imm J:Imm}{H:Array Obj}(hi:Imm.le imm J) :∀ (t:XT) (a:Nat×Nat) (F:List Nat),TAt imm H a t F→ (∀i∈F,∀C e f,H[i]?=some (.cells C e f) →J i=some C) →VR (emI J) (XT.av t) (adr a)
 | .mk o n ks ps,a,F,h,hJ=>by
  simp only [TAt]at h;obtain⟨C,e,kv,pv,Fk,h1,h2,h3,h4,h5,h6,rfl,h8⟩ :=h;have hkv:VR (emI J) (.ilst 1 (XTs.av ks) false) kv:=by
   rcases h8 with⟨rfl,rfl,x⟩ | ⟨b,cap,Ck,ek,ad,Fr,g1,g0,g2,g3,g4,g5,g6,rfl,g8⟩
   · simp only [VR];refine⟨[],VRs.nil _,fun _ hu=>by(cases hu),.inl ⟨rfl,?_⟩⟩;rcases x with⟨b,rfl⟩ | ⟨b,cap,rfl⟩
     ·exact⟨b,0,rfl,fun _=>rfl,fun h=>by(cases h)⟩
     ·exact⟨_,cap,rfl,fun h=>by(cases h),fun h=>by(cases h)⟩
   · simp only [VR];have hl: (ad.map adr).length=ks.length:=by rw [length_map,g5]
     refine⟨ad.map adr,aER hi ks ad Fr g8 (fun i hi=>hJ i (mem_cons_of_mem _ (mem_cons_of_mem _ hi))),fun u hu=>by obtain⟨x,_,rfl⟩ :=List.mem_map.1 hu;exact aH6 x,.inr ⟨b.1,b.2,cap,Ck,by rw [hl];exact g1,hJ _ (by simp) _ _ _ g4,by rw [hl];exact g2,fun h=>by(cases h),fun j hj=>?_⟩⟩;rw [hl,mul_one]at hj;rw [lB];exact g6 j hj
  simp only [XT.av,VR];refine⟨[.int .i64 o,.int .i64 n,kv,pv],VRs.cons (by simp only [VR]) (VRs.cons (by simp only [VR]) (VRs.cons hkv (VRs.cons (h6.mono (aB0 hi)) (VRs.nil _)))),a.1,a.2,C,rfl,hJ _ (mem_cons_self ..) _ _ _ h1,fun j hj=>?_⟩
  match j,hj with
  |0,_=>exact h2
  |1,_=>exact h3
  |2,_=>exact h4
  |3,_=>exact h5
  |j+4,hj=>simp at hj;omega
theorem aER {imm J:Imm}{H:Array Obj}(hi:Imm.le imm J) :∀ (ts:List XT) (ad:List (Nat×Nat)) (F:List Nat),TsAt imm H ad ts F→ (∀i∈F,∀C e f,H[i]?=some (.cells C e f) →J i=some C) →VRs (emI J) (XTs.av ts) (ad.map adr)
 | [],ad,F,h,_=>by simp only [TsAt]at h;rw [h.1];exact VRs.nil _
 | t::ts,ad,F,h,hJ=>by
  simp only [TsAt]at h;obtain⟨a,ad',F1,F2,rfl,rfl,h3,h4⟩ :=h;exact VRs.cons (aZf hi t a F1 h3 (fun i hi=>hJ i (List.mem_append.2 (.inl hi)))) (aER hi ts ad' F2 h4 (fun i hi=>hJ i (List.mem_append.2 (.inr hi))))
end
def fhC (r n:Nat)(mn:Int)(cs:List Con) :AObj:=.cells (putCells .leaf 0 [.gl r 1 0 n false,.int .i64 mn,.ilst 2 (map Con.av cs) false]) 3 [] false
def fvA (ts:List XT)(mn:Int)(cs:List Con) :AV:=.iptr [.ilst 1 (XTs.av ts) false,.int .i64 mn,.ilst 2 (map Con.av cs) false]
theorem aNr {E:Emb}{H:Array Obj}{J:Imm}{k r n:Nat}{mn:Int}{cs:List Con}{ts:List XT}{Lk Lz:Loc}{cv:Value}(hi:Imm.le E.imm J)(hk:E k=some Lk)(ok:OR E H Lk (fhC r n mn cs))(oz:OR E H Lz (.zone true [r] (bN ts)))(hn:n=ts.length)
  (hJ:∀i,i=Lk.blk∨i∈hR Lz.blk→∀C e f,H[i]?=some (.cells C e f) →J i=some C) (hv:VR E (.ptr k 0) cv) :VR (emI J) (fvA ts mn cs) cv:=by
 obtain⟨C,e,c1,c2,c3⟩ :=ok;obtain⟨_,v0,a0,b0⟩ :=c3 0 (.gl r 1 0 n false) (by rw [aY];rfl);obtain⟨_,v1,a1,b1⟩ :=c3 1 (.int .i64 mn) (by rw [aY];rfl);obtain⟨_,v2,a2,b2⟩ :=c3 2 (.ilst 2 (map Con.av cs) false) (by rw [aY];rfl);obtain⟨Ls,n1,z1⟩ :=eY oz;obtain⟨hnd,K,hK,hz⟩ :=z1;obtain⟨Kk,rfl⟩ :∃Kk,Ls= [Kk] :=by
  match Ls,hK with
  | [x],_=>exact⟨x,rfl⟩
 simp only [map_cons,map_nil,List.cons.injEq,and_true]at n1 hK;subst hK;have hrow:VR (emI J) (.ilst 1 (XTs.av ts) false) v0:=by
  simp only [VR]at b0;rcases hz with⟨rfl,hF⟩ | ⟨Ck,ek,ad,Fr,g1,g2,g3,g4,g5,g6⟩
  · simp only [length_nil]at hn;simp only [VR];refine⟨[],VRs.nil _,fun _ hu=>by(cases hu),.inl ⟨rfl,?_⟩⟩;rcases b0 with⟨_,a,ha⟩ | ⟨L,a,cap,_,h2,_⟩
    ·exact⟨a,0,ha,fun _=>rfl,fun h=>by(cases h)⟩
    ·rw [hn]at h2;exact⟨_,cap,h2,fun h=>by(cases h),fun h=>by(cases h)⟩
  · have hl0:0<ts.length:=List.length_pos_iff.2 g1;rcases b0 with⟨h0,_⟩ | ⟨L,a,cap,h1,h2,h3,h4,h5⟩
    ·omega
    · have:E.loc r=some L:=h1;rw [n1]at this;cases this;obtain⟨q1,q2⟩ :=h5 (by omega);have hl: (ad.map adr).length=ts.length:=by rw [length_map,g6.len]
      simp only [VR];refine⟨ad.map adr,aER hi ts ad Fr g6 (fun i hi=>hJ i (.inr (by rw [g2];exact mem_cons_of_mem _ hi))),fun u hu=>by obtain⟨x,_,rfl⟩ :=List.mem_map.1 hu;exact aH6 x,.inr ⟨Kk.blk,a,cap,Ck,by rw [hl,←hn];exact h2,hJ _ (.inr (by rw [g2];exact mem_cons_self ..)) _ _ _ g3,by rw [hl];omega,fun h=>by(cases h),fun j hj=>?_⟩⟩;rw [hl,mul_one]at hj;rw [lB,q1,show Kk.sh+0*1+j=Kk.sh+j by omega];exact g5 j hj
 simp only [VR]at hv;obtain⟨L,hL,rfl⟩ :=hv;have:E.loc k=some L:=hL;rw [show E.loc k=E k from rfl,hk]at this;cases this;simp only [fvA,VR];refine⟨[v0,v1,v2],VRs.cons hrow (VRs.cons (by simpa only [VR]using b1) (VRs.cons ((VR.emI (by simp [keyless]) b2).mono (aB0 hi)) (VRs.nil _))),Lk.blk,Lk.sh+0,C,rfl,hJ _ (.inl rfl) _ _ _ c1,fun j hj=>?_⟩
 match j,hj with
 |0,_=>exact a0
 |1,_=>exact a1
 |2,_=>exact a2
 |j+3,hj=>simp at hj;omega
theorem aIb {h h':Hp}{k q z n:Nat}{mn:Int}{cs:List Con}{ts:List XT}(hk:h.look k=some (fhC q n mn cs))(hz:h.look z=some (.zone true [q] (bN ts)))(hn:n=ts.length)(hb:h'.nb=h.nb)
  (hl:∀b o,h'.look b=some o→b∉ [k,z] ∧h.look b=some o) {m:Nat} (hm:m≤h.nb) :kY m h h' (.ptr k 0) (fvA ts mn cs) :=fun E w r=>by
 obtain⟨Lk,k1,k2⟩ :=r.obj k _ hk;obtain⟨Lz,z1,z2⟩ :=r.obj z _ hz
 let own:Nat→Prop:=fun i=>i=Lk.blk∨i∈hR Lz.blk
 have hown:∀ {i},own i→∃b∈ [k,z],∃o L,h.look b=some o∧E b=some L∧Own o L i∧bQ o= [] ∧hU o=false:=fun {i} hi=>by
  rcases hi with rfl|hi
  ·exact⟨k,by simp,_,Lk,hk,k1,rfl,rfl,rfl⟩
  ·exact⟨z,by simp,_,Lz,hz,z1,hi,rfl,rfl⟩
 have hni:∀ {i},own i→E.imm i=none:=fun {i} hi=>by
  obtain⟨b,_,o,L,h1,h2,h3,_⟩ :=hown hi;exact r.apart b o L h1 h2 i h3
 classical
 let E':Emb:= ⟨E.loc,fun i=>if own i then snap w.heap i else E.imm i⟩
 have hle:E.le E':= ⟨fun _ _ e=>e,fun i C e=>by
  show(if own i then snap w.heap i else E.imm i) =some C;rw [if_neg (fun hh=>by rw [hni hh]at e;cases e)];exact e⟩
 have hgo:∀ {b o L i},h'.look b=some o→E b=some L→Own o L i→¬own i:=fun {b o L i} e k' hi ho=>by
  obtain⟨b0,h0,o0,L0,q1,q2,q3,u1,u2⟩ :=hown ho;obtain⟨e1,e2⟩ :=hl b o e;rcases r.kin b0 b o0 o L0 L q1 e2 q2 k' ⟨i,q3,hi⟩ (fun e=>e1 (e ▸ h0))with⟨x,_⟩ | ⟨_,x,_⟩
  ·rw [u1]at x;cases x
  ·rw [u2]at x;cases x
 refine⟨E',hle,⟨fun b o e=>?_,fun b b' o o' L L' e e'=>r.kin b b' o o' L L' (hl b o e).2 (hl b' o' e').2,fun b hb'=>r.fresh b (by omega),fun i C e=>?_,fun b o L e k' i hi=>?_,fun b o e=>by rw [hb];exact r.keys b o (hl b o e).2⟩,
  ⟨fun _ _=>rfl,hle.2,le_refl _,fun _ _ _=>rfl,fun b o L e k' i hi _=> ⟨b,o,L,(hl b o e).2,k',hi⟩,by omega,rfl,rfl,rfl,fun _ _=>rfl,fun i C e _=>?_,fun b o e _=> ⟨o,(hl b o e).2⟩⟩,fun cv hv=>VR.of_emI (E:=E') (aNr hle.2 k1 k2 z2 hn (fun i hi C e f hh=>?_) hv)⟩
 · rcases r.obj0 b o (hl b o e).2 with u| ⟨L,g1,g2⟩
   ·exact .inl u
   ·exact .inr ⟨L,g1,g2.mono hle⟩
 · simp only [E']at e;split at e
   ·exact aKr e
   ·exact r.imm i C e
 · show(if own i then snap w.heap i else E.imm i) =none;rw [if_neg (hgo e k' hi)];exact r.apart b o L (hl b o e).2 k' i hi
 · simp only [E']at e;split at e
   · rename_i ho;obtain⟨b,_,o,L,h1,h2,h3,_⟩ :=hown ho;exact .inr ⟨b,o,L,h1,h2,h3⟩
   ·exact .inl e
 · show(if own i then snap w.heap i else E.imm i) =some C;rw [if_pos hi];exact xH hh
end
mutual
def lM :Pat→Int→Int
 | .mk _ _ _ ps,left=>if left<1 then -1 else jD ps (left-1)
def jD :List Pat→Int→Int
 | [],left=>left
 |p::ps,left=>if 0≤left then jD ps (lM p left)else left
end
mutual
theorem aKw :∀ (p:Pat) (left:Int),0≤left→ -1≤lM p left∧lM p left≤left-1
 | .mk _ _ _ ps,left,h=>by
  rw [lM];split
  ·omega
  ·have:=aGz ps (left-1) (by omega);omega
theorem aGz :∀ (ps:List Pat) (left:Int),-1≤left→ -1≤jD ps left∧jD ps left≤left
 | [],left,h=>by rw [jD];omega
 | p ::ps,left,h=>by
  rw [jD];split
  · rename_i h0;have a:=aKw p left h0;have:=aGz ps (lM p left) a.1;omega
  ·omega
end
theorem aCL (f n:Int)(s:cA)(ps:List Pat)(l0:Int)(ih:∀p∈ps,∀left:Int,0≤left→left≤1000→aJ PP 69 [Pat.av p,.int .i64 left] (.int .i64 (lM p left))) :
  ∀ (t:List Pat) (i:Nat) (left:Int),ps.drop i=t→ -1≤left→ (i:Int) +left≤1000→Ends PP 0 (xF f n s ps l0 left (i:Int)).as (.ret (.int .i64 (jD t left))) (aA [] 0)
 | [],i,left,h,h1,h2=>by
  have:=bE h;rw [jD];exact aNo f n s ps l0 left i sd
 | .mk f' n' s' ps'::t,i,left,h,h1,h2=>by
  obtain⟨g1,g2,g3⟩ :=bB h;rw [jD];split
  · rename_i h0;have w:=aKw (.mk f' n' s' ps') left h0;refine(aNm f n s ps l0 left i f' n' s' ps' _ sd sd sd sd (ih _ (List.mem_of_getElem? g1) left h0 (by omega)) sd).ends ?_;exact aCL f n s ps l0 ih t (i+1) _ g2 w.1 (by omega)
  ·exact aNn f n s ps l0 left i sd sd
mutual
theorem vW :∀ (p:Pat) (left:Int),-1≤left→left≤1000→aJ PP 69 [Pat.av p,.int .i64 left] (.int .i64 (lM p left))
 | .mk f n s ps,left,h0,h1=>by
  refine aF (by kernel_rfl) (by simp [keylessL,lV,keyless]) rfl ?_;rw [lM];split
  ·exact aNk f n s ps left sd
  · refine(aNl f n s ps left sd sd).ends ?_;exact aCL f n s ps left (fun p hp left h0 h1=>aES ps p hp left h0 h1) ps 0 _ rfl (by omega) (by omega)
theorem aES :∀ (ps:List Pat),∀p∈ps,∀left:Int,0≤left→left≤1000→aJ PP 69 [Pat.av p,.int .i64 left] (.int .i64 (lM p left))
 | [],p,hp,_,_,_=>by cases hp
 | q::ps,p,hp,left,h0,h1=>by
  rcases List.mem_cons.1 hp with e|hp
  ·rw [e];exact vW q left (by omega) h1
  ·exact aES ps p hp left h0 h1
end
mutual
def vX :Pat→Bool
 | .mk _ _ s ps=>aA6 ps&&decide (s.length≤30)
def aA6 :List Pat→Bool
 | [] =>true
 |p::ps=>vX p&&aA6 ps
end
mutual
def bW :Pat→Nat
 | .mk _ _ _ ps=>bF ps+1
def bF :List Pat→Nat
 | [] =>0
 |p::ps=>bW p+bF ps
end
theorem eP :∀ps:List Pat,ps.length≤bF ps
 | [] =>by simp [bF]
 | .mk _ _ _ qs::ps=>by have:=eP ps;simp only [bF,bW,List.length_cons];omega
mutual
theorem aET :∀ (p:Pat) (left:Int),0≤lM p left→lM p left=left-bW p
 | .mk _ _ _ ps,left,h=>by
  rw [lM]at h ⊢;split at h
  ·omega
  · rename_i h1;rw [if_neg h1];have:=aCM ps (left-1) h;simp only [bW];omega
theorem aCM :∀ (ps:List Pat) (left:Int),0≤jD ps left→jD ps left=left-bF ps
 | [],left,h=>by simp [jD,bF]
 | p ::ps,left,h=>by
  rw [jD]at h ⊢;split at h
  · rename_i h1;rw [if_pos h1];have a:=aCM ps _ h;have b:=aET p left (by omega);simp only [bF];omega
  ·omega
end
mutual
theorem aEU :∀ (p:Pat) (left:Int),(bW p:Int) ≤left→lM p left=left-bW p
 | .mk _ _ _ ps,left,h=>by
  simp only [bW]at h ⊢;rw [lM,if_neg (by omega),aCN ps (left-1) (by omega)];omega
theorem aCN :∀ (ps:List Pat) (left:Int),(bF ps:Int) ≤left→jD ps left=left-bF ps
 | [],left,h=>by simp [jD,bF]
 | p::ps,left,h=>by
  simp only [bF]at h ⊢;rw [jD,if_pos (by omega),aEU p left (by omega),aCN ps _ (by omega)];omega
end
theorem xM (p:Pat)(left:Int) :0≤lM p left↔ (bW p:Int) ≤left:=by
 constructor
 ·intro h;have:=aET p left h;omega
 ·intro h;rw [aEU p left h];omega
theorem vY (f n:Int)(s:cA)(ps:List Pat)(hl:ps.length<1000000)(ih:∀p∈ps,aJ PP 70 [Pat.av p] (.bool (vX p))) :
  ∀ (t:List Pat) (i:Nat),ps.drop i=t→Ends PP 0 (nM f n s ps (i:Int)).as (.ret (.bool (aA6 t&&decide (s.length≤30)))) (aA [] 0)
 | [],i,h=>by
  have:=bE h;have e:decide (((length s:Nat) :Int) ≤ (30:Int)) =decide (s.length≤30) :=by congr 1;simp;omega
  rw [aA6,Bool.true_and,←e];exact aF4 f n s ps i sd
 | .mk f' n' s' ps'::t,i,h=>by
  obtain⟨g1,g2,g3⟩ :=bB h;have ihp:=ih _ (List.mem_of_getElem? g1);rw [aA6];cases hb:vX (.mk f' n' s' ps')
  case false=>
   rw [hb]at ihp;exact aF2 f n s ps i f' n' s' ps' false sd sd sd ihp rfl
  rw [hb]at ihp;refine(aF3 f n s ps i f' n' s' ps' true sd sd sd ihp rfl sd).ends ?_;rw [Bool.true_and];exact vY f n s ps hl ih t (i+1) g2
mutual
theorem vZ :∀ (p:Pat),bW p<1000000→aJ PP 70 [Pat.av p] (.bool (vX p))
 | .mk f n s ps,h=>by
  refine aF (by kernel_rfl) (by simp [keylessL,lV]) rfl ?_;simp only [bW]at h;have:=eP ps;refine(aF1 f n s ps).ends ?_;rw [vX];exact vY f n s ps (by omega) (zK ps (by omega)) ps 0 rfl
theorem zK :∀ (ps:List Pat),bF ps<1000000→∀p∈ps,aJ PP 70 [Pat.av p] (.bool (vX p))
 | [],_,p,hp=>by cases hp
 | q::ps,h,p,hp=>by
  simp only [bF]at h;rcases List.mem_cons.1 hp with e|hp
  ·rw [e];exact vZ q (by omega)
  ·exact zK ps (by omega) p hp
end
def wA (p:Pat) :Bool:=decide (bW p≤16) &&vX p
theorem aIc (p:Pat) :aJ PP 31 [Pat.av p] (.bool (wA p)) :=by
 refine aF (by kernel_rfl) (by simp [keylessL,lV]) rfl ?_;obtain⟨f,n,s,ps⟩ :=p;have hw:=vW (.mk f n s ps) 16 (by omega) (by omega);by_cases h:bW (.mk f n s ps) ≤16
 · have e:wA (.mk f n s ps) =vX (.mk f n s ps) :=by simp [wA,h]
   rw [e];have hg:0≤lM (.mk f n s ps) 16:= (xM (.mk f n s ps) 16).2 (by omega);exact aKj f n s ps _ _ hw (decide_eq_true hg) (vZ (.mk f n s ps) (by omega))
 · have e:wA (.mk f n s ps) =false:=by simp [wA,h]
   rw [e];refine aKk f n s ps _ hw (decide_eq_false fun g=>h ?_);have:= (xM (.mk f n s ps) 16).1 g;omega
def iY (l:List Con) :Bool:=l.all fun c=>decide (c.name.length≤40)
def fM (l:List Pat) :Bool:=l.all wA
def bJ (x:Node) :Bool:=decide (x.kids.length≤10) &&decide (x.pats.length≤10) &&fM x.pats
def aE (p:Prog) :Bool:=decide (p.nodes.length≤320) &&decide (p.funs.length≤320) &&decide (p.cons.length≤25) &&iY p.cons&&p.nodes.all bJ
mutual
theorem bEL (p:Prog)(hn:p.nodes.length≤320) :∀ (t:List Node) (i:Nat),p.nodes.drop i=t→Ends PP 0 (mP p (i:Int)).as (.ret (.bool (t.all bJ))) (aA [] 0)
 | [],i,h=>by
  have:=bE h;exact aEJ p i sd
 | x :: t,i,h=>by
  obtain⟨g1,g2,g3⟩ :=bB h;by_cases k1:x.kids.length≤10
  · by_cases k2:x.pats.length≤10
    · have e: (x::t).all bJ= (fM (x.pats.drop 0) &&t.all bJ) :=by simp [bJ,k1,k2]
      rw [e];refine(aEI p i x sd sd sd sd sd).ends ?_;have ih:=bEL p hn t (i+1) g2;clear e g1 g2 h
      suffices ∀ (u:List Pat) (k:Nat),x.pats.drop k=u→Ends PP 0 (mQ p x.op x.n x.kids x.pats (k:Int) (i:Int)).as (.ret (.bool (fM u&&t.all bJ))) (aA [] 0)from this _ 0 rfl
      intro u
      induction u with
      | nil=>
       intro k hk;have:=bE hk;refine(aEM p x.op x.n x.kids x.pats k i sd sd).ends ?_;simp only [fM,all_nil,Bool.true_and];exact ih
      | cons q u ihu=>
       intro k hk;obtain⟨q1,q2,q3⟩ :=bB hk;obtain⟨f',n',s',ps'⟩ :=q;have hp:=aIc (.mk f' n' s' ps');cases hb:wA (.mk f' n' s' ps')
       case false=>
        rw [hb]at hp;have e: (fM (.mk f' n' s' ps'::u) &&t.all bJ) =false:=by simp [fM,hb]
        rw [e];exact aEK p x.op x.n x.kids x.pats k i f' n' s' ps' false sd sd sd hp rfl
       rw [hb]at hp;have e: (fM (.mk f' n' s' ps'::u) &&t.all bJ) = (fM u&&t.all bJ) :=by simp [fM,hb]
       rw [e];refine(aEL p x.op x.n x.kids x.pats k i f' n' s' ps' true sd sd sd hp rfl sd).ends ?_;exact ihu (k+1) q2
    · have e: (x::t).all bJ=false:=by simp [bJ,k2]
      rw [e];exact aEH p i x sd sd sd sd sd
  · have e: (x::t).all bJ=false:=by simp [bJ,k1]
    rw [e];exact aEG p i x sd sd sd sd
end
theorem bEM (p:Prog)(hc:p.cons.length≤25)(hn:p.nodes.length≤320) :∀ (t:List Con) (i:Nat),p.cons.drop i=t→Ends PP 0 (mO p (i:Int)).as (.ret (.bool (iY t&&p.nodes.all bJ))) (aA [] 0)
 | [],i,h=>by
  have:=bE h;refine(aEF p i sd).ends ?_;simp only [iY,all_nil,Bool.true_and];exact bEL p hn p.nodes 0 rfl
 | c ::t,i,h=>by
  obtain⟨g1,g2,g3⟩ :=bB h;by_cases k:c.name.length≤40
  · have e: (iY (c::t) &&p.nodes.all bJ) = (iY t&&p.nodes.all bJ) :=by simp [iY,k]
    rw [e];refine(aEE p i c sd sd sd sd sd).ends ?_;exact bEM p hc hn t (i+1) g2
  · have e: (iY (c::t) &&p.nodes.all bJ) =false:=by simp [iY,k]
    rw [e];exact aED p i c sd sd sd sd
theorem aC5 (p:Prog) :aJ PP 10 [Prog.av p] (.bool (aE p)) :=by
 refine aF (by kernel_rfl) rfl rfl ?_;by_cases h1:p.nodes.length≤320
 · by_cases h2:p.funs.length≤320
   · by_cases h3:p.cons.length≤25
     · have e:aE p= (iY p.cons&&p.nodes.all bJ) :=by simp [aE,h1,h2,h3]
       rw [e];exact(aEC p sd sd sd).ends (bEM p h3 h1 p.cons 0 rfl)
     · have e:aE p=false:=by simp [aE,h3]
       rw [e];exact aEB p sd sd sd
   · have e:aE p=false:=by simp [aE,h2]
     rw [e];exact aEA p sd sd
 · have e:aE p=false:=by simp [aE,h1]
   rw [e];exact aEz p sd
def dE(b c:Int)(d:cA)(a:List Pat)(e:List Con)(f:Bool)(g:Int):TS:=⟨(tf 104 82 [(1,(iC e)),kp 2 0,(4,(bV false)),(5,(bV f)),(6,(nI (a.length:Int))),(7,(nI g))] [kc f104 1012,kl f104 1012,.inBlock 1,kc f104 127]),[],[oC 0 [(nI b),(nI c),(dD d),(iP a)]],1⟩
def tJ(d b:Int)(a:cA)(c:List Pat)(e:List Con):=tT 0 (start PP 104 [(.agg [(nI d),(nI b),(dD a),(iP c)]),(iC e)])<|gm 13 aD c<|.b 15 13 (d==1) (.b 7 19 ((c.length:Int) ==0) (.b 11 61 (b==0) (.W 13 1 [0] (dE d b a c e (iZ a.length (aC a) 0 0) 0))<|.W 13 1 [0] (dE d b a c e false 0))<|.W 24 1 [0] (dE d b a c e false 0))<|.b 6 13 (d==2) (.b 7 19 ((c.length:Int) ==0) (.b 11 61 (b==0) (.W 13 1 [0] (dE d b a c e (iZ a.length (aC a) 0 0) 0))<|.W 13 1 [0] (dE d b a c e false 0))<|.W 24 1 [0] (dE d b a c e false 0))<|.b 5 13 (d==5) (.b 5 19 ((c.length:Int) ==0) (.b 11 61 (b==0) (.W 13 1 [0] (dE d b a c e (iZ a.length (aC a) 0 0) 0))<|.W 13 1 [0] (dE d b a c e false 0))<|.W 24 1 [0] (dE d b a c e false 0))<|.b 6 24 (d==3) (.b 5 28 ((c.length:Int) ==0) (jR 2 62 [(nI b),(nI (-1000000000)),(nI 1000000000)]<|fun f=>.b 8 61 f (.W 13 1 [0] (dE d b a c e (iZ a.length (aC a) 0 0) 0))<|.W 13 1 [0] (dE d b a c e false 0))<|.W 24 1 [0] (dE d b a c e false 0))<|.b 6 33 (d==4) (.b 5 37 ((c.length:Int) ==0) (jR 2 62 [(nI b),(nI 0),(nI 1)]<|fun f=>.b 8 61 f (.W 13 1 [0] (dE d b a c e (iZ a.length (aC a) 0 0) 0))<|.W 13 1 [0] (dE d b a c e false 0))<|.W 24 1 [0] (dE d b a c e false 0))<|.b 6 42 (d==6) (gl 5 Con.av e<|gw 1 48 ((e.length:Int) -1)<|jR 0 62 [(nI b),(nI 0),(nI ((e.length:Int) -1))]<|fun f=>.b 1 50 f (gX Con.av 4 e b<|fun g=>.b 11 61 ((c.length:Int) ==g.args) (.W 13 1 [0] (dE d b a c e (iZ a.length (aC a) 0 0) 0))<|.W 13 1 [0] (dE d b a c e false 0))<|.W 29 1 [0] (dE d b a c e false 0))<|.W 20 1 [0] (dE d b a c e false 0)
def aT7:=fun a b c d e f g i=>tJ a b c d e|>.t f|>.t g|>.t i tv
def aT8:=fun a b c d e f g i=>tJ a b c d e|>.t f|>.t g|>.f i tv
def aT9:=fun a b c d e f g=>tJ a b c d e|>.t f|>.f g tv
def aUa:=fun a b c d e f g i j=>tJ a b c d e|>.f f|>.t g|>.t i|>.t j tv
def aUb:=fun a b c d e f g i j=>tJ a b c d e|>.f f|>.t g|>.t i|>.f j tv
def aUc:=fun a b c d e f g i=>tJ a b c d e|>.f f|>.t g|>.f i tv
def aUd:=fun a b c d e f g i j k=>tJ a b c d e|>.f f|>.f g|>.t i|>.t j|>.t k tv
def aUe:=fun a b c d e f g i j k=>tJ a b c d e|>.f f|>.f g|>.t i|>.t j|>.f k tv
def aUf:=fun a b c d e f g i j=>tJ a b c d e|>.f f|>.f g|>.t i|>.f j tv
def aUg:=fun a b c d e f g i j k l m n=>tJ a b c d e|>.f g|>.f i|>.f j|>.t k|>.t l f m|>.t n tv
def aQ8:=fun a b c d e f g i j k l m n=>tJ a b c d e|>.f g|>.f i|>.f j|>.t k|>.t l f m|>.f n tv
def aQ9:=fun a b c d e f g i j k=>tJ a b c d e|>.f f|>.f g|>.f i|>.t j|>.f k tv
def aRa:=fun a b c d e f g i j k l m n o=>tJ a b c d e|>.f g|>.f i|>.f j|>.f k|>.t l|>.t m f n|>.t o tv
def aRb:=fun a b c d e f g i j k l m n o=>tJ a b c d e|>.f g|>.f i|>.f j|>.f k|>.t l|>.t m f n|>.f o tv
def aRc:=fun a b c d e f g i j k l=>tJ a b c d e|>.f f|>.f g|>.f i|>.f j|>.t k|>.f l tv
def aRd:=fun a b c d e f g i j k l m n o p q r s t=>tJ a b c d e|>.f i|>.f j|>.f k|>.f l|>.f m|>.t n o f p|>.t q g r s|>.t t tv
def aRe:=fun a b c d e f g i j k l m n o p q r s t=>tJ a b c d e|>.f i|>.f j|>.f k|>.f l|>.f m|>.t n o f p|>.t q g r s|>.f t tv
def aRf:=fun a b c d e f g i j k l m n o p=>tJ a b c d e|>.f g|>.f i|>.f j|>.f k|>.f l|>.t m n f o|>.f p tv
def aRg:=fun a b c d e f g i j k l=>tJ a b c d e|>.f f|>.f g|>.f i|>.f j|>.f k|>.f l tv
def bDk(e f:Int)(g:cA)(b:List Pat)(d:List Con)(c:Bool)(a:Int):=tT 0 (dE e f g b d c a)<|gd 7 69 (a< (b.length:Int)) (.b 3 71 c (tC 8 b a<|fun i j k l=>jR 2 104 [(.agg [(nI i),(nI j),(dD k),(iP l)]),(iC d)]<|fun m=>gw 6 73 (a+1)<|.W 3 1 [0] (dE e f g b d m (a+1)))<|gE 8 1 (bV c))<|gE 11 1 (bV c)
def aUh:=fun a b c d e f g i j k l m n o p q r s=>bDk a b c d e f g|>.t n|>.t o i j k l p q m r s tv
def aUi:=fun a b c d e f g i j=>bDk a b c d e f g|>.t i|>.f j tv
def aUj:=fun a b c d e f g i=>bDk a b c d e f g|>.f i tv
def lC(a b c:Int):=tT 0 (start PP 105 [(nI a),(nI b),(nI c)])<|.b 16 8 (a==1) (gE 8 0 (nI 0))<|.b 6 8 (a==2) (gE 8 0 (nI 0))<|.b 6 8 (a==3) (gE 8 0 (nI 0))<|.b 6 8 (a==4) (gE 8 0 (nI 0))<|.b 6 8 (a==21) (gE 8 0 (nI 0))<|.b 6 8 (a==25) (gE 8 0 (nI 0))<|.b 5 8 (a==28) (gE 6 0 (nI 0))<|.b 7 16 (a==5) (gE 8 0 (nI 1))<|.b 6 16 (a==27) (gE 8 0 (nI 1))<|.b 6 16 (a==16) (gE 8 0 (nI 1))<|.b 6 16 (a==17) (gE 8 0 (nI 1))<|.b 6 16 (a==19) (gE 8 0 (nI 1))<|.b 6 16 (a==20) (gE 8 0 (nI 1))<|.b 6 16 (a==23) (gE 8 0 (nI 1))<|.b 6 16 (a==26) (gE 8 0 (nI 1))<|.b 5 16 (a==24) (gE 6 0 (nI 1))<|.b 7 26 (a==6) (gE 8 0 (nI 2))<|.b 6 26 (a==7) (gE 8 0 (nI 2))<|.b 6 26 (a==9) (gE 8 0 (nI 2))<|.b 6 26 (a==10) (gE 8 0 (nI 2))<|.b 6 26 (a==11) (gE 8 0 (nI 2))<|.b 6 26 (a==12) (gE 8 0 (nI 2))<|.b 6 26 (a==13) (gE 8 0 (nI 2))<|.b 6 26 (a==18) (gE 8 0 (nI 2))<|.b 5 26 (a==22) (gE 6 0 (nI 2))<|.b 6 36 (a==8) (gE 6 0 (nI 3))<|.b 6 38 (a==15) (gw 5 41 (1+b)<|gE 3 0 (nI (1+b)))<|.b 6 42 (a==14) (gE 7 0 (nI c))<|gE 8 0 (nI (-1))
def aRh:=fun a b c d=>lC a b c|>.t d tv
def aRi:=fun a b c d e=>lC a b c|>.f d|>.t e tv
def aRj:=fun a b c d e f=>lC a b c|>.f d|>.f e|>.t f tv
def aRk:=fun a b c d e f g=>lC a b c|>.f d|>.f e|>.f f|>.t g tv
def aRl:=fun a b c d e f g i=>lC a b c|>.f d|>.f e|>.f f|>.f g|>.t i tv
def aRm:=fun a b c d e f g i j=>lC a b c|>.f d|>.f e|>.f f|>.f g|>.f i|>.t j tv
def aRn:=fun a b c d e f g i j k=>lC a b c|>.f d|>.f e|>.f f|>.f g|>.f i|>.f j|>.t k tv
def aRo:=fun a b c d e f g i j k l=>lC a b c|>.f d|>.f e|>.f f|>.f g|>.f i|>.f j|>.f k|>.t l tv
def aRp:=fun a b c d e f g i j k l m=>lC a b c|>.f d|>.f e|>.f f|>.f g|>.f i|>.f j|>.f k|>.f l|>.t m tv
def aRq:=fun a b c d e f g i j k l m n=>lC a b c|>.f d|>.f e|>.f f|>.f g|>.f i|>.f j|>.f k|>.f l|>.f m|>.t n tv
def aNs:=fun a b c d e f g i j k l m n o=>lC a b c|>.f d|>.f e|>.f f|>.f g|>.f i|>.f j|>.f k|>.f l|>.f m|>.f n|>.t o tv
def aNt:=fun a b c d e f g i j k l m n o p=>lC a b c|>.f d|>.f e|>.f f|>.f g|>.f i|>.f j|>.f k|>.f l|>.f m|>.f n|>.f o|>.t p tv
def aNu:=fun a b c d e f g i j k l m n o p q=>lC a b c|>.f d|>.f e|>.f f|>.f g|>.f i|>.f j|>.f k|>.f l|>.f m|>.f n|>.f o|>.f p|>.t q tv
def aNv:=fun a b c d e f g i j k l m n o p q r=>lC a b c|>.f d|>.f e|>.f f|>.f g|>.f i|>.f j|>.f k|>.f l|>.f m|>.f n|>.f o|>.f p|>.f q|>.t r tv
def aNw:=fun a b c d e f g i j k l m n o p q r s=>lC a b c|>.f d|>.f e|>.f f|>.f g|>.f i|>.f j|>.f k|>.f l|>.f m|>.f n|>.f o|>.f p|>.f q|>.f r|>.t s tv
def aNx:=fun a b c d e f g i j k l m n o p q r s t=>lC a b c|>.f d|>.f e|>.f f|>.f g|>.f i|>.f j|>.f k|>.f l|>.f m|>.f n|>.f o|>.f p|>.f q|>.f r|>.f s|>.t t tv
def aNy:=fun a b c d e f g i j k l m n o p q r s t u=>lC a b c|>.f d|>.f e|>.f f|>.f g|>.f i|>.f j|>.f k|>.f l|>.f m|>.f n|>.f o|>.f p|>.f q|>.f r|>.f s|>.f t|>.t u tv
def aNz:=fun a b c d e f g i j k l m n o p q r s t u v=>lC a b c|>.f d|>.f e|>.f f|>.f g|>.f i|>.f j|>.f k|>.f l|>.f m|>.f n|>.f o|>.f p|>.f q|>.f r|>.f s|>.f t|>.f u|>.t v tv
def aNA:=fun a b c d e f g i j k l m n o p q r s t u v w=>lC a b c|>.f d|>.f e|>.f f|>.f g|>.f i|>.f j|>.f k|>.f l|>.f m|>.f n|>.f o|>.f p|>.f q|>.f r|>.f s|>.f t|>.f u|>.f v|>.t w tv
def aNB:=fun a b c d e f g i j k l m n o p q r s t u v w x=>lC a b c|>.f d|>.f e|>.f f|>.f g|>.f i|>.f j|>.f k|>.f l|>.f m|>.f n|>.f o|>.f p|>.f q|>.f r|>.f s|>.f t|>.f u|>.f v|>.f w|>.t x tv
def aNC:=fun a b c d e f g i j k l m n o p q r s t u v w x y=>lC a b c|>.f d|>.f e|>.f f|>.f g|>.f i|>.f j|>.f k|>.f l|>.f m|>.f n|>.f o|>.f p|>.f q|>.f r|>.f s|>.f t|>.f u|>.f v|>.f w|>.f x|>.t y tv
def aND:=fun a b c d e f g i j k l m n o p q r s t u v w x y z=>lC a b c|>.f d|>.f e|>.f f|>.f g|>.f i|>.f j|>.f k|>.f l|>.f m|>.f n|>.f o|>.f p|>.f q|>.f r|>.f s|>.f t|>.f u|>.f v|>.f w|>.f x|>.f y|>.t z tv
def aNE:=fun a b c d e f g i j k l m n o p q r s t u v w x y z A=>lC a b c|>.f d|>.f e|>.f f|>.f g|>.f i|>.f j|>.f k|>.f l|>.f m|>.f n|>.f o|>.f p|>.f q|>.f r|>.f s|>.f t|>.f u|>.f v|>.f w|>.f x|>.f y|>.f z|>.t A tv
def aNF:=fun a b c d e f g i j k l m n o p q r s t u v w x y z A B=>lC a b c|>.f d|>.f e|>.f f|>.f g|>.f i|>.f j|>.f k|>.f l|>.f m|>.f n|>.f o|>.f p|>.f q|>.f r|>.f s|>.f t|>.f u|>.f v|>.f w|>.f x|>.f y|>.f z|>.f A|>.t B tv
def aNG:=fun a b c d e f g i j k l m n o p q r s t u v w x y z A B C=>lC a b c|>.f d|>.f e|>.f f|>.f g|>.f i|>.f j|>.f k|>.f l|>.f m|>.f n|>.f o|>.f p|>.f q|>.f r|>.f s|>.f t|>.f u|>.f v|>.f w|>.f x|>.f y|>.f z|>.f A|>.f B|>.t C tv
def aNH:=fun a b c d e f g i j k l m n o p q r s t u v w x y z A B C D=>lC a b c|>.f d|>.f e|>.f f|>.f g|>.f i|>.f j|>.f k|>.f l|>.f m|>.f n|>.f o|>.f p|>.f q|>.f r|>.f s|>.f t|>.f u|>.f v|>.f w|>.f x|>.f y|>.f z|>.f A|>.f B|>.f C|>.t D tv
def aNI:=fun a b c d e f g i j k l m n o p q r s t u v w x y z A B C D F G=>lC a b c|>.f d|>.f e|>.f f|>.f g|>.f i|>.f j|>.f k|>.f l|>.f m|>.f n|>.f o|>.f p|>.f q|>.f r|>.f s|>.f t|>.f u|>.f v|>.f w|>.f x|>.f y|>.f z|>.f A|>.f B|>.f C|>.f D|>.t F G tv
def aNJ:=fun a b c d e f g i j k l m n o p q r s t u v w x y z A B C D F G=>lC a b c|>.f d|>.f e|>.f f|>.f g|>.f i|>.f j|>.f k|>.f l|>.f m|>.f n|>.f o|>.f p|>.f q|>.f r|>.f s|>.f t|>.f u|>.f v|>.f w|>.f x|>.f y|>.f z|>.f A|>.f B|>.f C|>.f D|>.f F|>.t G tv
def aNK:=fun a b c d e f g i j k l m n o p q r s t u v w x y z A B C D F G=>lC a b c|>.f d|>.f e|>.f f|>.f g|>.f i|>.f j|>.f k|>.f l|>.f m|>.f n|>.f o|>.f p|>.f q|>.f r|>.f s|>.f t|>.f u|>.f v|>.f w|>.f x|>.f y|>.f z|>.f A|>.f B|>.f C|>.f D|>.f F|>.f G tv
theorem Ends.eqv {P:Program}{m:Nat}{s:AS}{v v':AV}{h':Hp}(h:Ends P m s (.ret v) h')(e:v=v') :Ends P m s (.ret v') h':=e ▸ h
theorem inB_iff {n lo hi:Int}:dR n lo hi=true↔lo≤n∧n≤hi:=by simp [dR]
theorem inB_not {n lo hi:Int}:dR n lo hi=false↔¬ (lo≤n∧n≤hi) :=by simp [dR]
theorem sdI {p:Prop}(h:p:=by first|assumption|rfl| (simp only [Int.toNat_natCast];assumption) | (simp only [decide_eq_true_eq,decide_eq_false_iff_not];omega) |omega| (apply wrap64<;>omega) | (simp_all;done) | (simp only [inB_iff,inB_not,beq_iff_eq,decide_eq_true_eq,decide_eq_false_iff_not]at *;omega)) :p:=h
theorem idT {p:Prop}(h:p:=by exact⟨_,List.getElem?_eq_getElem (by simp only [inB_iff,inB_not,beq_iff_eq,decide_eq_true_eq,decide_eq_false_iff_not]at *;omega)⟩) :p:=h
def cQ (op pats args:Int) :Int:=
 if op=1∨op=2∨op=3∨op=4∨op=21∨op=25∨op=28 then 0
 else if op=5∨op=27∨op=16∨op=17∨op=19∨op=20∨op=23∨op=26∨op=24 then 1
 else if op=6∨op=7∨op=9∨op=10∨op=11∨op=12∨op=13∨op=18∨op=22 then 2
 else if op=8 then 3 else if op=15 then 1+pats else if op=14 then args else -1
theorem aZg (op pats args:Int)(hp:0≤pats)(hp2:pats≤1000) :Ends PP 0 (start PP 105 [.int .i64 op,.int .i64 pats,.int .i64 args]).as (.ret (.int .i64 (cQ op pats args))) (aA [] 0) :=by
 cases hb1: (op== (1:Int))
 case true=>exact Ends.eqv (aRh op pats args   hb1) (by simp_all [cQ])
 cases hb2: (op== (2:Int))
 case true=>exact Ends.eqv (aRi op pats args   hb1 hb2) (by simp_all [cQ])
 cases hb3: (op== (3:Int))
 case true=>exact Ends.eqv (aRj op pats args   hb1 hb2 hb3) (by simp_all [cQ])
 cases hb4: (op== (4:Int))
 case true=>exact Ends.eqv (aRk op pats args   hb1 hb2 hb3 hb4) (by simp_all [cQ])
 cases hb5: (op== (21:Int))
 case true=>exact Ends.eqv (aRl op pats args   hb1 hb2 hb3 hb4 hb5) (by simp_all [cQ])
 cases hb6: (op== (25:Int))
 case true=>exact Ends.eqv (aRm op pats args   hb1 hb2 hb3 hb4 hb5 hb6) (by simp_all [cQ])
 cases hb7: (op== (28:Int))
 case true=>exact Ends.eqv (aRn op pats args   hb1 hb2 hb3 hb4 hb5 hb6 hb7) (by simp_all [cQ])
 cases hb8: (op== (5:Int))
 case true=>exact Ends.eqv (aRo op pats args   hb1 hb2 hb3 hb4 hb5 hb6 hb7 hb8) (by simp_all [cQ])
 cases hb9: (op== (27:Int))
 case true=>exact Ends.eqv (aRp op pats args   hb1 hb2 hb3 hb4 hb5 hb6 hb7 hb8 hb9) (by simp_all [cQ])
 cases hb10: (op== (16:Int))
 case true=>exact Ends.eqv (aRq op pats args   hb1 hb2 hb3 hb4 hb5 hb6 hb7 hb8 hb9 hb10) (by simp_all [cQ])
 cases hb11: (op== (17:Int))
 case true=>exact Ends.eqv (aNs op pats args   hb1 hb2 hb3 hb4 hb5 hb6 hb7 hb8 hb9 hb10 hb11) (by simp_all [cQ])
 cases hb12: (op== (19:Int))
 case true=>exact Ends.eqv (aNt op pats args   hb1 hb2 hb3 hb4 hb5 hb6 hb7 hb8 hb9 hb10 hb11 hb12) (by simp_all [cQ])
 cases hb13: (op== (20:Int))
 case true=>exact Ends.eqv (aNu op pats args   hb1 hb2 hb3 hb4 hb5 hb6 hb7 hb8 hb9 hb10 hb11 hb12 hb13) (by simp_all [cQ])
 cases hb14: (op== (23:Int))
 case true=>exact Ends.eqv (aNv op pats args   hb1 hb2 hb3 hb4 hb5 hb6 hb7 hb8 hb9 hb10 hb11 hb12 hb13 hb14) (by simp_all [cQ])
 cases hb15: (op== (26:Int))
 case true=>exact Ends.eqv (aNw op pats args   hb1 hb2 hb3 hb4 hb5 hb6 hb7 hb8 hb9 hb10 hb11 hb12 hb13 hb14 hb15) (by simp_all [cQ])
 cases hb16: (op== (24:Int))
 case true=>exact Ends.eqv (aNx op pats args   hb1 hb2 hb3 hb4 hb5 hb6 hb7 hb8 hb9 hb10 hb11 hb12 hb13 hb14 hb15 hb16) (by simp_all [cQ])
 cases hb17: (op== (6:Int))
 case true=>exact Ends.eqv (aNy op pats args   hb1 hb2 hb3 hb4 hb5 hb6 hb7 hb8 hb9 hb10 hb11 hb12 hb13 hb14 hb15 hb16 hb17) (by simp_all [cQ])
 cases hb18: (op== (7:Int))
 case true=>exact Ends.eqv (aNz op pats args   hb1 hb2 hb3 hb4 hb5 hb6 hb7 hb8 hb9 hb10 hb11 hb12 hb13 hb14 hb15 hb16 hb17 hb18) (by simp_all [cQ])
 cases hb19: (op== (9:Int))
 case true=>exact Ends.eqv (aNA op pats args   hb1 hb2 hb3 hb4 hb5 hb6 hb7 hb8 hb9 hb10 hb11 hb12 hb13 hb14 hb15 hb16 hb17 hb18 hb19) (by simp_all [cQ])
 cases hb20: (op== (10:Int))
 case true=>exact Ends.eqv (aNB op pats args   hb1 hb2 hb3 hb4 hb5 hb6 hb7 hb8 hb9 hb10 hb11 hb12 hb13 hb14 hb15 hb16 hb17 hb18 hb19 hb20) (by simp_all [cQ])
 cases hb21: (op== (11:Int))
 case true=>exact Ends.eqv (aNC op pats args   hb1 hb2 hb3 hb4 hb5 hb6 hb7 hb8 hb9 hb10 hb11 hb12 hb13 hb14 hb15 hb16 hb17 hb18 hb19 hb20 hb21) (by simp_all [cQ])
 cases hb22: (op== (12:Int))
 case true=>exact Ends.eqv (aND op pats args   hb1 hb2 hb3 hb4 hb5 hb6 hb7 hb8 hb9 hb10 hb11 hb12 hb13 hb14 hb15 hb16 hb17 hb18 hb19 hb20 hb21 hb22) (by simp_all [cQ])
 cases hb23: (op== (13:Int))
 case true=>exact Ends.eqv (aNE op pats args   hb1 hb2 hb3 hb4 hb5 hb6 hb7 hb8 hb9 hb10 hb11 hb12 hb13 hb14 hb15 hb16 hb17 hb18 hb19 hb20 hb21 hb22 hb23) (by simp_all [cQ])
 cases hb24: (op== (18:Int))
 case true=>exact Ends.eqv (aNF op pats args   hb1 hb2 hb3 hb4 hb5 hb6 hb7 hb8 hb9 hb10 hb11 hb12 hb13 hb14 hb15 hb16 hb17 hb18 hb19 hb20 hb21 hb22 hb23 hb24) (by simp_all [cQ])
 cases hb25: (op== (22:Int))
 case true=>exact Ends.eqv (aNG op pats args   hb1 hb2 hb3 hb4 hb5 hb6 hb7 hb8 hb9 hb10 hb11 hb12 hb13 hb14 hb15 hb16 hb17 hb18 hb19 hb20 hb21 hb22 hb23 hb24 hb25) (by simp_all [cQ])
 cases hb26: (op== (8:Int))
 case true=>exact Ends.eqv (aNH op pats args   hb1 hb2 hb3 hb4 hb5 hb6 hb7 hb8 hb9 hb10 hb11 hb12 hb13 hb14 hb15 hb16 hb17 hb18 hb19 hb20 hb21 hb22 hb23 hb24 hb25 hb26) (by simp_all [cQ])
 cases hb27: (op== (15:Int))
 case true=>exact Ends.eqv (aNI op pats args   hb1 hb2 hb3 hb4 hb5 hb6 hb7 hb8 hb9 hb10 hb11 hb12 hb13 hb14 hb15 hb16 hb17 hb18 hb19 hb20 hb21 hb22 hb23 hb24 hb25 hb26 hb27 sdI) (by simp_all [cQ])
 cases hb28: (op== (14:Int))
 case true=>exact Ends.eqv (aNJ op pats args   hb1 hb2 hb3 hb4 hb5 hb6 hb7 hb8 hb9 hb10 hb11 hb12 hb13 hb14 hb15 hb16 hb17 hb18 hb19 hb20 hb21 hb22 hb23 hb24 hb25 hb26 hb27 hb28) (by simp_all [cQ])
 exact Ends.eqv (aNK op pats args   hb1 hb2 hb3 hb4 hb5 hb6 hb7 hb8 hb9 hb10 hb11 hb12 hb13 hb14 hb15 hb16 hb17 hb18 hb19 hb20 hb21 hb22 hb23 hb24 hb25 hb26 hb27 hb28) (by simp_all [cQ])
theorem aNL (op pats args:Int)(hp:0≤pats)(hp2:pats≤1000) :aJ PP 105 [.int .i64 op,.int .i64 pats,.int .i64 args] (.int .i64 (cQ op pats args)) :=
 aF (by kernel_rfl) rfl rfl (aZg op pats args hp hp2)
def fN (cons:List Con)(n:Int) :Int:=match cons[n.toNat]? with
 |some c=>c.args
 |none=> -1
def eD (cons:List Con)(f n:Int)(s:cA)(k:Nat) :Bool:=
 (if f=1∨f=2∨f=5 then decide (k=0) &&decide (n=0)
 else if f=3 then decide (k=0) &&dR n (-1000000000) 1000000000
 else if f=4 then decide (k=0) &&dR n 0 1
 else if f=6 then dR n 0 ((cons.length:Int) -1) &&decide ((k:Int) =fN cons n)
 else false) &&decide (s= [])
mutual
def eG (cons:List Con) :Pat→Bool
 | .mk f n s ps=>eD cons f n s ps.length&&dH cons ps
def dH (cons:List Con) :List Pat→Bool
 | [] =>true
 |p::ps=>eG cons p&&dH cons ps
end
theorem ptT {p:Prop}(h:p:=by simp_all [eD,fN,cY]) :p:=h
theorem bDl (q_form q_n:Int)(q_text:cA)(q_parts:List Pat)(cons:List Con)(hc:cons.length≤1000)(b:Bool)(hk:∀i:Bool,i=eD cons q_form q_n q_text q_parts.length→Ends PP 0 (dE q_form q_n q_text q_parts cons i 0).as (.ret (.bool b)) (aA [] 0)) :
  Ends PP 0 (start PP 104 [Pat.av (.mk q_form q_n q_text q_parts),.ilst 2 (map Con.av cons) false]).as (.ret (.bool b)) (aA [] 0) :=by
 cases hb1: (q_form== (1:Int))
 case true=>
  cases hb2: (((length q_parts:Nat) :Int) == (0:Int))
  case true=>
   cases hb3: (q_n== (0:Int))
   case true=>exact LeadsM.ends (aT7 q_form q_n q_text q_parts cons   hb1 hb2 hb3) (hk _ (by clear hk;exact ptT))
   exact LeadsM.ends (aT8 q_form q_n q_text q_parts cons   hb1 hb2 hb3) (hk _ (by clear hk;exact ptT))
  exact LeadsM.ends (aT9 q_form q_n q_text q_parts cons   hb1 hb2) (hk _ (by clear hk;exact ptT))
 cases hb4: (q_form== (2:Int))
 case true=>
  cases hb5: (((length q_parts:Nat) :Int) == (0:Int))
  case true=>
   cases hb6: (q_n== (0:Int))
   case true=>exact LeadsM.ends (aUa q_form q_n q_text q_parts cons   hb1 hb4 hb5 hb6) (hk _ (by clear hk;exact ptT))
   exact LeadsM.ends (aUb q_form q_n q_text q_parts cons   hb1 hb4 hb5 hb6) (hk _ (by clear hk;exact ptT))
  exact LeadsM.ends (aUc q_form q_n q_text q_parts cons   hb1 hb4 hb5) (hk _ (by clear hk;exact ptT))
 cases hb7: (q_form== (5:Int))
 case true=>
  cases hb8: (((length q_parts:Nat) :Int) == (0:Int))
  case true=>
   cases hb9: (q_n== (0:Int))
   case true=>exact LeadsM.ends (aUd q_form q_n q_text q_parts cons   hb1 hb4 hb7 hb8 hb9) (hk _ (by clear hk;exact ptT))
   exact LeadsM.ends (aUe q_form q_n q_text q_parts cons   hb1 hb4 hb7 hb8 hb9) (hk _ (by clear hk;exact ptT))
  exact LeadsM.ends (aUf q_form q_n q_text q_parts cons   hb1 hb4 hb7 hb8) (hk _ (by clear hk;exact ptT))
 cases hb10: (q_form== (3:Int))
 case true=>
  cases hb11: (((length q_parts:Nat) :Int) == (0:Int))
  case true=>
   cases hb12: (dR q_n (-1000000000) 1000000000)
   case true=>exact LeadsM.ends (aUg q_form q_n q_text q_parts cons  (dR q_n (-1000000000) 1000000000) hb1 hb4 hb7 hb10 hb11 (aV q_n (-1000000000) 1000000000) hb12) (hk _ (by clear hk;exact ptT))
   exact LeadsM.ends (aQ8 q_form q_n q_text q_parts cons  (dR q_n (-1000000000) 1000000000) hb1 hb4 hb7 hb10 hb11 (aV q_n (-1000000000) 1000000000) hb12) (hk _ (by clear hk;exact ptT))
  exact LeadsM.ends (aQ9 q_form q_n q_text q_parts cons   hb1 hb4 hb7 hb10 hb11) (hk _ (by clear hk;exact ptT))
 cases hb13: (q_form== (4:Int))
 case true=>
  cases hb14: (((length q_parts:Nat) :Int) == (0:Int))
  case true=>
   cases hb15: (dR q_n 0 1)
   case true=>exact LeadsM.ends (aRa q_form q_n q_text q_parts cons  (dR q_n 0 1) hb1 hb4 hb7 hb10 hb13 hb14 (aV q_n 0 1) hb15) (hk _ (by clear hk;exact ptT))
   exact LeadsM.ends (aRb q_form q_n q_text q_parts cons  (dR q_n 0 1) hb1 hb4 hb7 hb10 hb13 hb14 (aV q_n 0 1) hb15) (hk _ (by clear hk;exact ptT))
  exact LeadsM.ends (aRc q_form q_n q_text q_parts cons   hb1 hb4 hb7 hb10 hb13 hb14) (hk _ (by clear hk;exact ptT))
 cases hb16: (q_form== (6:Int))
 case true=>
  cases hb17: (dR q_n 0 (((length cons:Nat) :Int) - (1:Int)))
  case true=>
   obtain⟨y1,hx18⟩ :∃y,((cons)[q_n.toNat]?) =some y:=idT;cases hb19: (((length q_parts:Nat) :Int) ==y1.args)
   case true=>exact LeadsM.ends (aRd q_form q_n q_text q_parts cons  (dR q_n 0 (((length cons:Nat) :Int) - (1:Int))) y1 hb1 hb4 hb7 hb10 hb13 hb16 sdI (aV q_n 0 (((length cons:Nat) :Int) - (1:Int))) hb17 sdI hx18 hb19) (hk _ (by clear hk;exact ptT))
   exact LeadsM.ends (aRe q_form q_n q_text q_parts cons  (dR q_n 0 (((length cons:Nat) :Int) - (1:Int))) y1 hb1 hb4 hb7 hb10 hb13 hb16 sdI (aV q_n 0 (((length cons:Nat) :Int) - (1:Int))) hb17 sdI hx18 hb19) (hk _ (by clear hk;exact ptT))
  exact LeadsM.ends (aRf q_form q_n q_text q_parts cons  (dR q_n 0 (((length cons:Nat) :Int) - (1:Int))) hb1 hb4 hb7 hb10 hb13 hb16 sdI (aV q_n 0 (((length cons:Nat) :Int) - (1:Int))) hb17) (hk _ (by clear hk;exact ptT))
 exact LeadsM.ends (aRg q_form q_n q_text q_parts cons   hb1 hb4 hb7 hb10 hb13 hb16) (hk _ (by clear hk;exact ptT))
theorem aGA (f n:Int)(s:cA)(ps:List Pat)(cons:List Con)(hl:ps.length<1000000)(ih:∀p∈ps,aJ PP 104 [Pat.av p,.ilst 2 (map Con.av cons) false] (.bool (eG cons p))) :
  ∀ (t:List Pat) (i:Nat) (b:Bool),ps.drop i=t→Ends PP 0 (dE f n s ps cons b (i:Int)).as (.ret (.bool (b&&dH cons t))) (aA [] 0)
 | [],i,b,h=>by
  have:=bE h;exact Ends.eqv (aUj f n s ps cons b i sd) (by simp [dH])
 | .mk f' n' s' ps'::t,i,b,h=>by
  obtain⟨g1,g2,g3⟩ :=bB h;cases b
  case false=>exact Ends.eqv (aUi f n s ps cons false i sd rfl) (by simp)
  refine(aUh f n s ps cons true i f' n' s' ps' _ sd rfl sd sd (ih (.mk f' n' s' ps') (List.mem_of_getElem? g1)) sd).ends ?_;exact Ends.eqv (aGA f n s ps cons hl ih t (i+1) _ g2) (by simp [dH])
mutual
theorem aGB (cons:List Con)(hc:cons.length≤1000) :∀ (p:Pat),bW p<1000000→aJ PP 104 [Pat.av p,.ilst 2 (map Con.av cons) false] (.bool (eG cons p))
 | .mk f n s ps,h=>by
  refine aF (by kernel_rfl) (by simp [keylessL,lV,keyless]) rfl ?_;simp only [bW]at h;have:=eP ps;refine bDl f n s ps cons hc _ (fun i hi=>?_);subst hi;rw [eG];exact aGA f n s ps cons (by omega) (aKy cons hc ps (by omega)) ps 0 _ rfl
theorem aKy (cons:List Con)(hc:cons.length≤1000) :∀ (ps:List Pat),bF ps<1000000→∀p∈ps,aJ PP 104 [Pat.av p,.ilst 2 (map Con.av cons) false] (.bool (eG cons p))
 | [],_,p,hp=>by cases hp
 | q::ps,h,p,hp=>by
  simp only [bF]at h;rcases List.mem_cons.1 hp with e|hp
  ·rw [e];exact aGB cons hc q (by omega)
  ·exact aKy cons hc ps (by omega) p hp
end
section
variable (mf mc:List (Int×Int))
end
end
end Go.Hb
