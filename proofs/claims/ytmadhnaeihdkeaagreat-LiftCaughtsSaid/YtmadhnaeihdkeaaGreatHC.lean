/- A machine on abstract values, its soundness, ways, plain laws. -/
import Derived.Test.YtmadhnaeihdkeaaGreatHB
import Derived.Defers
import Derived.Orders
set_option linter.defProp false
set_option linter.unusedVariables false
set_option linter.unusedSimpArgs false
set_option linter.unusedSectionVars false
set_option maxRecDepth 100000
namespace Go.Hb
open AV (keyless same sameL)
open Bool (not_eq_true' or_eq_true)
open List (drop_drop getElem?_drop getElem?_take getElem?_take_of_lt getElem?_toArray length_drop length_nil length_take mem_of_mem_drop mem_of_mem_take take)
open Nat (add_mul add_zero beq ble blt le_refl lt_or_ge mod_lt mul_le_mul_right sub_zero succ_mul testBit zero_le)
open Option (bind_some elim getD_none getD_some map_some)
noncomputable section
section
variable {P :Program} {E:Emb} {h h':Hp} {w w':World}
theorem jX (v:Value)(vs:List Value) :flat (v::vs) =v.cells.toList++flat vs:=rfl
theorem sX (us vs:List Value) :flat (us++vs) =flat us++flat vs:=by simp [flat]
theorem flat_length {e:Nat}:∀ {a:List Value},(∀u∈a,vM e u) → (flat a).length=a.length*e
 | [],_=>by simp [flat]
 | v::a,hk=>by
  rw [jX,pU,flat_length (fun u b=>hk u (dR _ b)),Array.length_toList,(hk v (dJ ..)).1,rY,add_mul];omega
theorem mA {e:Nat}:∀ {vs:List Value} (k:Nat),(∀u∈vs,vM e u) →flat (vs.drop k) = (flat vs).drop (k*e)
 | [],k,_=>by simp [flat]
 |v::vs,0,_=>by simp
 | v::vs,k+1,hk=>by
  have a:v.cells.toList.length=e:=by rw [Array.length_toList];exact(hk v (dJ ..)).1
  have b: (k+1) *e=e+k*e:=by rw [add_mul];omega
  have d: (v.cells.toList++flat vs).drop e=flat vs:=by rw [List.drop_append_of_le_length (Nat.le_of_eq a.symm),List.drop_of_length_le (Nat.le_of_eq a),List.nil_append]
  rw [List.drop_succ_cons,mA k (fun u c=>hk u (dR _ c)),jX,b,←drop_drop,d]
theorem pG {e:Nat}:∀ {a:List Value} (k:Nat),(∀u∈a,vM e u) →flat (a.take k) = (flat a).take (k*e)
 | [],k,_=>by simp [flat]
 |v::a,0,_=>by simp [flat]
 | v::a,k+1,hk=>by
  have d:v.cells.toList.length=e:=by rw [Array.length_toList];exact(hk v (dJ ..)).1
  have b: (k+1) *e=e+k*e:=by rw [add_mul];omega
  rw [List.take_succ_cons,jX,pG k (fun u c=>hk u (dR _ c)),jX,b,List.take_append,aBg (l:=v.cells.toList) (by omega),d,Nat.add_sub_cancel_left]
theorem flat_get {e:Nat}{c:List Value}(hk:∀u∈c,vM e u){i j:Nat}{v:Value}(d:c[i]?=some v)(g:j<e) : (flat c)[i*e+j]?=v.cells[j]?:=by
 have k:flat (c.drop i) = (flat c).drop (i*e) :=mA i hk;have f:c.drop i=v::c.drop (i+1) :=by
  have:= (zq0.1 d);obtain⟨a,b⟩ :=this;rw [List.drop_eq_getElem_cons a,b]
 have h: (flat c)[i*e+j]?= (flat (c.drop i))[j]?:=by rw [k,getElem?_drop]
 rw [h,f,jX,wL (by rw [Array.length_toList,(hk v (oG d)).1];exact g),oZ]
theorem aPL {e:Nat}{b:List Value}(hk:∀u∈b,vM e u) :∀c∈flat b,c.oneCell'=true:=fun c hc=>by
 obtain⟨u,d,a⟩ :=List.mem_flatMap.1 hc;exact(hk u d).2 c a
mutual
theorem eC :∀ {E:Emb} {a:AV} {v:Value},keyless a=true→VR E a v→VR E.p a v
 |_,.bool _,_,_,r=>by simpa [VR]using r
 |_,.int _ _,_,_,r=>by simpa [VR]using r
 |_,.str _ _,_,_,r=>by simpa [VR]using r
 |_,.ptr _ _,_,k,_=>by simp [keyless]at k
 |_,.nilp,_,_,r=>by simpa [VR]using r
 |_,.slice _ _ _ _ _ _,_,k,_=>by simp [keyless]at k
 |_,.nils,_,_,r=>by simpa [VR]using r
 |_,.map _,_,k,_=>by simp [keyless]at k
 |_,.nilm,_,_,r=>by simpa [VR]using r
 | _,.func _ fs f,_,k,r=>by
  simp only [keyless,dC]at k;simp only [VR]at r ⊢;obtain⟨a,b,d,c,g⟩ :=r;exact⟨a,b,d,dX k.1 c,dX k.2 g⟩
 |_,.yield _,_,k,_=>by simp [keyless]at k
 | _,.meth _ a,_,k,r=>by
  simp only [keyless]at k;simp only [VR]at r ⊢;obtain⟨u,d,c⟩ :=r;exact⟨u,d,eC k c⟩
 | _,.via _ _ _ a,_,k,r=>by
  simp only [keyless]at k;simp only [VR]at r ⊢;obtain⟨u,d,c⟩ :=r;exact⟨u,d,eC k c⟩
 |_,.nilf,_,_,r=>by simpa [VR]using r
 | _,.iface _ a,_,k,r=>by
  simp only [keyless]at k;simp only [VR]at r ⊢;obtain⟨u,d,c⟩ :=r;exact⟨u,d,eC k c⟩
 |_,.nili,_,_,r=>by simpa [VR]using r
 | _,.agg e,_,k,r=>by
  simp only [keyless]at k;simp only [VR]at r ⊢;obtain⟨u,d,c⟩ :=r;exact⟨u,d,dX k c⟩
 | _,.tup e,_,k,r=>by
  simp only [keyless]at k;simp only [VR]at r ⊢;obtain⟨u,d,c⟩ :=r;exact⟨u,d,dX k c⟩
 |_,.ilst _ h _,_,_,r=>by simp only [VR]at r ⊢;exact r
 |_,.iptr f,_,_,r=>by simp only [VR]at r ⊢;exact r
 |_,.gl _ _ _ _ _,_,k,_=>by simp [keyless]at k
 |_,.ep _ _ _ _,_,k,_=>by simp [keyless]at k
 |_,.val _,_,_,r=>by simpa [VR]using r
theorem dX :∀ {E:Emb} {b:List AV} {c:List Value},AV.keylessL b=true→VRs E b c→VRs E.p b c
 |_,[],_,_,r=>by simpa [VRs]using r
 | _,a::b,_,k,r=>by
  simp only [AV.keylessL,dC]at k;simp only [VRs]at r ⊢;obtain⟨u,e,g,d,f⟩ :=r;exact⟨u,e,g,eC k.1 d,dX k.2 f⟩
end
theorem VR.of_p {a:AV}{v:Value}(r:VR E.p a v) :VR E a v:=r.mono E.p_le
theorem VRs.of_p {a:List AV}{vs:List Value}(r:VRs E.p a vs) :VRs E a vs:=r.mono E.p_le
theorem aAO {t:TypeId}{cs:List AV}{us:List Value}{a:AV}(b:aHu P t cs=some a)(h:VRs E cs us){k o:Nat}{C:Array Value}{e:TypeId}{f:Nat×Nat}(hk:w.heap[k]?=some (.cells C e f))
  (p:∀j,j<us.length→C[o+j]?=us[j]?) :∃cv,(loadVar t ⟨k,o,none⟩).run P w= .ok cv w∧VR E a cv:=by
 unfold aHu at b;split at b
 ·cases b
 · rename_i d hd;cases c:isAggD d with
   | true=>
    rw [c]at b;simp only [cond]at b;split at b
    ·cases b
    · rename_i n r;cases hc:ble n cs.length with
      |false=>rw [hc]at b;cases b
      | true=>
       rw [hc]at b;simp only at b;cases b;have s:=Nat.le_of_ble_eq_true hc;have hl:=h.length;have g: (loadCells ⟨k,o,none⟩ n).run P w= .ok ⟨us.take n⟩ w:=run_loadCells (us.take n) hk (by simp;omega) (fun j l=>by rw [p j (by omega),getElem?_take_of_lt l]);exact⟨.agg ⟨us.take n⟩,by simp [loadVar,nL hd,c,bM r,g],by simp only [VR];exact⟨_,rfl,h.take n⟩⟩
   | false=>
    rw [c]at b;simp only [cond]at b;obtain⟨v,g,q⟩ :=h.get _ _ b;have i:= (zq0.1 g).1;have m:=p 0 i;rw [g,add_zero]at m;exact⟨v,by simp [loadVar,nL hd,c,cell_of hk,m],q⟩
theorem aCe {L:Loc}{e:Nat}{xs:List AV}{C:Array Value}{a:List Value}(h:VRs E xs a)(hk:∀u∈a,vM e u)(hC:∀j,j<a.length*e→C[L.sh+j]?= (flat a)[j]?)
  {i:Nat} {x:AV} (f:xs[i]?=some x) :∃v,a[i]?=some v∧VR E x v∧vM e v∧∀j,j<e→C[L.sh+ (i*e+j)]?=v.cells[j]?:=by
 obtain⟨v,b,d⟩ :=h.get _ _ f;have c:= (zq0.1 b).1;refine⟨v,b,d,hk v (oG b),fun j g=>?_⟩
 rw [hC _ (by have:i*e+e≤a.length*e:=by rw [←succ_mul];exact mul_le_mul_right _ c
              omega),flat_get hk b g]
theorem yH (g:Bool)(e:Nat) :∀ (n:Nat) (a:List AV),(rU g e n a).length=n
 |0,_=>rfl
 |n+1,a=>by simp [rU,yH g e n]
theorem sY (g:Bool){e:Nat}(he:g=false→e=1) :∀ (n:Nat) {i:List AV} {b:List Value},VRs E i b→b.length=n*e→ (∀u∈b,u.oneCell'=true) →
  ∃d,VRs E (rU g e n i) d∧flat d=b∧d.length=n∧∀u∈d,vM e u
 | 0,i,b,j,hl,_=>by
  have:b= [] :=zq35.1 (by omega);subst this;exact⟨[],VRs.nil E,rfl,rfl,fun u f=>by cases f⟩
 | n + 1,i,b,j,hl,k=>by
  have m:e≤b.length:=by rw [hl,add_mul];omega
  obtain⟨d,r,o,p,q⟩ :=sY g he n (j.drop e) (by rw [length_drop,hl,add_mul];omega) (fun u f=>k u (mem_of_mem_drop f));cases g with
  | true=>
   refine⟨.agg ⟨b.take e⟩ ::d,VRs.cons (by simp only [cond,VR];exact⟨_,rfl,j.take e⟩) r,?_,by simp [p],?_⟩
   ·rw [jX,o];simp [Value.cells]
   · intro u f;rcases zq7.1 f with rfl|f
     · refine⟨by simp [Value.cells];omega,fun c hc=>?_⟩;simp only [Value.cells]at hc;exact k c (mem_of_mem_take hc)
     ·exact q u f
  | false=>
   have v:=he rfl;subst v;cases b with
   |nil=>simp at m
   | cons u b=>
    cases i with
    |nil=>obtain h0:=j.length;simp at h0
    | cons a B=>
     obtain⟨z,y,w,t,A⟩ :=j.cons_inv;cases w;have s:=k u (dJ ..);have hc:u.cells.toList= [u] :=by cases u<;>first|rfl| (simp [Value.oneCell']at s)
     refine⟨u::d,VRs.cons (by simpa using t) r,by rw [jX,o,hc];simp,by simp [p],?_⟩;intro x l;rcases zq7.1 l with rfl|l
     ·refine⟨by rw [←Array.length_toList,hc];rfl,fun c h=>by rw [hc]at h;simp at h;subst h;exact s⟩
     ·exact q x l
theorem qG (r:Rel E h w.heap){e:Nat}{ex:Bool}{j:Value}{c:List Value}(n:ImmS E.imm e ex j c) :
  ∃a b,j= .slice a c.length b∧ (a=none→b=0∧c= []) ∧ (ex=true→b=c.length) ∧c.length≤b∧∀d,a=some d→∀w1:World,w1.heap=w.heap→ (loadCells d (c.length*e)).run P w1= .ok ⟨flat c⟩ w1:=by
 obtain⟨hk,g| ⟨k,a,b,C,rfl,i,o,p,m⟩⟩ :=n
 · obtain⟨rfl,a,b,rfl,q,i⟩ :=g;refine⟨a,b,rfl,fun e=> ⟨q e,rfl⟩,i,zero_le _,fun d _ w1 _=>by simp [loadCells,loadCellsFrom,flat]⟩
 · refine⟨_,b,rfl,(fun e=>by cases e),p,o,fun d e w1 l=>?_⟩;cases e;obtain⟨s,f,g⟩ :=r.imm k C i;exact run_loadCells (flat c) (by rw [l];exact g) (flat_length hk) m
theorem addedE_sound (r : Rel E h w.heap) {N R v : TypeId} {e:Nat}{x:AV}{V:Value}{ys:List AV}(c:oH P h N e x=some ys)(f:P.underlying R=some (.slice v))(o:VR E x V) :
  ∃s,Adds P w R N e V (flat s) ys.length∧VRs E ys s∧∀u∈s,vM e u:=by
 have l:∀k,(TypeDesc.slice v) ≠ .int k:=fun k e=>by cases e
 unfold oH at c;split at c
 · cases c;simp only [VR]at o;subst o;exact⟨[],.nil _ f l,VRs.nil E,fun u f=>by cases f⟩
 · rename_i d b i len q esz X hd;cases hc:beq esz e with
   |false=>rw [hc]at c;cases c
   | true=>
    rw [hc]at c;simp only [cond]at c;have:=eP hc;subst this;split at c
    · rename_i n F;cases m: (cG n&& (isAggD d||beq esz 1))with
      |false=>rw [m]at c;cases c
      | true=>
       rw [m]at c;simp only at c;cases c;simp only [dC,or_eq_true]at m;simp only [VR]at o;obtain⟨L,z,Y,hE,rfl,U,g2,g3,B,g5⟩ :=o
       have he : isAggD d = false → esz = 1 := fun e => by rcases m.2 with g|g; · rw [e]at g;cases g
                                                           ·exact eP g
       have G:∃A,(∀t:World,t.heap=w.heap→ (loadCells ⟨L.blk,z,none⟩ (len*esz)).run P t= .ok ⟨A⟩ t) ∧VRs E n A∧A.length=len*esz:=old_cells r F hE B (fun e0=>by rw [show len=0 by omega,Nat.zero_mul]);obtain⟨A,S,D,J⟩ :=G;obtain⟨s,q1,q2,q3,q4⟩ :=sY (isAggD d) he len D J (D.ones m.1);refine⟨s,?_,q1,q4⟩;rw [yH,q2];exact .slice _ _ _ _ _ f l S
    ·cases c
 · rename_i H ys' X hd;cases hc:beq H e with
   |false=>rw [hc]at c;cases c
   | true=>
    rw [hc]at c;simp only [cond]at c;cases c;have:=eP hc;subst this;simp only [VR]at o;obtain⟨n,Q,T⟩ :=o;obtain⟨a,q,rfl,U,g2,g3,B⟩ :=qG (P:=P) r T;refine⟨n,?_,Q.of_p,T.1⟩;rw [←Q.length];cases a with
    |none=>obtain⟨rfl,rfl⟩ :=U rfl;exact .nil _ f l
    |some W=>exact .slice _ _ _ _ _ f l (B W rfl)
 · rename_i b H i len X hd;cases hc:beq H e with
   |false=>rw [hc]at c;cases c
   | true =>
    rw [hc]at c;simp only [cond]at c;have:=eP hc;subst this;split at c
    · rename_i e2 zs hb;split at c
      · rename_i p;cases c;obtain⟨rfl,M⟩ :=p;simp only [VR]at o;rcases o with⟨rfl,a,rfl⟩ | ⟨L,a,q,hE,rfl,S,D,J⟩
        · refine⟨[],?_,by simp;exact VRs.nil E,fun u f=>by cases f⟩;cases a with
          |none=>simp;exact .nil _ f l
          |some W=>simp;exact .slice _ _ _ _ _ f l (fun t _=>by simp [loadCells,loadCellsFrom,flat])
        · have ho:=r.objL hb hE;obtain⟨C,el2,n,o1,o2,O,I,o5⟩ :=ho;have Z:=O.length;refine⟨(n.drop i).take len,?_,(O.drop i).take len,fun u f=>I u (mem_of_mem_drop (mem_of_mem_take f))⟩;have hl: ((zs.drop i).take len).length=len:=by rw [length_take,length_drop];omega
          rw [hl];refine .slice _ _ _ _ _ f l (fun t hw=>?_);have y:∀u∈n.drop i,vM e2 u:=fun u f=>I u (mem_of_mem_drop f);by_cases K:q=0
          · have:len=0:=by omega
            subst this;simp [loadCells,loadCellsFrom,flat]
          · obtain⟨rfl,k4⟩ :=J K;refine run_loadCells _ (by rw [hw];exact o1) ?_ (fun j hj=>?_)
            · rw [flat_length (fun u f=>y u (mem_of_mem_take f)),length_take,length_drop];rw [show min len (n.length-i) =len by omega]
            · have h6:i*e2+len*e2≤n.length*e2:=by rw [←add_mul];exact mul_le_mul_right _ (by omega)
              rw [pG _ y,mA _ I,getElem?_take_of_lt hj,getElem?_drop,←o5 _ (by omega)];congr 1;omega
      ·cases c
    ·cases c
 ·cases c
theorem vW {b:Hp}(r:Rel E h w.heap)(p:Rel E b w.heap)(n:Ext E h w E b w)(f:b.nb=h.nb){e:Nat}{xs:List AV}{a:List Value}(o:VRs E xs a)(hk:∀u∈a,vM e u)(c:TypeId)(rest:List Value)(d:Nat) :
  Rel (E.put h.nb ⟨w.heap.size,0,(flat a++rest).length⟩) (b.new (.lst e xs)) (w.heap.push (.cells ⟨flat a++rest⟩ c)) ∧
   Ext E h w (E.put h.nb ⟨w.heap.size,0,(flat a++rest).length⟩) (b.new (.lst e xs)) {w with drawn:=d,heap:=w.heap.push (.cells ⟨flat a++rest⟩ c)}:=by
 obtain⟨k,i⟩ :=p.new (.lst e xs) (.cells ⟨flat a++rest⟩ c) (flat a++rest).length (fun q s g _ m=> ⟨⟨flat a++rest⟩,c,a,m,rfl,o.mono g,hk,fun j l=>by
  simp only [jS];rw [show(⟨flat a++rest⟩ :Array Value) = (flat a++rest).toArray from rfl,getElem?_toArray,wL (by rw [flat_length hk];exact l)]⟩)
 rw [f]at k i;exact⟨k,n.trans (i.drawn d)⟩
theorem aEy (d:Rel E h w.heap)(e:Nat) :Rel E (h.new (.lst e [])) w.heap∧Ext E h w E (h.new (.lst e [])) w:=by
 have f:E h.nb=none:=d.fresh _ (le_refl _)
 refine⟨⟨?_,?_,fun b hb=>d.fresh b (by rw [lH]at hb;omega),d.imm,?_,fun b o hb=>by
  rw [cA]at hb;rw [lH];split at hb
  ·omega
  ·have:=d.keys b o hb;omega⟩,⟨Emb.le.refl E,le_refl _,fun _ _ _=>rfl,?_,by simp [lH],rfl,rfl,rfl,fun _ _=>rfl,fun _ _=>rfl,fun _ _ e _=>.inl e,fun b o hb m=>by
  rw [cA,if_neg (by omega)]at hb;exact⟨o,hb⟩⟩⟩
 · intro b o hb;rw [cA]at hb;split at hb
   ·rename_i a;cases hb;subst a;exact .inl ⟨rfl,f⟩
   ·exact d.obj0 b o hb
 · intro b k o g L j hb a hE c;rw [cA]at hb a;rw [if_neg (fun e=>by subst e;rw [f]at hE;cases hE)]at hb;rw [if_neg (fun e=>by subst e;rw [f]at c;cases c)]at a;exact d.kin b k o g L j hb a hE c
 · intro b o L hb hE;rw [cA,if_neg (fun e=>by subst e;rw [f]at hE;cases hE)]at hb;exact d.apart b o L hb hE
 · intro b o L hb hE i l _;rw [cA,if_neg (fun e=>by subst e;rw [f]at hE;cases hE)]at hb;exact⟨b,o,L,hb,hE,l⟩
theorem Rel.drop (r:Rel E h w.heap)(b:Nat) :Rel E (h.del b) w.heap∧Ext E h w E (h.del b) w:=by
 have a:∀x o,(h.del b).look x=some o→h.look x=some o:=fun x o e=>by
  rw [mI]at e;split at e
  ·cases e
  ·exact e
 exact⟨r.sub a (le_refl _),⟨Emb.le.refl E,le_refl _,fun _ _ _=>rfl,fun b o L f c i d _=> ⟨b,o,L,a b o f,c,d⟩,le_refl _,rfl,rfl,rfl,fun _ _=>rfl,fun _ _=>rfl,fun _ _ e _=>.inl e,fun x o e _=> ⟨o,a x o e⟩⟩⟩
theorem sZ {b:Array TypeId}{ty st C f:TypeId}{e:Nat}{c:TypeInfo}{z:AV}(k:b[0]?=some st)(l:b[1]?=some C)(A:P.underlying st=some (.slice f))(m:aR P f=some e)(j:P.info? f=some c)(hz:zeroOf P f=some z)
  (y:z.cells.length=e) (x:1≤c.bytes) (p:c.bytes≤1000)
  {i:Hp} (r:Rel E h w.heap) (F:Rel E i w.heap) (I:Ext E h w E i w) (v:i.nb=h.nb) {ys:List AV} {o:List Value} {K:Value} (hA:Adds P w C f e K (flat o) ys.length) (n:VRs E ys o) (hk:∀u∈o,vM e u) (N:ys.length≤1000000) (a:Option Addr) :
  ∃B w' t,(Builtin.append_ b ty #[.slice a 0 0,K]).run P w= .ok B w'∧VR t (.gl h.nb e 0 ys.length false) B∧Rel t (i.new (.lst e ys)) w'.heap∧Ext E h w t (i.new (.lst e ys)) w':=by
 have hl:=n.length;by_cases G:ys= []
 · subst G;have:o= [] :=zq35.1 hl;subst this;obtain⟨q,s⟩ :=aEy F e;refine⟨.slice a 0 0,w,E,?_,by simp only [VR];exact .inl ⟨rfl,a,rfl⟩,q,I.trans s⟩;exact run_append_room (base:=a) (len:=0) (cap:=0) (w':=w) hA k l A m (by simp) (by cases a<;>simp [flat,storeCells])
 · have L:0<ys.length:=List.length_pos_iff.2 G;obtain⟨M,g,d,H,D,J⟩ :=run_append_grow (ty:=ty) (base:=a) (len:=0) (cap:=0) (os:=[]) hA hz j x p k l A m (by omega) (by omega) (fun O _=>by cases a<;>simp [Builtin.firstCells,loadCells,loadCellsFrom]);simp only [jS,List.nil_append]at H D J;obtain⟨q,s⟩ :=vW r F I v n hk f g d;refine⟨_,_,_,J,?_,q,s⟩;simp only [VR];refine .inr ⟨_,0,M,Emb.put_same _ _ _,rfl,H,(fun e=>by cases e),fun _=> ⟨by simp,?_⟩⟩;rw [pU,flat_length hk,D,y,hl,jS,←add_mul];exact mul_le_mul_right _ (by omega)
theorem uT (r:Rel E h w.heap){b e:Nat}{xs:List AV}(hb:h.look b=some (.lst e xs)){L:Loc}(hE:E b=some L){x:Nat}{o:AObj}{f:Loc}(i:h.look x=some o)(a:E x=some f)(c:x≠b) :¬Own o f L.blk:=fun d=>by
 rcases r.kin _ _ _ _ _ _ i hb a hE ⟨_,d,rfl⟩ c with⟨_,g,_⟩ | ⟨j,_⟩
 ·cases g
 ·cases j
theorem moved (r:Rel E h w.heap){b e:Nat}{xs:List AV}(hb:h.look b=some (.lst e xs)){L:Loc}(hE:E b=some L){C C2:Array Value}{B:TypeId}(Q:w.heap[L.blk]?=some (.cells C B (0,0)))(K:C2.size=L.sz)(D:Nat)
  {l:List AV} {k:List Value} (T:VRs E l k) (hk:∀u∈k,vM e u) (hC:∀j,j<k.length*e→C2[D+j]?= (flat k)[j]?) :
  Rel (E.put h.nb ⟨L.blk,D,L.sz⟩) ((h.del b).new (.lst e l)) (bP w L.blk (.cells C2 B (0,0))).heap ∧
   Ext E h w (E.put h.nb ⟨L.blk,D,L.sz⟩) ((h.del b).new (.lst e l)) (bP w L.blk (.cells C2 B (0,0))) :=by
 have W:E h.nb=none:=r.fresh _ (le_refl _);have s:E.le (E.put h.nb ⟨L.blk,D,L.sz⟩) :=Emb.le_put W;have c:∀ {x o},((h.del b).new (.lst e l)).look x=some o→ (x=h.nb∧o= .lst e l) ∨ (x≠h.nb∧x≠b∧h.look x=some o) :=by
  intro x o d;rw [cA,aFz]at d;split at d
  ·rename_i A;cases d;exact .inl ⟨A,rfl⟩
  · rename_i A;rw [mI]at d;split at d
    ·cases d
    ·rename_i M;exact .inr ⟨A,M,d⟩
 refine⟨⟨?_,?_,?_,r.imm_put hb hE _,?_,fun x o d=>by
  rw [lH,aFz];rcases c d with⟨rfl,_⟩ | ⟨_,_,g⟩
  ·omega
  ·have:=r.keys x o g;omega⟩,⟨s,by simp [bP],?_,?_,by simp [lH,aFz],rfl,rfl,rfl,fun x d=>Emb.put_ne _ _ (by omega),(fun a _=>qB Q rfl rfl a),fun _ _ e _=>.inl e,fun x o d Y=>by
  rcases c d with⟨rfl,_⟩ | ⟨_,_,g⟩
  ·omega
  ·exact⟨o,g⟩⟩⟩
 · intro x o d;rcases c d with⟨rfl,rfl⟩ | ⟨m,v,g⟩
   ·exact .inr ⟨_,Emb.put_same _ _ _,C2,B,k,mJ Q,K,T.mono s,hk,hC⟩
   · rcases r.obj0 x o g with⟨u1,X⟩ | ⟨q,O,U⟩
     ·exact .inl ⟨u1,by rw [Emb.put_ne _ _ m];exact X⟩
     ·exact .inr ⟨q,by rw [Emb.put_ne _ _ m];exact O,(U.mono s).heap fun i n=>by simp only [bP];rw [pW (fun A:L.blk=i=>uT r hb hE g O v (by rw [A];exact n))]⟩
 · intro x y Z V q S d N f t p z;rcases c d with⟨rfl,rfl⟩ | ⟨m,v,g⟩
   · rcases c N with⟨rfl,rfl⟩ | ⟨I,R,H⟩
     ·exact absurd rfl z
     · rw [Emb.put_same]at f;cases f;rw [Emb.put_ne _ _ I]at t;obtain⟨i,G,F⟩ :=p;obtain rfl:L.blk=i:=G;exact absurd F (uT r hb hE H t R)
   · rw [Emb.put_ne _ _ m]at f;rcases c N with⟨rfl,rfl⟩ | ⟨I,R,H⟩
     · rw [Emb.put_same]at t;cases t;obtain⟨i,G,F⟩ :=p;obtain rfl:L.blk=i:=F;exact absurd G (uT r hb hE g f v)
     · rw [Emb.put_ne _ _ I]at t;exact r.kin x y Z V q S g H f t p z
 · intro x d;rw [lH,aFz]at d;rw [Emb.put_ne _ _ (by omega)];exact r.fresh x (by omega)
 · intro x o q d f i n;show E.imm i=none;rcases c d with⟨rfl,rfl⟩ | ⟨m,v,g⟩
   ·rw [Emb.put_same]at f;cases f;exact r.apart b _ L hb hE i n
   ·rw [Emb.put_ne _ _ m]at f;exact r.apart x o q g f i n
 · intro i n J;simp only [bP];rw [pW (J b _ L hb hE)]
 · intro x o q d f i n _;rcases c d with⟨rfl,rfl⟩ | ⟨m,v,g⟩
   ·rw [Emb.put_same]at f;cases f;exact⟨b,_,L,hb,hE,n⟩
   ·rw [Emb.put_ne _ _ m]at f;exact⟨x,o,q,g,f,n⟩
def Emb.immPut (E:Emb)(k:Nat)(C:Array Value) :Emb:= ⟨E.loc,fun x=>if x=k then some C else E.imm x⟩
theorem aV8 (r:Rel E h w.heap)(C:Array Value)(l:TypeId)(d:Nat) :
  E.le (E.immPut w.heap.size C) ∧Rel (E.immPut w.heap.size C) h (w.heap.push (.cells C l)) ∧Ext E h w (E.immPut w.heap.size C) h {w with drawn:=d,heap:=w.heap.push (.cells C l)}:=by
 have c:∀ {i},i<w.heap.size→ (w.heap.push (.cells C l))[i]?=w.heap[i]?:=fun f=>by rw [Array.getElem?_push,if_neg (by omega)]
 have j:E.le (E.immPut w.heap.size C) := ⟨fun _ _ e=>e,fun k D e=>by
  have:=r.immLt e;show(if k=w.heap.size then some C else E.imm k) =some D;rw [if_neg (by omega)];exact e⟩
 refine⟨j,⟨?_,r.kin,r.fresh,?_,?_,r.keys⟩,(⟨j,by simp,fun i f _=>c f,fun b o L s n i f _=> ⟨b,o,L,s,n,f⟩,le_refl _,rfl,rfl,rfl,fun _ _=>rfl,(fun a _=>sP w rfl a),?_,fun _ o e _=> ⟨o,e⟩⟩ :Ext E h w (E.immPut w.heap.size C) h {w with heap:=w.heap.push (.cells C l)}).drawn d⟩
 · intro b o hb;rcases r.obj0 b o hb with u| ⟨L,p,m⟩
   ·exact .inl u
   ·exact .inr ⟨L,p,(m.mono j).heap fun i f=>c (m.lt i f)⟩
 · intro k D e;simp only [Emb.immPut]at e;split at e
   ·rename_i hk;cases e;subst hk;exact⟨l,(0,0),by simp⟩
   · obtain⟨q,t,g⟩ :=r.imm k D e;exact⟨q,t,by rw [c (zq44.1 g).1];exact g⟩
 · intro b o L hb hE i f;simp only [Emb.immPut];rw [if_neg (by have:=r.lt hb hE i f;omega)];exact r.apart b o L hb hE i f
 · intro k D e hk;simp only [Emb.immPut]at e;rw [if_neg (by omega)]at e;exact .inl e
set_option maxHeartbeats 1000000 in
theorem vappend_sound (r :Rel E h w.heap){t:Array TypeId}{ty:TypeId}{s x v:AV}{cs cx:Value}(l:kF P h t s x=some (v,h'))(X:VR E s cs)(hx:VR E x cx) :
  ∃cv w' E',(Builtin.append_ t ty #[cs,cx]).run P w= .ok cv w'∧VR E' v cv∧Rel E' h' w'.heap∧Ext E h w E' h' w':=by
 unfold kF at l;split at l
 · rename_i st xt hst F;split at l
   · rename_i el el' hu hu';split at l
     · rename_i e inf z G A hz;split at l
       ·cases l
       · rename_i ys hadd;cases hc: (beq z.cells.length e&&ble e 40&&ble inf.bytes 1000&&ble 1 inf.bytes&&ble 1 e)with
         |false=>rw [hc]at l;cases l
         | true =>
          rw [hc]at l;simp only [cond]at l;simp only [gG,aZ,dC,decide_eq_true_eq]at hc;obtain⟨⟨⟨⟨V,_⟩,K⟩,Q⟩,he1⟩ :=hc;obtain⟨J,hA,I,hk⟩ :=addedE_sound (P:=P) (w:=w) r hadd hu' hx;have H:=I.length;have hfl:=flat_length hk;split at l
          · -- the nil slice
            split at l
            · rename_i hn;cases l;simp only [VR]at X;subst X;exact sZ hst F hu G A hz V Q K r r (Ext.refl _ _ _) rfl hA I hk hn none
            ·cases l
          · rename_i b e' f len ex;split at l
            · rename_i e2 xs hb;split at l
              · rename_i p;cases l;obtain⟨rfl,rfl,hlen,hn⟩ :=p;simp only [VR]at X;obtain⟨rd,xd⟩ :=r.drop b;rcases X with⟨rfl,a,rfl⟩ | ⟨L,a,cap,hE,rfl,k1,k2,k3⟩
                · have:=sZ (ty:=ty) hst F hu G A hz V Q K r rd xd rfl hA I hk (by omega) a;simpa using this
                · obtain ⟨C,el2,o,o1,o2,o3,o4,o5⟩ :=r.objL hb hE;have hvl:=o3.length;have okd:∀u∈o.drop f,vM e2 u:=fun u hu=>o4 u (mem_of_mem_drop hu);have hvs:= (o3.drop f).take len;have R:∀u∈ (o.drop f).take len,vM e2 u:=fun u hu=>okd u (mem_of_mem_take hu);have B: ((o.drop f).take len).length=len:=by rw [length_take,length_drop];omega
                  have O:=hvs.append I
                  have m:∀u∈ (o.drop f).take len++J,vM e2 u:=fun u hu=>by
                   rcases zq28.1 hu with g|g
                   ·exact R u g
                   ·exact hk u g
                  have hle6:f*e2+len*e2≤o.length*e2:=by rw [←add_mul];exact mul_le_mul_right _ (by omega)
                  have M:∀j,j<len*e2→C[L.sh+f*e2+j]?= (flat ((o.drop f).take len))[j]?:=fun j U=>by
                   rw [pG _ okd,mA _ o4,getElem?_take_of_lt U,getElem?_drop,←o5 _ (by omega)];congr 1;omega
                  by_cases n:len+ys.length≤cap
                  · by_cases N:ys= []
                    · subst N;have hw0:J= [] :=zq35.1 H;subst hw0;obtain⟨S,T⟩ :=moved (C2:=C) r hb hE o1 o2 (L.sh+f*e2) O m (fun j U=>by rw [rZ]at U ⊢;exact M j (by rw [B]at U;exact U));rw [nK o1]at S T;refine⟨.slice (some ⟨L.blk,a,none⟩) (len+0) cap,w,_,?_,?_,S,T⟩
                      ·exact run_append_room (base:=some ⟨L.blk,a,none⟩) (len:=len) (cap:=cap) (w':=w) hA hst F hu G (by simpa using n) (by simp [flat,storeCells])
                      · simp only [VR];refine .inr ⟨_,a,cap,Emb.put_same _ _ _,by simp,by simpa using n,(fun e=>by cases e),fun hc0=>?_⟩;obtain⟨g1,Y⟩ :=k3 hc0;exact⟨by simp [g1],Y⟩
                    · have Z:0<ys.length:=List.length_pos_iff.2 N;obtain⟨g1,Y⟩ :=k3 (by omega);subst g1;have hm: (len+ys.length) *e2≤cap*e2:=mul_le_mul_right _ n;rw [add_mul]at hm;have W:L.sh+f*e2+len*e2+ (flat J).length≤C.size:=by rw [hfl,H,o2];omega
                      obtain⟨S,T⟩ :=moved (C2:=over C (L.sh+f*e2+len*e2) (flat J)) r hb hE o1 (by rw [jW];exact o2) (L.sh+f*e2) O m (fun j U=>by
                       rw [pU,B,add_mul]at U;rw [jG _ _ _ _ W,sX];have hfo: (flat ((o.drop f).take len)).length=len*e2:=by rw [flat_length R,B]
                       by_cases hj2:j<len*e2
                       ·rw [if_neg (by omega),wL (by omega)];exact M j hj2
                       · rw [if_pos (by rw [hfl];omega),aDR (by omega),hfo];congr 1;omega)
                      refine⟨.slice (some ⟨L.blk,L.sh+f*e2,none⟩) (len+ys.length) cap,_,_,?_,?_,S,T⟩
                      · refine run_append_room (base:=some ⟨L.blk,L.sh+f*e2,none⟩) (len:=len) (cap:=cap) hA hst F hu G n ?_;simp only [dW];have:=jH (P:=P) (flat J) (w:=w) (b:=L.blk) (k:=L.sh+f*e2+len*e2) (i:=0) o1 (by simpa using W) (aPL hk);simpa using this
                      · simp only [VR];exact .inr ⟨_,_,cap,Emb.put_same _ _ _,rfl,n,(fun e=>by cases e),fun _=> ⟨by simp,Y⟩⟩
                  · have Z:0<ys.length:=by omega
                    obtain⟨nc,q,d,m1,m2,m3⟩ :=run_append_grow (ty:=ty) (base:=some ⟨L.blk,a,none⟩) (len:=len) (cap:=cap) (os:=flat ((o.drop f).take len)) hA hz A Q K hst F hu G n (by omega) (fun w1 hw=>by
                     simp only [Builtin.firstCells];by_cases hc0:cap=0
                     · have:len=0:=by omega
                       subst this;simp [loadCells,loadCellsFrom,flat]
                     · obtain⟨g1,Y⟩ :=k3 hc0;subst g1;exact run_loadCells _ (by rw [hw];exact o1) (by rw [flat_length R,B]) M)
                    obtain⟨S,T⟩ :=vW r rd xd rfl O m el q d;rw [sX]at S T;refine⟨_,_,_,m3,?_,S,T⟩;simp only [VR];refine .inr ⟨_,0,nc,Emb.put_same _ _ _,rfl,m1,(fun e=>by cases e),fun _=> ⟨by simp,?_⟩⟩;rw [pU,pU,flat_length R,B,hfl,m2,V,H,jS,←add_mul,←add_mul];exact mul_le_mul_right _ (by omega)
              ·cases l
            ·cases l
          · -- a slice without room,and without elements
            split at l
            · rename_i p;cases l;obtain⟨rfl,hn⟩ :=p;simp only [VR]at X;obtain⟨o,h1,h2⟩ :=X;rw [h1.nil_inv]at h2;obtain⟨a,cap,rfl,_,Y,_⟩ :=qG (P:=P) r h2;rw [Y rfl];exact sZ hst F hu G A hz V Q K r r (Ext.refl _ _ _) rfl hA I hk hn a
            ·cases l
          · rename_i e' y xs;split at l
            · rename_i p;cases l;obtain⟨rfl,hkl,hn⟩ :=p;simp only [VR]at X;obtain⟨o,h1,h2⟩ :=X;have hvl:=h1.length;obtain⟨a,cap,rfl,g1,Y,g3,g4⟩ :=qG (P:=P) r h2;have hce:=Y rfl;subst hce;have hysp:=dX hkl I
              have m:∀u∈o++J,vM e' u:=fun u hu=>by
               rcases zq28.1 hu with g|g
               ·exact h2.1 u g
               ·exact hk u g
              by_cases N:ys= []
              · subst N;have hw0:J= [] :=zq35.1 H;subst hw0;refine⟨.slice a o.length o.length,w,E,?_,?_,r,Ext.refl _ _ _⟩
                ·exact run_append_room (base:=a) (len:=o.length) (cap:=o.length) (w':=w) hA hst F hu G (by simp) (by cases a<;>simp [flat,storeCells])
                · simp only [VR,rZ];refine⟨o,h1,h2.1,?_⟩;rcases h2.2 with⟨p1,p2,p3,p4,p5,p6⟩ | ⟨k,b,c,D,p1,p2,p3,p4,p5⟩
                  ·exact .inl ⟨p1,p2,p3,p4,p5,(fun e=>by cases e)⟩
                  ·exact .inr ⟨k,b,c,D,p1,p2,p3,(fun e=>by cases e),p5⟩
              · have Z:0<ys.length:=List.length_pos_iff.2 N;simp only [rY]at hn hvl
                obtain⟨nc,q,d,m1,m2,m3⟩ :=run_append_grow (ty:=ty) (base:=a) (len:=o.length) (cap:=o.length) (os:=flat o) hA hz A Q K hst F hu G (by omega) (by omega) (fun w1 hw=>by
                 cases a with
                 |none=>obtain⟨_,h0⟩ :=g1 rfl;subst h0;simp at hvl
                 |some ad=>simp only [Builtin.firstCells];exact g4 ad rfl w1 hw)
                obtain⟨hle,S,T⟩ :=aV8 r ⟨flat o++flat J++q⟩ el d;refine⟨_,_,_,m3,?_,S,T⟩;simp only [VR];refine⟨o++J,(h1.append hysp).mono hle.pp,m,.inr ⟨w.heap.size,0,nc,⟨flat o++flat J++q⟩,by rw [pU,H],by simp [Emb.immPut],by rw [pU,H];exact m1,(fun e=>by cases e),fun j U=>?_⟩⟩;rw [show(⟨flat o++flat J++q⟩ :Array Value) = (flat o++flat J++q).toArray from rfl,getElem?_toArray,jS,←sX,wL (by rw [flat_length m];exact U)]
            ·cases l
          ·cases l
     ·cases l
   ·cases l
 ·cases l
end
section
variable {P :Program} {E:Emb} {h h':Hp} {w w':World} {tm:T AV} {ρ:Operand→Value}
theorem uU {t:TypeId}{e:Nat}(a:sB P t e=true) :∃b,P.underlying t=some (.slice b) ∧aR P b=some e:=by
 unfold sB at a;split at a
 · rename_i b c;split at a
   ·rename_i s d;have:=eP a;subst this;exact⟨b,c,d⟩
   ·cases a
 ·cases a
theorem aFL {t:TypeId}{x v:AV}{D:Value}{lo hi mx:Option Nat}{p o i:Option Value}(d:wO P t x lo hi mx=some v)(y:VR E x D)
  (S:NVR lo p) (h2:NVR hi o) (R:NVR mx i) :∃cv,(Instr.sliceAt t D p o i).run P w= .ok cv w∧VR E v cv:=by
 unfold wO at d;split at d
 · rename_i e xs ex;cases hc:sB P t e with
   |false=>rw [hc]at d;cases d
   | true =>
    rw [hc]at d;simp only [cond]at d;obtain⟨el,V,G⟩ :=uU hc;simp only [VR]at y;obtain⟨q,k1,M⟩ :=y;have K:=k1.length
    have key :∀ (l u m:Nat) (n:Bool) (a:Option Addr) (cap:Nat),D= .slice a q.length cap→l≤u→u≤q.length→u≤m→m≤cap→ (n=true→m=u) →
      (Instr.sliceBounds true q.length cap p o i).run P w= .ok (l,u,m) w →
      ∃cv,(Instr.sliceAt t D p o i).run P w= .ok cv w∧VR E (.ilst e ((xs.drop l).take (u-l)) n) cv:=by
     intro l u m n a cap f W Q Z T s hb;refine⟨.slice (if m=l then a else a.map (·.add (l*e))) (u-l) (m-l),?_,?_⟩
     · subst f;simp [Instr.sliceAt,Instr.slice,aB V,hb,bM G]
     · simp only [VR];have Y:∀x∈ (q.drop l).take (u-l),vM e x:=fun x y=>M.1 x (mem_of_mem_drop (mem_of_mem_take y));have r: ((q.drop l).take (u-l)).length=u-l:=by rw [length_take,length_drop];omega
       refine⟨(q.drop l).take (u-l),(k1.drop l).take (u-l),Y,?_⟩;rcases M.2 with⟨z,b,c,h,B,A⟩ | ⟨k,b,c,C,h,B,A,O,p6⟩
       · subst z;rw [f]at h;cases h;simp only [length_nil]at Q;have hu0:u=0:=by omega
         have X:l=0:=by omega
         subst hu0;subst X;refine .inl ⟨by simp,_,m,rfl,fun H=>?_,fun he=>by have:=s he;omega⟩;have:a=none:=by
          split at H
          ·exact H
          ·cases a<;>simp at H ⊢
         have:=B this;omega
       · rw [f]at h;cases h;by_cases J:u-l=0
         · refine .inl ⟨zq35.1 (by omega),_,m-l,by rw [J],fun H=>?_,fun he=>by have:=s he;omega⟩;split at H<;>simp at H
         · have F:m≠l:=by omega
           refine .inr ⟨k,b+l*e,m-l,C,?_,B,by omega,fun he=>by rw [r];have:=s he;omega,fun j hj=>?_⟩
           ·rw [if_neg F,r];simp [dW]
           · rw [r]at hj;have h6:l*e+ (u-l) *e≤q.length*e:=by rw [←add_mul];exact mul_le_mul_right _ (by omega)
             rw [pG _ (fun x y=>M.1 x (mem_of_mem_drop y)),mA _ M.1,getElem?_take_of_lt hj,getElem?_drop,←p6 _ (by omega)];congr 1;omega
    obtain⟨a,cap,f,N,g⟩ :∃a cap,D= .slice a q.length cap∧q.length≤cap∧ (ex=true→cap=q.length) :=by
     rcases M.2 with⟨z,b,c,h,B,A⟩ | ⟨k,b,c,C,h,B,A,O,p6⟩
     ·subst z;exact⟨b,c,h,zero_le _,fun e=>A e⟩
     ·exact⟨_,c,h,A,O⟩
    split at d
    · rename_i hmx;split at d
      · rename_i hb;cases d;rw [←K]at hb ⊢;cases i with
        |some c=>exact R.elim
        | none=>
         have:=fV (P:=P) (w:=w) (isS:=true) (len:=q.length) (cap:=cap) S h2 (show NVR none none from trivial) (by simp) hb.1 (by simp only [getD_none];omega) (le_refl _)
         exact key _ _ cap _ a cap f hb.1 hb.2 (by omega) (le_refl _) (fun he=>by
          simp only [dC]at he;have h5:=eP he.2;have:=g he.1;omega) this
      ·cases d
    · rename_i m u;split at d
      · rename_i hb;cases d;simp only [getD_some]at hb ⊢;rw [←K]at hb;have:=fV (P:=P) (w:=w) (isS:=true) (len:=q.length) (cap:=cap) S h2 R (by simp) (by simpa using hb.1) (by simp only [getD_some];omega) (by simp only [getD_some];omega);exact key _ _ m _ a cap f hb.1 (by omega) hb.2.1 (by omega) (fun he=> (eP he).symm) (by simpa using this)
      ·cases d
    ·cases d
 · rename_i b e U len ex;cases hc:sB P t e with
   |false=>rw [hc]at d;cases d
   | true =>
    rw [hc]at d;simp only [cond]at d;obtain⟨el,V,G⟩ :=uU hc;have hx0:=y;simp only [VR]at y
    have key:∀ (l u m:Nat) (n:Bool) (a:Option Addr) (cap:Nat),D= .slice a len cap→l≤u→u≤len→u≤m→m≤cap→ (n=true→m=u) →
      (Instr.sliceBounds true len cap p o i).run P w= .ok (l,u,m) w →
      ∃cv,(Instr.sliceAt t D p o i).run P w= .ok cv w∧VR E (.gl b e (U+l) (u-l) n) cv:=by
     intro l u m n a cap f W Q Z T s hb;refine⟨.slice (if m=l then a else a.map (·.add (l*e))) (u-l) (m-l),?_,?_⟩
     · subst f;simp [Instr.sliceAt,Instr.slice,aB V,hb,bM G]
     · simp only [VR];rcases y with⟨z,I,h⟩ | ⟨L,I,c,z,h,B,A,O⟩
       · rw [f]at h;cases h;have:u=0:=by omega
         subst this;have:l=0:=by omega
         subst this;have:m=0:=by omega
         subst this;exact .inl ⟨rfl,_,rfl⟩
       · rw [f]at h;cases h;refine .inr ⟨L,if m=l then I else I+l*e,m-l,z,?_,by omega,fun he=>by have:=s he;omega,fun hc0=>?_⟩
         ·split<;>simp [dW]
         · have F:m≠l:=by omega
           rw [if_neg F];obtain⟨g1,g2⟩ :=O (by omega);have h6:l*e+ (m-l) *e≤cap*e:=by rw [←add_mul];exact mul_le_mul_right _ (by omega)
           exact⟨by rw [g1,add_mul];omega,by omega⟩
    obtain⟨a,cap,f,N,g⟩ :∃a cap,D= .slice a len cap∧len≤cap∧ (ex=true→cap=len) :=by
     rcases y with⟨z,I,h⟩ | ⟨L,I,c,z,h,B,A,O⟩
     ·subst z;exact⟨I,0,h,le_refl _,fun _=>rfl⟩
     ·exact⟨_,c,h,B,A⟩
    split at d
    · rename_i hmx;split at d
      · rename_i hb;cases d;cases i with
        |some c=>exact R.elim
        | none=>
         have:=fV (P:=P) (w:=w) (isS:=true) (len:=len) (cap:=cap) S h2 (show NVR none none from trivial) (by simp) hb.1 (by simp only [getD_none];omega) (le_refl _)
         exact key _ _ cap _ a cap f hb.1 hb.2 (by omega) (le_refl _) (fun he=>by
          simp only [dC]at he;have h5:=eP he.2;have:=g he.1;omega) this
      ·cases d
    · rename_i m u;split at d
      · rename_i hb;cases d;simp only [getD_some]at hb ⊢;have:=fV (P:=P) (w:=w) (isS:=true) (len:=len) (cap:=cap) S h2 R (by simp) (by simpa using hb.1) (by simp only [getD_some];omega) (by simp only [getD_some];omega);exact key _ _ m _ a cap f hb.1 (by omega) hb.2.1 (by omega) (fun he=> (eP he).symm) (by simpa using this)
      ·cases d
    ·cases d
 ·cases d
theorem aEz {v:Value}(h:v.oneCell'=true) :v.cells.toList= [v] :=by cases v<;>first|rfl| (simp [Value.oneCell']at h)
theorem yI {x i:AV}{e:Nat}{us:List Value}{v:Value}(p:x.one=true)(m:VR E x v)(hk:vM e v)(l:VRs E [i] us)(f:∀u∈us,u.oneCell'=true) :
  ∃b,VR E i b∧vM e b∧0+us.length≤e∧∀j,j<e→b.cells[j]?=if 0≤j∧j<0+us.length then us[j-0]? else v.cells[j]?:=by
 obtain⟨h,o,rfl,n,k⟩ :=l.cons_inv;rw [k.nil_inv]at f ⊢;have d:=aEz (m.one p);have he:e=1:=by have:=hk.1;rw [←Array.length_toList,d]at this;exact this.symm
 have a:=aEz (f h (dJ ..));refine⟨h,n,⟨by rw [←Array.length_toList,a,he];rfl,fun c hc=>by rw [a]at hc;simp at hc;subst hc;exact f _ (dJ ..)⟩,by simp [he],fun j q=>?_⟩;have g:j=0:=by omega
 subst g;rw [if_pos (by simp),←oZ,a]
theorem aDY {x s:AV}{o e:Nat}{k:List AV}{us:List Value}{v:Value}(a:uP x o k=some s)(i:VR E x v)(hk:vM e v)(h:VRs E k us)(p:∀u∈us,u.oneCell'=true) :
  ∃m,VR E s m∧vM e m∧o+us.length≤e∧∀j,j<e→m.cells[j]?=if o≤j∧j<o+us.length then us[j-o]? else v.cells[j]?:=by
 have hl:=h.length;unfold uP at a;split at a
 · rename_i w;cases hc:ble (o+k.length) w.length with
   |false=>rw [hc]at a;cases a
   | true =>
    rw [hc]at a;simp only [cond]at a;cases a;have A:=Nat.le_of_ble_eq_true hc;simp only [VR]at i;obtain⟨b,rfl,d⟩ :=i;have z:=d.length;have he:b.length=e:=by have:=hk.1;simpa [Value.cells]using this
    refine⟨.agg ⟨b.take o++us++b.drop (o+us.length)⟩,?_,⟨?_,?_⟩,by omega,fun j C=>?_⟩
    · simp only [VR];refine⟨_,rfl,?_⟩;unfold setAt;rw [←hl];exact((d.take o).append h).append (d.drop _)
    ·simp [Value.cells];omega
    · intro c f;simp only [Value.cells]at f;rcases zq28.1 f with g|g
      · rcases zq28.1 g with g|g
        ·exact hk.2 c (by simp only [Value.cells];exact mem_of_mem_take g)
        ·exact p c g
      ·exact hk.2 c (by simp only [Value.cells];exact mem_of_mem_drop g)
    · simp only [Value.cells];rw [show(⟨b.take o++us++b.drop (o+us.length)⟩ :Array Value) = (b.take o++us++b.drop (o+us.length)).toArray from rfl,getElem?_toArray,show(⟨b⟩ :Array Value) =b.toArray from rfl,getElem?_toArray];by_cases r:o≤j∧j<o+us.length
      · rw [if_pos r,wL (by simp;omega),aDR (by simp;omega)];congr 1;simp;omega
      · rw [if_neg r];by_cases y:j<o
        ·rw [wL (by simp;omega),wL (by simp;omega),getElem?_take_of_lt y]
        · rw [aDR (by simp;omega),getElem?_drop];congr 1;simp;omega
 ·cases a
 · split at a
   · split at a
     ·cases a;exact yI (x:=.val (.pointer _)) rfl i hk h p
     ·cases a
   ·cases a
 · rename_i l n q;split at a
   · rename_i B;cases a;have t:x.one=true:=by cases x<;>first|rfl|exact absurd rfl (l _) |exact absurd rfl (n _) |exact absurd rfl (q _)
     exact yI t i hk h p
   ·cases a
theorem aPM {e : Nat}{b:List Value}(hk:∀u∈b,vM e u){i:Nat}(r:i<b.length){v':Value}(f:vM e v') :
  (∀u∈b.set i v',vM e u) ∧∀j,j<b.length*e→ (flat (b.set i v'))[j]?=if i*e≤j∧j<i*e+e then v'.cells[j-i*e]? else(flat b)[j]?:=by
 have c:∀u∈b.set i v',vM e u:=fun u q=>by
  rcases List.mem_or_eq_of_mem_set q with g|g
  ·exact hk u g
  ·rw [g];exact f
 refine⟨c,fun j p=>?_⟩
 have he : 0 < e := by rcases Nat.eq_zero_or_pos e with g|g; · subst g;simp at p
                       ·exact g
 have o:j / e<b.length:=Nat.div_lt_of_lt_mul (by rw [Nat.mul_comm];exact p);have hr:j % e<e:=mod_lt _ he;have d:j=j / e*e+j % e:=by have:=Nat.div_add_mod j e;rw [Nat.mul_comm]at this;exact this.symm
 have h:=flat_get (v:= (b.set i v')[j / e]'(by simpa using o)) c (lZ _) hr;have l:=flat_get (v:=b[j / e]) hk (lZ o) hr;rw [←d]at h l;rw [h,l,List.getElem_set];by_cases a:i=j / e
 · rw [if_pos a,if_pos (by rw [a];omega)];congr 1;rw [a];omega
 · rw [if_neg a,if_neg (fun s=>a ?_)];have:=Nat.div_eq_of_lt_le (m:=j) (n:=e) (k:=i) (by omega) (by rw [succ_mul];omega);omega
theorem aFM (r:Rel E h w.heap){b e i o:Nat}{xs:List AV}{x p:AV}{H:List AV}{us:List Value}(hb:h.look b=some (.lst e xs)){L:Loc}(hE:E b=some L)(G:xs[i]?=some x)(Z:uP x o H=some p)(V:VRs E H us)(F:∀u∈us,u.oneCell'=true) :
  ∃w',(storeCells ⟨L.blk,L.sh+ (i*e+o),none⟩ us).run P w= .ok () w'∧Rel E (h.set b (.lst e (xs.set i p))) w'.heap∧Ext E h w E (h.set b (.lst e (xs.set i p))) w':=by
 obtain⟨C,s,D,K,o2,y,J,q⟩ :=r.objL hb hE;obtain⟨v,k1,W,O,z⟩ :=aCe y J q G;obtain⟨B,R,T,m3,N⟩ :=aDY Z W O V F;have I:= (zq0.1 k1).1;obtain⟨f1,f2⟩ :=aPM J I T;have U:i*e+e≤D.length*e:=by rw [←succ_mul];exact mul_le_mul_right _ I
 have c:us= [] ∨L.sh+ (i*e+o) +us.length≤C.size:=by
  by_cases A:us= []
  ·exact .inl A
  · have Q:0<us.length:=List.length_pos_iff.2 A;have Y:=z (o+us.length-1) (by omega);have M:v.cells[o+us.length-1]?≠none:=by rw [Array.getElem?_eq_getElem (by rw [O.1];omega)];simp
    rw [←Y]at M;have h9:L.sh+ (i*e+ (o+us.length-1)) <C.size:=by
     rcases lt_or_ge (L.sh+ (i*e+ (o+us.length-1))) C.size with g|g
     ·exact g
     ·exact absurd (Array.getElem?_eq_none g) M
    exact .inr (by omega)
 have run: (storeCells ⟨L.blk,L.sh+ (i*e+o),none⟩ us).run P w= .ok () (bP w L.blk (.cells (over C (L.sh+ (i*e+o)) us) s (0,0))) :=by
  rcases c with rfl|c
  ·simp [storeCells,over,nK K]
  · have:=jH (P:=P) us (w:=w) (b:=L.blk) (k:=L.sh+ (i*e+o)) (i:=0) K (by simpa using c) F;simpa using this
 obtain ⟨X,q2⟩ :=r.setObj (o':=.lst e (xs.set i p)) (.cells (over C (L.sh+ (i*e+o)) us) s (0,0)) hb hE rfl rfl (fun H' S=> ⟨over C (L.sh+ (i*e+o)) us,s,D.set i B,S,by rw [jW];exact o2,by
  refine VRs.of_get (by simp [y.length]) (fun k a f=>?_);rw [List.getElem?_set]at f ⊢;by_cases n:i=k
  · rw [if_pos n]at f ⊢;have hxl:= (zq0.1 G).1;rw [if_pos (by omega)]at f;rw [if_pos (by omega)];cases f;exact⟨B,rfl,R⟩
  · rw [if_neg n]at f ⊢;exact y.get k a f,f1,fun j l=>by
  rw [jP]at l;rw [f2 j l];rcases c with rfl|c
  · rw [over,q j l];split
    · rename_i d;have:=N (j-i*e) (by omega);simp only [length_nil,add_zero]at this;rw [if_neg (by omega)]at this;have t:=z (j-i*e) (by omega);rw [this,←t,show i*e+ (j-i*e) =j by omega,q j l]
    ·rfl
  · rw [jG _ _ _ _ c];by_cases d:i*e≤j∧j<i*e+e
    · rw [if_pos d,N _ (by omega)];by_cases m:o≤j-i*e∧j-i*e<o+us.length
      ·rw [if_pos m,if_pos (by omega)];congr 1;omega
      · rw [if_neg m,if_neg (by omega)];have t:=z (j-i*e) (by omega);rw [←t];congr 1;omega
    ·rw [if_neg d,if_neg (by omega),q j l]⟩)
 exact⟨_,run,X,q2⟩
theorem aFN (n:Nat){t:TypeId}{d:TypeDesc}(h:P.underlying t=some d){x y:AV}{r k:Value}{b:Bool}(u:plainKey d x=true)(j:plainKey d y=true)(c:lD x y=some b)(q:VR E x r)(g:VR E y k) :
  (Op.equalIn (n+1) t r k).run P w= .ok b w:=by
 rcases dM u q with⟨i,kk,m,rfl,rfl,rfl⟩ | ⟨l,m,rfl,rfl,rfl⟩ | ⟨p,rfl,rfl,rfl⟩
 · rcases dM j g with⟨s,e,f,a,rfl,rfl⟩ | ⟨o,f,a,_⟩ | ⟨p,a,_⟩
   · simp only [lD]at c;split at c
     ·rename_i hk;cases c;subst hk;simp [Op.equalIn,aB h]
     ·cases c
   ·cases a
   ·cases a
 · rcases dM j g with⟨s,e,f,a,_⟩ | ⟨o,f,a,rfl,rfl⟩ | ⟨p,a,_⟩
   ·cases a
   · have:=wR (d:=.string) rfl q g c;simp only [Instr.sameNow]at this;simp only [Op.equalIn,Sem.run_bind,aB h,Result.andThen_ok,Sem.run_pure];exact congrArg (Result.ok · w) (Option.some.inj this.1)
   ·cases a
 · rcases dM j g with⟨s,e,f,a,_⟩ | ⟨o,f,a,_⟩ | ⟨v,a,rfl,rfl⟩
   ·cases a
   ·cases a
   ·simp only [lD]at c;cases c;simp [Op.equalIn,aB h]
theorem yJ {d:TypeDesc}{x:AV}(h:plainKey d x=true) :isAggD d=false:=by
 unfold plainKey at h;split at h<;>first|rfl|cases h
theorem yK (n:Nat)(e:Field→Option Bool×Unit→Sem (ForInStep (Option Bool×Unit))){us h:List Value}:∀ (fs:List Field) (k:Nat) (i g:List AV) (b:Bool),jB P fs k i g=some b→VRs E i (us.drop k) →VRs E g (h.drop k) →
  (∀f∈fs,∀s,e f s= (do if f.name≠ "_" then if !(←Op.equalIn (n+1) f.type (←part f.type ⟨us⟩ f.offset) (←part f.type ⟨h⟩ f.offset))then pure (.done (some false,()))else pure (.yield (none,()))else pure (.yield (none,())) :Sem (ForInStep (Option Bool×Unit)))) →
  (forIn fs (none,()) e:Sem (Option Bool×Unit)).run P w= .ok (if b then(none,())else(some false,())) w
 | [],k,i,g,b,c,_,_,_=>by
  cases i<;>cases g<;>simp only [jB]at c<;>cases c;simp
 | f :: fs,k,i,g,b,c,u,K,hb=>by
  cases i with
  |nil=>cases g<;>simp [jB]at c
  | cons x i=>
   cases g with
   |nil=>simp [jB]at c
   | cons y g=>
    simp only [jB]at c;split at c
    · rename_i d m;cases hc: (beq f.offset k&& (f.name != "_") &&plainKey d x&&plainKey d y)with
      |false=>rw [hc]at c;cases c
      | true=>
       rw [hc]at c;simp only [cond]at c;simp only [dC,bne_iff_ne]at hc;obtain⟨⟨⟨l,M⟩,j⟩,o⟩ :=hc;have l:=eP l;split at c
       · rename_i a G q p;cases c;obtain⟨cx,us',t,v,C⟩ :=u.cons_inv;obtain⟨cy,vs',r,F,D⟩ :=K.cons_inv;have N:us[k]?=some cx:=by have:=congrArg (·[0]?) t;simpa using this
         have I:h[k]?=some cy:=by have:=congrArg (·[0]?) r;simpa using this
         have A:us.drop (k+1) =us':=by rw [←drop_drop,t];rfl
         have B:h.drop (k+1) =vs':=by rw [←drop_drop,r];rfl
         have J: (part f.type ⟨us⟩ f.offset).run P w= .ok cx w:=by
          simp [part,nL m,yJ j,l,show(⟨us⟩ :Array Value)[k]?=some cx by rw [show(⟨us⟩ :Array Value) =us.toArray from rfl,getElem?_toArray];exact N]
         have O: (part f.type ⟨h⟩ f.offset).run P w= .ok cy w:=by
          simp [part,nL m,yJ j,l,show(⟨h⟩ :Array Value)[k]?=some cy by rw [show(⟨h⟩ :Array Value) =h.toArray from rfl,getElem?_toArray];exact I]
         have H:=aFN (w:=w) n m j o q v F;have L:=yK n e fs (k+1) i g G p (by rw [A];exact C) (by rw [B];exact D) (fun f z=>hb f (dR _ z));rw [List.forIn_cons,hb f (dJ ..)];simp only [ne_eq,M,not_false_eq_true,if_true,Sem.run_bind,J,O,H,Result.andThen_ok];cases a with
         |true=>simp only [Bool.not_true,aAa,if_false,Sem.run_pure,Result.andThen_ok,lE];exact L
         |false=>simp
       ·cases c
    ·cases c
theorem aCf (n:Nat){t:TypeId}{fs:Array Field}(e:P.underlying t=some (.struct fs))(c:P.stoodInHeld t=false){xs ys:List AV}{us a:List Value}{b:Bool}(g:jB P fs.toList 0 xs ys=some b)(d:VRs E xs us)(h:VRs E ys a) :
  (Op.equalIn (n+2) t (.agg ⟨us⟩) (.agg ⟨a⟩)).run P w= .ok b w:=by
 have:=yK (w:=w) n (fun f s=> (do if f.name≠ "_" then if !(←Op.equalIn (n+1) f.type (←part f.type ⟨us⟩ f.offset) (←part f.type ⟨a⟩ f.offset))then pure (.done (some false,()))else pure (.yield (none,()))else pure (.yield (none,())) :Sem (ForInStep (Option Bool×Unit)))) fs.toList 0 xs ys b g (by simpa using d) (by simpa using h) (fun f _ s=>rfl);rw [Op.equalIn];simp only [Sem.run_bind,aB e,Result.andThen_ok,run_program,c,aAa,if_false];rw [←Array.forIn_toList];rw [this];cases b<;>rfl
theorem aAP {op:BinOp}{t:TypeId}(a:P.eqGuardType P.depth t=false)(X Y:Operand)(xs ys:Array Value) : (eqGuard op t X Y (.agg xs) (.agg ys)).run P w= .ok () w:=by
 cases op<;>simp [eqGuard,a]
set_option maxHeartbeats 4000000 in
theorem aKn (r:Rel E h w.heap){o:Oper}(m:Reads E tm ρ (· ∈o.op.operands)){out:AOut}(g:vop P h tm o=some out) :
  Out P E h w ((execOp ρ o).run P w) out∧ (cC o.op= .pure∨cC o.op= .read→aNt P E h w ((execOp ρ o).run P w) out) :=by
 unfold vop at g;unfold execOp;split at g
 all_goals (rename_i hop;try (simp only [hop];rw [hop]at m))
 · -- load
   rename_i t a;obtain⟨p,hp,g⟩ :=cB g;have l:=m _ (by simp [Op.operands]) _ hp;split at g
   · rename_i cs;obtain⟨v,H,rfl⟩ :=cN g;simp only [VR]at l;obtain⟨X,F,k,O,C,D,B,k3⟩ :=l;obtain⟨Z,f,k4⟩ :=r.imm k C B;obtain⟨cv,m1,m2⟩ :=aAO H F.of_p k4 k3;exact aN r (by simp [Instr.loadAt,D,Instr.sureAddr,m1]) m2
   · rename_i b e i k;split at g
     · rename_i e' xs hb;cases hc:beq e' e with
       |false=>rw [hc]at g;cases g
       | true=>
        rw [hc]at g;simp only [cond]at g;have:=eP hc;subst this;split at g
        · rename_i x hxi;obtain⟨v,H,rfl⟩ :=cN g;simp only [VR]at l;obtain⟨L,hE,D⟩ :=l;obtain⟨C,Z,Q,o1,o2,o3,o4,o5⟩ :=r.objL hb hE;obtain⟨u,q1,q2,q3,q4⟩ :=aCe o3 o4 o5 hxi
          obtain⟨cv,m1,m2⟩ :=aAO (w:=w) (o:=L.sh+ (i*e'+k)) H (q2.cells.drop k) o1 (fun j Y=>by
           rw [length_drop,Array.length_toList,q3.1]at Y;rw [getElem?_drop,oZ,←q4 _ (by omega)];congr 1;omega)
          exact aN r (by simp [Instr.loadAt,D,Instr.sureAddr,m1]) m2
        ·cases g
     ·cases g
   ·cases g
 · -- store
   rename_i t a x;obtain⟨p,v,hp,hxv,g⟩ :=eK g;have l:=m _ (by simp [Op.operands]) _ hp;have H:=m _ (by simp [Op.operands]) _ hxv;split at g
   · rename_i b e i k;split at g
     · rename_i e' xs n hb hn;cases hc: (beq e' e&&beq v.cells.length n&&ble (k+n) e&&cG v.cells)with
       |false=>rw [hc]at g;cases g
       | true=>
        rw [hc]at g;simp only [cond]at g;simp only [dC]at hc;obtain⟨⟨⟨hc1,hc2⟩,hc3⟩,hc4⟩ :=hc;have:=eP hc1;subst this;have hn2:=eP hc2;split at g
        · rename_i y G;split at g
          · rename_i y' hy';cases g;simp only [VR]at l;obtain⟨L,hE,D⟩ :=l;obtain⟨w',m1,m2,m3⟩ :=aFM (P:=P) r hb hE G hy' H.cells (H.cells.ones hc4);have hcl: (ρ x).cells.size=n:=by rw [←hn2,←H.cells.length];simp
            refine nq (by simp [cC]) ?_;exact sR (by simp [Instr.storeAt,D,Instr.sureAddr,storeVar,bM hn,hcl,m1]) m2 m3
          ·cases g
        ·cases g
     ·cases g
   ·cases g
 · -- fieldAddr
   rename_i t x f;obtain⟨a,I,g⟩ :=cB g;have l:=m _ (by simp [Op.operands]) _ I;split at g
   · rename_i cs;split at g
     · rename_i O ho;cases hc:blt O cs.length with
       |false=>rw [hc]at g;cases g
       | true=>
        rw [hc]at g;simp only [cond]at g;cases g;simp only [VR]at l;obtain⟨X,F,k,W,C,D,B,k3⟩ :=l;refine aN r (cv:=.pointer (some ⟨k,W+O,none⟩)) (by rw [D];exact qE ho _ _) ?_;simp only [VR];refine⟨X.drop O,F.drop O,k,W+O,C,rfl,B,fun j Y=>?_⟩;rw [length_drop]at Y;rw [getElem?_drop,←k3 _ (by omega)];congr 1;omega
     ·cases g
   · rename_i b e i k;split at g
     · rename_i O ho;cases g;simp only [VR]at l;obtain⟨L,hE,D⟩ :=l;exact aN r (cv:=.pointer (some ⟨L.blk,L.sh+ (i*e+k) +O,none⟩)) (by rw [D];exact qE ho _ _) (by simp only [VR];exact⟨L,hE,by congr 3;omega⟩)
     ·cases g
   ·cases g
 · -- indexAddr
   rename_i t x ix;obtain⟨a,b,I,hb,g⟩ :=eK g;have l:=m _ (by simp [Op.operands]) _ I;have hi:=m _ (by simp [Op.operands]) _ hb;split at g
   · rename_i e xs ex;cases hc:sB P t e with
     |false=>rw [hc]at g;cases g
     | true =>
      rw [hc]at g;simp only [cond]at g;obtain⟨Z,M,U⟩ :=uU hc;split at g
      · rename_i k hk;split at g
        · rename_i y G;cases g;obtain⟨kk,S,V⟩ :=iR hk hi;simp only [VR]at l;obtain⟨Q,F,B⟩ :=l;have hvl:=F.length;rcases B.2 with⟨rfl,_⟩ | ⟨kb,W,cap,C,D,g1,g2,g3,g4⟩
          ·simp at hvl;omega
          · obtain⟨u,q1,q2⟩ :=F.get _ _ G;have q3:=B.1 u (oG q1);refine aN r (cv:=.pointer (some ⟨kb,W+k*e,none⟩)) ?_ ?_
            ·simp [Instr.indexAt,S,asIntOf,D,aB M,hvl,Nat.not_le.2 V,bM U,dW]
            · simp only [VR];refine⟨u.cells.toList,q2.cells,kb,W+k*e,C,rfl,g1,fun j Y=>?_⟩;rw [Array.length_toList,q3.1]at Y;have h6:k*e+e≤Q.length*e:=by rw [←succ_mul];exact mul_le_mul_right _ (by omega)
              rw [oZ,←flat_get B.1 q1 Y,←g4 _ (by omega)];congr 1;omega
        ·cases g
      ·cases g
   · rename_i b' e off len ex;cases hc:sB P t e with
     |false=>rw [hc]at g;cases g
     | true=>
      rw [hc]at g;simp only [cond]at g;obtain⟨Z,M,U⟩ :=uU hc;split at g
      · rename_i k hk;cases g;obtain⟨kk,S,V⟩ :=iR hk hi;simp only [VR]at l;rcases l with⟨rfl,_⟩ | ⟨L,W,cap,hE,D,g2,g3,g4⟩
        ·omega
        · obtain⟨rfl,_⟩ :=g4 (by omega);refine aN r (cv:=.pointer (some ⟨L.blk,L.sh+off*e+k*e,none⟩)) ?_ (by simp only [VR];exact⟨L,hE,by rw [add_mul];congr 3;omega⟩);simp [Instr.indexAt,S,asIntOf,D,aB M,Nat.not_le.2 V,bM U,dW]
      ·cases g
   ·cases g
 · -- slice
   rename_i t x lo hi mx;obtain⟨a,I,g⟩ :=cB g;split at g
   · rename_i l1 l2 l3 R e2 e3;split at g
     · rename_i b1 b2 b3 d1 d2 d3;obtain⟨v,H,rfl⟩ :=cN g;obtain⟨cv,F,B⟩ :=aFL (w:=w) H (m _ (by simp [Op.operands]) _ I) (pE d1 (iT m (fun y G=>by subst G;simp [Op.operands]) R)) (pE d2 (iT m (fun y G=>by subst G;simp [Op.operands]) e2)) (pE d3 (iT m (fun y G=>by subst G;simp [Op.operands]) e3));exact aN r F B
     ·cases g
   ·cases g
 · -- '==' on structs
   rename_i op t x y yt;obtain⟨a,b,I,hb,g⟩ :=eK g;have l:=m _ (by simp [Op.operands]) _ I;have G:=m _ (by simp [Op.operands]) _ hb;split at g
   · rename_i xs ys;simp only [VR]at l G;obtain⟨X,hL1,q1⟩ :=l;obtain⟨Q,hL2,q2⟩ :=G;split at g
     · rename_i fs M;cases hc: (!(P.eqGuardType P.depth t) && !(P.stoodInHeld t))with
       |false=>rw [hc]at g;cases g
       | true=>
        rw [hc]at g;simp only [cond]at g;simp only [dC,not_eq_true']at hc;cases T:jB P fs.toList 0 xs ys with
        |none=>rw [T]at g;cases op<;>cases g
        | some b'=>
         rw [T]at g;have:=aCf (w:=w) 9998 M hc.2 T q1 q2;have: (Op.equal t (.agg ⟨X⟩) (.agg ⟨Q⟩)).run P w= .ok b' w:=this;cases op<;>simp only at g<;>cases g
         · refine aN r (cv:=.bool b') ?_ (by simp [VR]);simp only [hL1,hL2,Sem.run_bind,aAP hc.1,Result.andThen_ok];simp [binOp,this]
         · refine aN r (cv:=.bool (!b')) ?_ (by simp [VR]);simp only [hL1,hL2,Sem.run_bind,aAP hc.1,Result.andThen_ok];simp [binOp,this]
     ·cases g
   ·cases g
 · -- len, append
   rename_i c;have hm:c.args.map ρ= ⟨c.args.toList.map ρ⟩ :=by apply Array.ext';simp
   have J:∀ {aS},fJ tm c.args.toList=some aS→VRs E aS (c.args.toList.map ρ) :=fun hh=>m.list (fun x l=>by simp only [Op.operands,Call.operands,Array.mem_append];exact .inr (by simpa using l)) hh;split at g
   · rename_i x A q;have I:=J q;obtain⟨cx,X,R,l,hn⟩ :=I.cons_inv;rw [hn.nil_inv]at R;have N:c.args.map ρ= #[cx] :=by rw [hm,R]
     split at g
     · rename_i t e xs ex ht;split at g
       · rename_i Z M;cases g;simp only [VR]at l;obtain⟨Q,F,B⟩ :=l;obtain⟨a,cap,rfl,_⟩ :=qG (P:=P) r B;rw [←F.length];have z: (do let d ←resolve ρ c o.type;invoke d.target d.args:Sem Next).run P w= .ok (.value (.int .i64 Q.length)) w:=by
          simp [resolve,A,N,invoke,builtin,Builtin.len_,ht,aB M,goInt]
         have K:VR E (.int .i64 Q.length) (.int .i64 Q.length) :=by simp only [VR]
         exact⟨⟨E,w,_,.inl z,K,r,Ext.refl _ _ _⟩,fun _=> ⟨rfl,_,z,K⟩⟩
       ·cases g
     · rename_i t b e off len ex ht;split at g
       · rename_i Z M;cases g;simp only [VR]at l;have:∃a cap,cx= .slice a len cap:=by
          rcases l with⟨rfl,a,rfl⟩ | ⟨L,a,cap,_,rfl,_⟩
          ·exact⟨a,0,rfl⟩
          ·exact⟨_,cap,rfl⟩
         obtain⟨a,cap,rfl⟩ :=this;have z: (do let d ←resolve ρ c o.type;invoke d.target d.args:Sem Next).run P w= .ok (.value (.int .i64 len)) w:=by
          simp [resolve,A,N,invoke,builtin,Builtin.len_,ht,aB M,goInt]
         have K:VR E (.int .i64 len) (.int .i64 len) :=by simp only [VR]
         exact⟨⟨E,w,_,.inl z,K,r,Ext.refl _ _ _⟩,fun _=> ⟨rfl,_,z,K⟩⟩
       ·cases g
     ·cases g
   · rename_i s x A q;have I:=J q;obtain⟨cs,X,R,hs,hn⟩ :=I.cons_inv;obtain⟨cx,us',e2,l,hn'⟩ :=hn.cons_inv;rw [hn'.nil_inv]at e2;rw [e2]at R;have N:c.args.map ρ= #[cs,cx] :=by rw [hm,R]
     obtain⟨v,h',H,rfl⟩ :=aEw g;obtain⟨cv,w',E',F,B,k3,k4⟩ :=vappend_sound (ty:=o.type) r H hs l;refine nq (by simp [cC,A]) ?_;have:=hY F B k3 k4;simpa [resolve,A,N,invoke,builtin]using this
   ·cases g
 ·cases g
theorem qH (r:Rel E h w.heap){o:Oper}(a:Reads E tm ρ (· ∈o.op.operands)){out:AOut}(b:iO P h tm o=some out) :
  Out P E h w ((execOp ρ o).run P w) out∧ (cC o.op= .pure∨cC o.op= .read→aNt P E h w ((execOp ρ o).run P w) out) :=by
 unfold iO at b;split at b
 ·rename_i c hr;cases b;exact aHF r a hr
 ·exact aKn r a b
theorem iU (r:Rel E h w.heap){o:Oper}(a:Reads E tm ρ (· ∈o.op.operands)){out:AOut}(b:iO P h tm o=some out) :Out P E h w ((execOp ρ o).run P w) out:= (qH r a b).1
end
section
variable {P :Program} {E:Emb} {h h':Hp} {w w':World}
section
variable {fn :FuncId} {tmps:Array Value} {ds:List Deferred} {kd:CallKind} {ro:Option Nat} {ops:Array Oper} {i:Nat} {rest:List Nat} {k:List Item} {cs:List Frame} {o:Oper}
abbrev rf (fn:FuncId)(tmps:Array Value)(todo:List Item)(ds:List Deferred)(kd:CallKind)(ro:Option Nat) :Frame:={fn,tmps,todo,defers:=ds,mode:=.run,kind:=kd,roundOf:=ro}
theorem iV (ho:ops[i]?=some o)(hw:Region.wanted o (yielded ops tmps) =true)(hd:ro=none∨∀c,o.op≠ .defer c) :
  stepG P true {frame:=rf fn tmps (.inRegion ops (i::rest) ::k) ds kd ro,callers:=cs,status:=.running,dying:=none} w =
   stepG.apply P true (rf fn tmps (.inRegion ops (i::rest) ::k) ds kd ro) cs none (execOp (rf fn tmps (.inRegion ops (i::rest) ::k) ds kd ro).eval o) w:=by
 simp only [stepG,stepG.exec,stepG.oper,Frame.oper?,ho,map_some,getD_some,hw,if_true];rcases hd with rfl|hd
 ·rfl
 · cases ro with
   |none=>rfl
   | some l=>
    cases hop:o.op<;>first|rfl|exact absurd hop (hd _)
theorem wS (ho:ops[i]?=some o)(hw:Region.wanted o (yielded ops tmps) =true)(hd:ro=none∨∀c,o.op≠ .defer c){v:Value}
  (hr: (execOp (rf fn tmps (.inRegion ops (i::rest) ::k) ds kd ro).eval o).run P w= .ok (.value v) w') :
  step P (lone (rf fn tmps (.inRegion ops (i::rest) ::k) ds kd ro) cs w) = .next (lone ((rf fn tmps (.inRegion ops (i::rest) ::k) ds kd ro).finish v) cs w') :=
 step_lone_go (by rw [iV ho hw hd];simp [stepG.apply,hr])
theorem aCg (ho:ops[i]?=some o)(hw:Region.wanted o (yielded ops tmps) =true)(hd:ro=none∨∀c,o.op≠ .defer c)
  (hr: (execOp (rf fn tmps (.inRegion ops (i::rest) ::k) ds kd ro).eval o).run P w= .ok .skip w') :
  step P (lone (rf fn tmps (.inRegion ops (i::rest) ::k) ds kd ro) cs w) = .next (lone ((rf fn tmps (.inRegion ops (i::rest) ::k) ds kd ro).finish Go.undef) cs w') :=
 step_lone_go (by rw [iV ho hw hd];simp [stepG.apply,hr])
theorem wT (ho:ops[i]?=some o)(hw:Region.wanted o (yielded ops tmps) =true)(hd:ro=none∨∀c,o.op≠ .defer c){f:FuncId}{args:Array Value}
  (hr: (execOp (rf fn tmps (.inRegion ops (i::rest) ::k) ds kd ro).eval o).run P w= .ok (.enter f args) w') :
  step P (lone (rf fn tmps (.inRegion ops (i::rest) ::k) ds kd ro) cs w) = .next (lone (Frame.enter P f args .normal) (rf fn tmps (.inRegion ops (i::rest) ::k) ds kd ro::cs) w') :=
 step_lone_go (by rw [iV ho hw hd];simp [stepG.apply,hr])
theorem aCh (ho:ops[i]?=some o)(hw:Region.wanted o (yielded ops tmps) =true)(hd:ro=none∨∀c,o.op≠ .defer c){l:Nat}{f:FuncId}{t:Array Value}{aS bd:Code}
  (hr: (execOp (rf fn tmps (.inRegion ops (i::rest) ::k) ds kd ro).eval o).run P w= .ok (.round l f t aS bd) w') :
  step P (lone (rf fn tmps (.inRegion ops (i::rest) ::k) ds kd ro) cs w) = .next (lone (Frame.round l f t aS bd .normal) (rf fn tmps (.inRegion ops (i::rest) ::k) ds kd ro::cs) w') :=
 step_lone_go (by rw [iV ho hw hd];simp [stepG.apply,hr])
theorem aHG (ho:ops[i]?=some o)(hw:Region.wanted o (yielded ops tmps) =true){d:Deferred}
  (hr: (execOp (rf fn tmps (.inRegion ops (i::rest) ::k) ds kd none).eval o).run P w= .ok (.defer d) w') :
  step P (lone (rf fn tmps (.inRegion ops (i::rest) ::k) ds kd none) cs w) = .next (lone ((rf fn tmps (.inRegion ops (i::rest) ::k) (d::ds) kd none).finish Go.undef) cs w') :=
 step_lone_go (by rw [iV ho hw (.inl rfl)];simp [stepG.apply,hr])
theorem aHH (ho:ops[i]?=some o)(hw:Region.wanted o (yielded ops tmps) =true)(hd:ro=none∨∀c,o.op≠ .defer c){v:Value}
  (hr: (execOp (rf fn tmps (.inRegion ops (i::rest) ::k) ds kd ro).eval o).run P w= .halt (.panic v) w') :
  step P (lone (rf fn tmps (.inRegion ops (i::rest) ::k) ds kd ro) cs w) = .next (lone ((rf fn tmps (.inRegion ops (i::rest) ::k) ds kd ro).raise [{v,recovered:=false}]) cs w') :=
 step_lone_go (by rw [iV ho hw hd];simp [stepG.apply,hr])
theorem aDZ (ho:ops[i]?=some o)(hw:Region.wanted o (yielded ops tmps) =true){c:Frame}
  (hr: (execOp (rf fn tmps (.inRegion ops (i::rest) ::k) ds .deferred none).eval o).run P w= .ok .recover w') :
  step P (lone (rf fn tmps (.inRegion ops (i::rest) ::k) ds .deferred none) (c::cs) w) =
   (match c.mode with
    | .panicking ({v,recovered:=false,goexit:=false}::older) =>.next (lone ((rf fn tmps (.inRegion ops (i::rest) ::k) ds .deferred none).finish v) ({c with mode:=.panicking ({v,recovered:=true}::older)}::cs) w')
    |_=>.next (lone ((rf fn tmps (.inRegion ops (i::rest) ::k) ds .deferred none).finish .nilIface) (c::cs) w')) :=by
 split
 · rename_i v older hc;exact step_lone_go (by rw [iV ho hw (.inl rfl)];simp [stepG.apply,hr,tryRecover,hc])
 · rename_i hno;refine step_lone_go ?_;rw [iV ho hw (.inl rfl)];simp only [stepG.apply,Sem.runT_eq,if_true,hr];have:tryRecover (rf fn tmps (.inRegion ops (i::rest) ::k) ds .deferred none) (c::cs) =none:=by
    simp only [tryRecover]
   simp [this]
theorem vX (ho:ops[i]?=some o)(hw:Region.wanted o (yielded ops tmps) =false) :
  step P (lone (rf fn tmps (.inRegion ops (i::rest) ::k) ds kd ro) cs w) = .next (lone ((rf fn tmps (.inRegion ops (i::rest) ::k) ds kd ro).finish Go.undef) cs w) :=
 step_lone_go (by
  have h1: ((ops[i]?).map (Region.wanted · (yielded ops tmps))).getD false=false:=by rw [ho];simpa using hw
  simp [stepG,stepG.exec,h1])
theorem aD0 (v:Value) : (rf fn tmps (.inRegion ops (i::rest) ::k) ds kd ro).finish v =
  rf fn (match(ops[i]?).bind (·.dst)with|some d=>tmps.setIfInBounds d v|none=>tmps) (.inRegion ops rest::k) ds kd ro:=rfl
theorem vY :step P (lone (rf fn tmps (.inRegion ops [] ::k) ds kd ro) cs w) = .next (lone (rf fn tmps k ds kd ro) cs w) :=step_lone_go (by simp [stepG,stepG.exec])
theorem aT5 :step P (lone (rf fn tmps (.code .skip::k) ds kd ro) cs w) = .next (lone (rf fn tmps k ds kd ro) cs w) :=step_lone_go (by simp [stepG,stepG.exec])
theorem aPN (l:Nat) :step P (lone (rf fn tmps (.code (.label l) ::k) ds kd ro) cs w) = .next (lone (rf fn tmps k ds kd ro) cs w) :=step_lone_go (by simp [stepG,stepG.exec])
theorem aKo (l:Nat) :step P (lone (rf fn tmps (.inBlock l::k) ds kd ro) cs w) = .next (lone (rf fn tmps k ds kd ro) cs w) :=step_lone_go (by simp [stepG,stepG.exec])
theorem aKp (c:Code) :step P (lone (rf fn tmps (.inScope c::k) ds kd ro) cs w) = .next (lone (rf fn tmps k ds kd ro) cs w) :=step_lone_go (by simp [stepG,stepG.exec])
theorem aV9 (a b:Code) :step P (lone (rf fn tmps (.code (.seq a b) ::k) ds kd ro) cs w) = .next (lone (rf fn tmps (.code a:: .code b::k) ds kd ro) cs w) :=step_lone_go (by simp [stepG,stepG.exec])
theorem aPO (id:Nat)(c:Code) :step P (lone (rf fn tmps (.code (.block id c) ::k) ds kd ro) cs w) = .next (lone (rf fn tmps (.code c:: .inBlock id::k) ds kd ro) cs w) :=step_lone_go (by simp [stepG,stepG.exec])
theorem aT6 (c:Code) :step P (lone (rf fn tmps (.code (.loop c) ::k) ds kd ro) cs w) = .next (lone (rf fn tmps (.code c:: .inLoop c::k) ds kd ro) cs w) :=step_lone_go (by simp [stepG,stepG.exec])
theorem aNx (c:Code) :step P (lone (rf fn tmps (.inLoop c::k) ds kd ro) cs w) = .next (lone (rf fn tmps (.code c:: .inLoop c::k) ds kd ro) cs w) :=step_lone_go (by simp [stepG,stepG.exec])
theorem aPP (c:Code) :step P (lone (rf fn tmps (.code (.scope c) ::k) ds kd ro) cs w) = .next (lone (rf fn tmps (.code c:: .inScope c::k) ds kd ro) cs w) :=step_lone_go (by simp [stepG,stepG.exec])
theorem aMH (c:Operand)(x y:Code)(t:Bool)(h: (rf fn tmps (.code (.cond c x y) ::k) ds kd ro).eval c= .bool t) :step P (lone (rf fn tmps (.code (.cond c x y) ::k) ds kd ro) cs w) = .next (lone (rf fn tmps (.code (if t then x else y) ::k) ds kd ro) cs w) :=
 step_lone_go (by simp [stepG,stepG.exec,h])
theorem aNy (id:Nat) :step P (lone (rf fn tmps (.code (.region id ops false) ::k) ds kd ro) cs w) = .next (lone (rf fn tmps (.inRegion ops (List.range ops.size) ::k) ds kd ro) cs w) :=step_lone_go (by simp [stepG,stepG.exec])
theorem aT7 (id:Nat) :step P (lone (rf fn tmps (.code (.region id ops true) ::k) ds kd ro) cs w) =
  .next (lone (rf fn tmps (.inRegion ops (Region.schedule (P.follows .mixedOrders) ops (w.tape w.drawn (.order fn id))) ::k) ds kd ro) cs {w with drawn:=w.drawn+1}) :=
 step_lone_go (by simp [stepG,stepG.exec,choose,Sem.run,Question.forced,Question.cut])
theorem aT8 (id:Nat){k':List Item}(h:exitTo id k=some k') :step P (lone (rf fn tmps (.code (.exit id) ::k) ds kd ro) cs w) = .next (lone (rf fn tmps k' ds kd ro) cs w) :=step_lone_go (by simp [stepG,stepG.exec,h])
theorem aT9 (l:Nat){k':List Item}(h:gotoIn l k=some k') :step P (lone (rf fn tmps (.code (.goto l) ::k) ds kd ro) cs w) = .next (lone (rf fn tmps k' ds kd ro) cs w) :=step_lone_go (by simp [stepG,stepG.exec,h])
theorem aWa :step P (lone (rf fn tmps [] ds kd none) cs w) = .next (lone {rf fn tmps [] ds kd none with mode:=.returning} cs w) :=step_lone_go (by simp [stepG,stepG.exec])
theorem aWb :step P (lone (rf fn tmps (.code .ret::k) ds kd none) cs w) = .next (lone {rf fn tmps (.code .ret::k) ds kd none with mode:=.returning} cs w) :=step_lone_go (by simp [stepG,stepG.exec])
theorem aD1 {l:Nat}(h: (Instr.beginRound l).run P w= .ok () w') :step P (lone (rf fn tmps (.beginRound::k) ds kd (some l)) cs w) = .next (lone (rf fn tmps k ds kd (some l)) cs w') :=
 step_lone_go (by simp [stepG,stepG.exec,stepG.apply,h,Frame.finish])
theorem aPQ {l:Nat}{jump:Option Code}(h: (Instr.endLoop l).run P w= .ok jump w') :step P (lone (rf fn tmps (.endRangeFunc l::k) ds kd ro) cs w) = .next (lone (rf fn tmps ((jump.map Item.code).toList++k) ds kd ro) cs w') :=
 step_lone_go (by simp [stepG,stepG.exec,h])
def handed (fr c:Frame)(v:Value) :Frame:=
 match fr.kind with
 | .normal=>c.finish v
 |_=>{c with mode:=settle c.mode}
theorem eY {fr c:Frame}{v:Value}(hk:fr.kind= .normal∨fr.kind= .deferred) :
  (doReturn P true fr (c::cs) none v w).bare= .go {frame:=handed fr c v,callers:=cs,status:=.running,dying:=none} w:=by
 rcases hk with hk|hk
 ·simp [doReturn,hk,handed]
 · simp only [doReturn,hk,handed,settle];split<;> (try split) <;>simp_all
theorem tA {jump:Option Code}{l:Nat}{todo:List Item}{c:Frame}{v:Value}(hk:kd= .normal∨kd= .deferred)
  (ht: (todo= [] ∧jump=none) ∨ (∃k,todo= .code .ret::k∧jump=some .ret) ∨ (∃id k,todo= .code (.exit id) ::k∧jump=some (.exit id) ∧exitTo id k=none) ∨ (∃t k,todo= .code (.goto t) ::k∧jump=some (.goto t) ∧gotoIn t k=none))
  (h: (Instr.endRound l jump).run P w= .ok v w') :
  step P (lone (rf fn tmps todo ds kd (some l)) (c::cs) w) = .next (lone (handed (rf fn tmps todo ds kd (some l)) c v) cs w') :=by
 refine step_lone_go ?_;rcases ht with⟨rfl,rfl⟩ | ⟨k,rfl,rfl⟩ | ⟨id,k,rfl,rfl,hx⟩ | ⟨t,k,rfl,rfl,hx⟩
 ·simp only [stepG,stepG.exec,Sem.runT_eq,h,GStep.bare_after];exact eY hk
 ·simp only [stepG,stepG.exec,Sem.runT_eq,h,GStep.bare_after];exact eY hk
 ·simp only [stepG,stepG.exec,hx,elim,Sem.runT_eq,h,GStep.bare_after];exact eY hk
 ·simp only [stepG,stepG.exec,hx,elim,Sem.runT_eq,h,GStep.bare_after];exact eY hk
theorem aHI {fr c:Frame}{v:Value}{fd:Func}(hm:fr.mode= .returning)(hd:fr.defers= [])(hf:P.funcs[fr.fn]?=some fd)(hr: (results fd fr.tmps).run P w= .ok v w)(hk:fr.kind= .normal∨fr.kind= .deferred) :
  step P (lone fr (c::cs) w) = .next (lone (handed fr c v) cs w) :=
 step_lone_go (by
  simp only [stepG,unwind,hm,hd,hf,Sem.runT_eq,hr,GStep.bare_after];exact eY hk)
theorem tB {fr c:Frame}{chain:List PanicEntry}{fd:Func}(hm:fr.mode= .panicking chain)(hd:fr.defers= [])(hf:P.funcs[fr.fn]?=some fd) :
  step P (lone fr (c::cs) w) = .next (lone (c.raise chain) cs w) :=
 step_lone_go (by simp [stepG,unwind,hm,hd,Frame.catches,hf])
theorem aAQ {fr:Frame}{f:FuncId}{cap args:Array Value}{ds:List Deferred}(hm:fr.mode≠ .run)(hd:fr.defers= {target:=.fn (.func f) cap,args}::ds)(hc:dA P f=true) :
  step P (lone fr cs w) = .next (lone (Frame.enter P f (args++cap) .deferred) ({fr with defers:=ds}::cs) w) :=
 step_defer (P:=P) hm hd rfl (by simp [invoke,lQ hc])
theorem yL {fr:Frame}{b:Nat}{ds cl:List Deferred}(hm:fr.mode≠ .run)(hd:fr.defers= {target:=.collected b,args:= #[]}::ds)(hr: (Instr.takeDeferred b).run P w= .ok cl w') :
  step P (lone fr cs w) = .next (lone {fr with defers:=cl++ds} cs w') :=
 step_lone_go (by
  cases h:fr.mode with
  |run=>exact absurd h hm
  |returning=>simp [stepG,unwind,h,hd,hr]
  |panicking c=>simp [stepG,unwind,h,hd,hr])
theorem aFO {g:Operand}{ps:Array Tmp}{assign body:Code}{l:Nat}{mark:List Deferred}{w₁ w₁' w₂:World}{d:Deferred}{nx:Next}{G:Frame}
  (he: (Instr.enterLoop fn tmps ps assign body ro).run P w= .ok (l,mark) w₁)
  (hres: (resolve (rf fn tmps (.inRangeFunc l::k) (mark++ds) kd ro).eval {callee:=.value g,args:= #[.const (.func (.yield l) #[] #[])],argTypes:= #[]} 0).run P w₁= .ok d w₁')
  (hinv: (invoke d.target d.args).run P w₁'= .ok nx w₂)
  (hG: (∃f args,nx= .enter f args∧G=Frame.enter P f args .normal) ∨ (∃l f t aS bd,nx= .round l f t aS bd∧G=Frame.round l f t aS bd .normal)) :
  step P (lone (rf fn tmps (.code (.rangeFunc g ps assign body) ::k) ds kd ro) cs w) = .next (lone G (rf fn tmps (.inRangeFunc l::k) (mark++ds) kd ro::cs) w₂) :=by
 refine step_lone_go ?_;rcases hG with⟨f,args,rfl,rfl⟩ | ⟨l',f,t,aS,bd,rfl,rfl⟩
 ·simp [stepG,stepG.exec,he,stepG.apply,hres,hinv]
 ·simp [stepG,stepG.exec,he,stepG.apply,hres,hinv]
end
theorem TR.put {tm:T AV}{nt:Nat}{tmps:Array Value}(r:TR E tm nt tmps){d:Nat}(hd:d<nt){a:AV}{v:Value}(hv:VR E a v) :TR E (tm.put d a) nt (tmps.setIfInBounds d v) :=by
 refine⟨by simp [r.1],fun t b hb=>?_⟩;rw [T.at_put]at hb;by_cases ht:t=d
 · subst ht;rw [if_pos rfl]at hb;cases hb;exact⟨v,by simp [r.1,hd],hv⟩
 · rw [if_neg ht]at hb;rw [pW (fun e=>ht e.symm)];exact r.2 t b hb
def yM (dst:Option Nat)(v:Value)(tmps:Array Value) :Array Value:=match dst with|some d=>tmps.setIfInBounds d v|none=>tmps
theorem aCi {tm tm':T AV}{nt:Nat}{tmps:Array Value}(r:TR E tm nt tmps){dst:Option Nat}{a:AV}{v:Value}(h0:fQ tm nt dst a=some tm')(hv:VR E a v) :TR E tm' nt (yM dst v tmps) :=by
 unfold fQ at h0;split at h0
 ·cases h0;exact r
 · rename_i d;rw [cF]at h0;by_cases hd:d<nt
   ·simp only [hd,decide_true,cond]at h0;cases h0;exact r.put hd hv
   ·simp only [hd,decide_false,cond]at h0;cases h0
theorem VR.not_bool {a:AV}{v:Value}(hv:VR E a v)(ha:∀b,a≠ .bool b)(ha2:∀u,a≠ .val u) :∀b,v≠ .bool b:=by
 intro b e;subst e;cases a<;>simp only [VR]at hv
 case bool b'=>exact ha b' rfl
 case val u=>exact ha2 u rfl
 case ilst=>obtain⟨vs,_,hv⟩ :=hv;rcases hv.2 with⟨_,_,_,hL,_⟩ | ⟨_,_,_,_,hL,_⟩ <;>cases hL
 case iptr=>obtain⟨us,_,_,_,_,hL,_⟩ :=hv;cases hL
 case gl=>rcases hv with⟨_,_,hL⟩ | ⟨_,_,_,_,hL,_⟩ <;>cases hL
 all_goals (first
  | (cases hv;done)
  | (obtain⟨_,_,hv⟩ :=hv;cases hv;done)
  | (obtain⟨_,_,_,_,hv,_⟩ :=hv;cases hv;done)
  | (obtain⟨_,_,hv,_⟩ :=hv;cases hv;done)
  | (obtain⟨_,hv,_⟩ :=hv;cases hv;done))
theorem tC {tm:T AV}{tmps:Array Value}{ops:Array Oper}{j:Nat}(r:∀o,ops[j]?=some o→∀t,o.dst=some t→∀a,tm.at t=some a→∃v,tmps[t]?=some v∧VR E a v){b:Option Bool}(h0:aFu tm ops.toList j=some b) :yielded ops tmps j=b:=by
 unfold aFu at h0;unfold yielded;rw [oZ]at h0;split at h0
 ·rename_i ho;cases h0;simp [ho]
 · rename_i o ho;split at h0
   ·rename_i hd;cases h0;simp [ho,hd]
   · rename_i d hd;split at h0
     · rename_i b' hb;cases h0;obtain⟨v,h1,h2⟩ :=r _ ho _ hd _ hb;simp only [VR]at h2;simp [ho,hd,h1,h2]
     ·cases h0
     · rename_i a hb hb2 ha;cases h0;obtain⟨v,h1,h2⟩ :=r _ ho _ hd _ ha;have:=h2.not_bool (fun b e=>by subst e;exact hb b rfl) (fun b e=>by subst e;exact hb2 b rfl);simp only [ho,hd,bind_some,h1];cases v<;>first|rfl|exact absurd rfl (this _)
     ·cases h0
theorem tD {tm:T AV}{tmps:Array Value}{ops:Array Oper}{o:Oper}(r:∀g want,o.guard=some (g,want) →∀o',ops[g]?=some o'→∀t,o'.dst=some t→∀a,tm.at t=some a→∃v,tmps[t]?=some v∧VR E a v){b:Bool}(h0:bC tm ops.toList o=some b) :Region.wanted o (yielded ops tmps) =b:=by
 unfold bC at h0;unfold Region.wanted;split at h0
 ·rename_i hg;cases h0;rw [hg]
 · rename_i j want hg;rw [hg];simp only;split at h0
   ·cases h0
   · rename_i hb;cases h0;rw [tC (r j want hg) hb];rfl
   · rename_i b' hb;cases h0;rw [tC (r j want hg) hb];rfl
theorem vZ {tm:T AV}{nt:Nat}{tmps:Array Value}(r:TR E tm nt tmps){ops:Array Oper}{o:Oper}{b:Bool}(h0:bC tm ops.toList o=some b) :Region.wanted o (yielded ops tmps) =b:=
 tD (fun _ _ _ _ _ t _ a ha=>r.2 t a ha) h0
theorem TR.reads {tm:T AV}{nt:Nat}{tmps:Array Value}(r:TR E tm nt tmps)(fn:FuncId)(todo:List Item)(ds:List Deferred)(kd:CallKind)(ro:Option Nat)(S:Operand→Prop) :Reads E tm (rf fn tmps todo ds kd ro).eval S:=by
 intro x _ a ha;cases x with
 | tmp t=>
  simp only [bG]at ha;obtain⟨v,h1,h2⟩ :=r.2 t a ha;simp only [Frame.eval,wM,h1];exact h2
 |const v=>exact aB4 ha E
 |global g=>cases ha
 |func f=>simp only [bG]at ha;cases ha;simp only [Frame.eval,VR];exact⟨[],[],rfl,VRs.nil E,VRs.nil E⟩
def IR (E:Emb) :AItem→Item→Prop
 | .code c,i=>i= .code c
 | .inBlock id,i=>i= .inBlock id
 | .inLoop c,i=>i= .inLoop c
 | .inScope c,i=>i= .inScope c
 | .ops all k rest,i=>i= .inRegion all (List.range' k rest.length) ∧rest=all.toList.drop k
 | .inRF l,i=>∃L,E l=some L∧i= .inRangeFunc L.blk
 | .endRF l,i=>∃L,E l=some L∧i= .endRangeFunc L.blk
 | .beginRound,i=>i= .beginRound
 | .junk,i=>∃all l,i= .inRegion all l
def IRs (E:Emb) :List AItem→List Item→Prop
 | [],is=>is= []
 |a::aS,is=>∃i is',is=i::is'∧IR E a i∧IRs E aS is'
theorem IR.mono {E E':Emb}(h:E.le E'){a:AItem}{i:Item}(r:IR E a i) :IR E' a i:=by
 cases a<;>simp only [IR]at r ⊢ <;>first|exact r| (obtain⟨L,h1,h2⟩ :=r;exact⟨L,h.1 _ _ h1,h2⟩)
theorem IRs.mono {E E':Emb}(h:E.le E') :∀ {aS:List AItem} {is:List Item},IRs E aS is→IRs E' aS is
 | [],_,r=>by simpa [IRs]using r
 |_::_,_,r=>by simp only [IRs]at r ⊢;obtain⟨i,is',h1,h2,h3⟩ :=r;exact⟨i,is',h1,h2.mono h,h3.mono h⟩
theorem IRs.cons {a:AItem}{i:Item}{aS:List AItem}{is:List Item}(h1:IR E a i)(h2:IRs E aS is) :IRs E (a::aS) (i::is) :=by simp only [IRs];exact⟨i,is,rfl,h1,h2⟩
theorem IRs.cons_inv {a:AItem}{aS:List AItem}{is:List Item}(h:IRs E (a::aS) is) :∃i is',is=i::is'∧IR E a i∧IRs E aS is':=by simpa only [IRs]using h
theorem IRs.nil_inv {is:List Item}(h:IRs E [] is) :is= [] :=by simpa only [IRs]using h
def DRs (E:Emb) :List ADef→List Deferred→Prop
 | [],ds=>ds= []
 |a::aS,ds=>∃d ds',ds=d::ds'∧DR E a d∧DRs E aS ds'
theorem DRs.mono {E E':Emb}(h:E.le E') :∀ {aS:List ADef} {is:List Deferred},DRs E aS is→DRs E' aS is
 | [],_,r=>by simpa [DRs]using r
 |_::_,_,r=>by simp only [DRs]at r ⊢;obtain⟨i,is',h1,h2,h3⟩ :=r;exact⟨i,is',h1,h2.mono h,h3.mono h⟩
theorem DRs.cons {a:ADef}{d:Deferred}{aS:List ADef}{ds:List Deferred}(h1:DR E a d)(h2:DRs E aS ds) :DRs E (a::aS) (d::ds) :=by simp only [DRs];exact⟨d,ds,rfl,h1,h2⟩
theorem DRs.cons_inv {a:ADef}{aS:List ADef}{ds:List Deferred}(h:DRs E (a::aS) ds) :∃d ds',ds=d::ds'∧DR E a d∧DRs E aS ds':=by simpa only [DRs]using h
theorem DRs.nil_inv {ds:List Deferred}(h:DRs E [] ds) :ds= [] :=by simpa only [DRs]using h
def CR (E:Emb) :List (AV×Bool) →List PanicEntry→Prop
 | [],ps=>ps= []
 |a::aS,ps=>∃v ps',ps= {v,recovered:=a.2}::ps'∧VR E a.1 v∧CR E aS ps'
theorem CR.mono {E E':Emb}(h:E.le E') :∀ {aS:List (AV×Bool)} {is:List PanicEntry},CR E aS is→CR E' aS is
 | [],_,r=>by simpa [CR]using r
 |_::_,_,r=>by simp only [CR]at r ⊢;obtain⟨i,is',h1,h2,h3⟩ :=r;exact⟨i,is',h1,h2.mono h,h3.mono h⟩
theorem CR.append :∀ {aS bs:List (AV×Bool)} {is js:List PanicEntry},CR E aS is→CR E bs js→CR E (aS++bs) (is++js)
 | [],_,_,_,h,k=>by simp only [CR]at h;subst h;exact k
 |_::_,_,_,_,h,k=>by simp only [CR]at h;obtain⟨v,ps,rfl,h1,h2⟩ :=h;simp only [aDS,CR];exact⟨v,_,rfl,h1,h2.append k⟩
def MR (E:Emb) :AMode→FrameMode→Prop
 | .run,m=>m= .run
 | .ret,m=>m= .returning
 | .pan chain,m=>∃ps,m= .panicking ps∧CR E chain ps
theorem MR.mono {E E':Emb}(h:E.le E'){a:AMode}{m:FrameMode}(r:MR E a m) :MR E' a m:=by
 cases a<;>simp only [MR]at r ⊢ <;>first|exact r| (obtain⟨ps,h1,h2⟩ :=r;exact⟨ps,h1,h2.mono h⟩)
def RR (E:Emb) :Option Nat→Option Nat→Prop
 |none,o=>o=none
 |some l,o=>∃L,E l=some L∧o=some L.blk
theorem RR.mono {E E':Emb}(h:E.le E'){a b:Option Nat}(r:RR E a b) :RR E' a b:=by
 cases a<;>simp only [RR]at r ⊢ <;>first|exact r| (obtain⟨L,h1,h2⟩ :=r;exact⟨L,h.1 _ _ h1,h2⟩)
structure FR (E:Emb) (a:AFrame) (c:Frame) :Prop where
 fn:c.fn=a.fn
 tm:TR E a.tm a.nt c.tmps
 todo:IRs E a.todo c.todo
 defers:DRs E a.defers c.defers
 mode:MR E a.mode c.mode
 kind:c.kind=a.kind
 round:RR E a.roundOf c.roundOf
theorem FR.mono {E E':Emb}(h:E.le E'){a:AFrame}{c:Frame}(r:FR E a c) :FR E' a c:=
 ⟨r.fn,r.tm.mono h,r.todo.mono h,r.defers.mono h,r.mode.mono h,r.kind,r.round.mono h⟩
def FRs (E:Emb) :List AFrame→List Frame→Prop
 | [],cs=>cs= []
 |a::aS,cs=>∃c cs',cs=c::cs'∧FR E a c∧FRs E aS cs'
theorem FRs.mono {E E':Emb}(h:E.le E') :∀ {aS:List AFrame} {is:List Frame},FRs E aS is→FRs E' aS is
 | [],_,r=>by simpa [FRs]using r
 |_::_,_,r=>by simp only [FRs]at r ⊢;obtain⟨i,is',h1,h2,h3⟩ :=r;exact⟨i,is',h1,h2.mono h,h3.mono h⟩
theorem FRs.cons {a:AFrame}{c:Frame}{aS:List AFrame}{cs:List Frame}(h1:FR E a c)(h2:FRs E aS cs) :FRs E (a::aS) (c::cs) :=by simp only [FRs];exact⟨c,cs,rfl,h1,h2⟩
theorem FRs.cons_inv {a:AFrame}{aS:List AFrame}{cs:List Frame}(h:FRs E (a::aS) cs) :∃c cs',cs=c::cs'∧FR E a c∧FRs E aS cs':=by simpa only [FRs]using h
theorem FRs.nil_inv {cs:List Frame}(h:FRs E [] cs) :cs= [] :=by simpa only [FRs]using h
theorem aKq (args:List AV)(i:Nat) : (dQ .leaf 0 args).at i=if i<args.length then args[i]? else none:=aX args i
theorem gK {f:Nat}{args:List AV}{cargs:List Value}{kd:CallKind}{g:AFrame}(h0:cM P f args kd=some g)(ha:VRs E args cargs) :FR E g (Frame.enter P f ⟨cargs⟩ kd) :=by
 unfold cM at h0;split at h0
 · rename_i fn hf;split at h0
   · rename_i c hb;cases h0;have hlen:=ha.length;refine⟨by simp [Frame.enter],⟨?_,fun t a hta=>?_⟩,?_,by simp [Frame.enter,DRs],by simp [Frame.enter,MR],by simp [Frame.enter],by simp [Frame.enter,RR]⟩
     ·simp [Frame.enter,hf,hlen];omega
     · rw [aKq]at hta;split at hta
       · rename_i ht;obtain⟨v,h1,h2⟩ :=ha.get _ _ hta;refine⟨v,?_,h2⟩;simp only [Frame.enter];rw [Array.getElem?_append_left (by simp;omega)];rw [show(⟨cargs⟩ :Array Value) =cargs.toArray from rfl,getElem?_toArray];exact h1
       ·cases hta
     · simp only [Frame.enter,hf,hb,bind_some,getD_some];exact IRs.cons rfl (by simp [IRs])
   ·cases h0
 ·cases h0
theorem rV {nt:Nat}:∀ {ps:List Nat} {args:List AV} {cargs:List Value} {tm tm':T AV} {tmps:Array Value},jT tm nt ps args=some tm'→VRs E args cargs→TR E tm nt tmps →
  ps.length=cargs.length∧TR E tm' nt ((ps.zip cargs).foldl (fun tmps (p:Nat×Value) =>tmps.setIfInBounds p.1 p.2) tmps)
 | [],args,cargs,tm,tm',tmps,h0,ha,r=>by
  cases args with
  |nil=>simp [jT]at h0;subst h0;rw [ha.nil_inv];exact⟨rfl,r⟩
  |cons a aS=>simp [jT]at h0
 | p ::ps,args,cargs,tm,tm',tmps,h0,ha,r=>by
  cases args with
  |nil=>simp [jT]at h0
  | cons a aS=>
   obtain⟨v,vs,rfl,h1,h2⟩ :=ha.cons_inv;simp only [jT,cF]at h0;by_cases hp:p<nt
   · simp only [hp,decide_true,cond]at h0;obtain⟨g1,g2⟩ :=rV h0 h2 (r.put hp h1);exact⟨by simp [g1],by simpa using g2⟩
   ·simp only [hp,decide_false,cond]at h0;cases h0
theorem run_getLoop {l:Nat}{L:Loop}(hl:w.heap[l]?=some (.loop L)) : (Instr.getLoop l).run P w= .ok L w:=by
 simp [Instr.getLoop,getObj,Sem.run,hl]
theorem aAg (r:Rel E h w.heap){l:Nat}{args:List AV}{cargs:List Value}{g:AFrame}(h0:wP h l args=some g){L:Loc}(hE:E l=some L)(ha:VRs E args cargs) :
  ∃fn tmps aS bd,(Instr.yield L.blk ⟨cargs⟩).run P w= .ok (.round L.blk fn tmps aS bd) w∧FR E g (Frame.round L.blk fn tmps aS bd .normal) :=by
 unfold wP at h0;split at h0
 · rename_i st pe fn tm nt ps aS bd df hl;split at h0
   · rename_i tm' htm;cases h0;obtain⟨L',g1,tmps,Ld,g2,g3,g4⟩ :=r.obj _ _ hl;rw [hE]at g1;cases g1;obtain⟨k1,k2⟩ :=rV htm ha g4;refine⟨fn,_,aS,bd,?_,⟨rfl,k2,?_,by simp [Frame.round,DRs],by simp [Frame.round,MR],rfl,by simp only [Frame.round,RR];exact⟨L,hE,rfl⟩⟩⟩
     · have hs: (⟨cargs⟩ :Array Value).size= (⟨ps⟩ :Array Tmp).size:=by simp [k1]
       simp only [Instr.yield,Sem.run_bind,run_getLoop g2,Result.andThen_ok];rw [if_neg (by simp [hs])];simp only [Sem.run_pure];congr 2;rw [←Array.foldl_toList];simp
     ·exact IRs.cons rfl (IRs.cons rfl (IRs.cons rfl (by simp [IRs])))
   ·cases h0
 ·cases h0
theorem oN (r:Rel E h w.heap){c:AIn}{g:AFrame}(h0:cX P h c=some g){s:Sem Next}(hs:Out P E h w (s.run P w) (.call c)) :
  ∃nx G,s.run P w= .ok nx w∧ ((∃f args,nx= .enter f args∧G=Frame.enter P f args .normal) ∨ (∃l f t aS bd,nx= .round l f t aS bd∧G=Frame.round l f t aS bd .normal)) ∧FR E g G:=by
 cases c with
 | enter f args=>
  obtain⟨cargs,h1,h2⟩ :=hs;exact⟨_,_,h1,.inl ⟨f,_,rfl,rfl⟩,gK h0 h2⟩
 | round l args=>
  obtain⟨cargs,L,h1,h2,h3⟩ :=hs;obtain⟨fn,tmps,aS,bd,k1,k2⟩ :=aAg (P:=P) r h0 h1 h2;exact⟨_,_,h3.trans k1,.inr ⟨_,_,_,_,_,rfl,rfl⟩,k2⟩
theorem wA (bs:List Nat)(j:Nat) :∀es:List Edge,testBit (dT bs es) j=true↔∃e∈es,Region.binds .any e=true∧ (j=e.on∨testBit (bs.getD e.on 0) j=true)
 | [] =>by simp [dT]
 | e :: es=>by
  have ih:=wA bs j es;simp only [dT];cases hb:Region.binds .any e with
  | false=>
   simp only [cond,ih,zq7];constructor
   ·rintro⟨x,h1,h2⟩;exact⟨x,.inr h1,h2⟩
   · rintro⟨x,rfl|h1,h2⟩
     ·rw [hb]at h2;cases h2.1
     ·exact⟨x,h1,h2⟩
  | true=>
   simp only [cond];show testBit ((2 ^ e.on ||| bs.getD e.on 0) ||| dT bs es) j=true↔_;simp only [Nat.testBit_or,Nat.testBit_two_pow,or_eq_true,decide_eq_true_eq,ih,zq7];constructor
   · rintro((h1|h1) | ⟨x,h1,h2⟩)
     ·exact⟨e,.inl rfl,hb,.inl h1.symm⟩
     ·exact⟨e,.inl rfl,hb,.inr h1⟩
     ·exact⟨x,.inr h1,h2⟩
   · rintro⟨x,rfl|h1,h2,h3⟩
     · rcases h3 with h3|h3
       ·exact .inl (.inl h3.symm)
       ·exact .inl (.inr h3)
     ·exact .inr ⟨x,h1,h2,h3⟩
theorem yN :∀ (l:List Oper) (acc:List Nat),(jD l acc).length=acc.length+l.length∧ (jD l acc).take acc.length=acc ∧
  ∀i o,l[i]?=some o→ (jD l acc)[acc.length+i]?=some (dT ((jD l acc).take (acc.length+i)) o.after.toList)
 | [],acc=>by simp [jD]
 | o ::l,acc=>by
  obtain⟨h1,h2,h3⟩ :=yN l (acc++ [dT acc o.after.toList]);simp only [jD];simp only [pU,rY,length_nil]at h1 h2 h3;refine⟨by rw [h1];simp;omega,?_,fun i x hx=>?_⟩
  · have:=congrArg (take acc.length) h2;rw [List.take_take]at this;rw [show min acc.length (acc.length+ (0+1)) =acc.length by omega]at this;rw [this];simp
  · cases i with
    | zero=>
     simp at hx;subst hx;have e1:=congrArg (fun z=>z[acc.length]?) h2;simp only [getElem?_take]at e1;rw [if_pos (by omega)]at e1;have e2:=congrArg (take acc.length) h2;rw [List.take_take,show min acc.length (acc.length+ (0+1)) =acc.length by omega]at e2;rw [add_zero,e1,e2];simp
    | succ i=>
     have:=h3 i x (by simpa using hx);rw [show acc.length+ (i+1) =acc.length+ (0+1) +i by omega];exact this
def bsOf (l:List Oper) :List Nat:=jD l []
theorem aZB {l:List Oper}{i:Nat}{o:Oper}(ho:l[i]?=some o)(j:Nat) :
  testBit ((bsOf l).getD i 0) j=true↔∃e∈o.after.toList,Region.binds .any e=true∧ (j=e.on∨ (e.on<i∧testBit ((bsOf l).getD e.on 0) j=true)) :=by
 obtain⟨h1,_,h3⟩ :=yN l [];have:=h3 i o ho;simp only [length_nil,jS]at this;rw [pV,show bsOf l=jD l []from rfl,this];simp only [getD_some,wA];constructor
 · rintro⟨e,k1,k2,k3⟩
   refine⟨e,k1,k2,k3.imp id fun k3=>?_⟩;rw [pV,getElem?_take]at k3;by_cases he:e.on<i
   ·rw [if_pos he]at k3;exact⟨he,by rw [pV];exact k3⟩
   ·rw [if_neg he]at k3;simp at k3
 · rintro⟨e,k1,k2,k3⟩
   refine⟨e,k1,k2,k3.imp id fun k3=>?_⟩;rw [pV,getElem?_take,if_pos k3.1,←pV];exact k3.2
def Met (D:Nat→Prop)(o:Oper) :Prop:=∀e∈o.after.toList,Region.binds .any e=true→D e.on
def Closed (l:List Oper)(D:Nat→Prop) :Prop:=∀i o,l[i]?=some o→D i→Met D o
theorem iW {l:List Oper}{D:Nat→Prop}(hD:Closed l D)(hlt:∀i,D i→i<l.length) :∀ (n i:Nat),i<n→∀o,l[i]?=some o→Met D o→∀j,testBit ((bsOf l).getD i 0) j=true→D j:=by
 intro n
 induction n with
 |zero=>intro i hi;omega
 | succ n ih=>
  intro i hi o ho hm j hj;obtain⟨e,k1,k2,k3⟩ := (aZB ho j).1 hj;have hde:=hm e k1 k2;rcases k3 with rfl| ⟨k3,k4⟩
  ·exact hde
  · have hlt':=hlt _ hde;have ho':l[e.on]?=some (l[e.on]'hlt') :=by simp
    exact ih e.on (by omega) _ ho' (hD _ _ ho' hde) j k4
theorem tG {md:Region.Mode}{n:Nat}{rk:List Nat}{i:Nat}:∀ {es:List Edge},uQ md n rk i es=true→∀e∈es,Region.binds md e=true→e.on<n∧rk.getD e.on 0<rk.getD i 0
 | [],_,e,he,_=>by cases he
 | x :: xs, h,e,he,hb=>by
  simp only [uQ,dC,or_eq_true,not_eq_true',cF,decide_eq_true_eq]at h;cases he with
  | head => rcases h.1 with h1|h1
            ·rw [hb]at h1;cases h1
            ·exact h1
  |tail _ he=>exact tG h.2 e he hb
theorem tH {md:Region.Mode}{n:Nat}{rk:List Nat}:∀ {l:List Oper} {k:Nat},pY md n rk l k=true→∀i o,l[i]?=some o→∀e∈o.after.toList,Region.binds md e=true→e.on<n∧rk.getD e.on 0<rk.getD (k+i) 0
 | [],_,_,i,o,ho=>by simp at ho
 | x::xs,k,h,i,o,ho=>by
  simp only [pY,dC]at h;cases i with
  |zero=>simp at ho;subst ho;exact tG h.1
  | succ i=>
   have:=tH h.2 i o (by simpa using ho);rwa [show Nat.succ k+i=k+ (i+1)by omega]at this
theorem ready_nil {md:Region.Mode}{ops:Array Oper}{rk:List Nat}(hrk:pY md ops.size rk ops.toList 0=true){listed:Array Bool}(hsz:listed.size=ops.size)(h0:Region.ready md ops listed= []) :
  ∀i,i<ops.size→listed.getD i true=true:=by
 have key:∀ (m i:Nat),i<ops.size→rk.getD i 0<m→listed.getD i true=true:=by
  intro m
  induction m with
  |zero=>intro i _ h;omega
  | succ m ih=>
   intro i hi hr;cases hl:listed.getD i true with
   |true=>rfl
   | false=>
    exfalso;have:i∈Region.ready md ops listed:=by
     unfold Region.ready;rw [List.mem_filter];refine⟨by simpa using hi,?_⟩;have ho:ops[i]?=some ops[i] :=by simp [hi]
     simp only [hl,Bool.not_false,lE,ho,map_some,getD_some];rw [Array.all_eq_true];intro x hx;have hmem:ops[i].after[x] ∈ops[i].after.toList:=by simp
     cases hb:Region.binds md ops[i].after[x]with
     |false=>rfl
     | true=>
      have:=tH hrk i ops[i] (by simp [hi]) _ hmem hb;rw [jS]at this;have h2:=ih _ this.1 (by omega);simp only [Bool.not_true,Bool.false_or];have hlt:ops[i].after[x].on<listed.size:=by rw [hsz];exact this.1
      rw [wM]at h2 ⊢;rw [Array.getElem?_eq_getElem hlt]at h2 ⊢;exact h2
    rw [h0]at this;cases this
 intro i hi;exact key _ i hi (Nat.lt_succ_self _)
theorem aKr {md:Region.Mode}{ops:Array Oper}{listed:Array Bool}{i:Nat}(h0:i∈Region.ready md ops listed) :
  i<ops.size∧listed.getD i true=false∧∃o,ops[i]?=some o∧∀e∈o.after.toList,Region.binds md e=true→listed.getD e.on false=true:=by
 unfold Region.ready at h0;rw [List.mem_filter]at h0;obtain⟨h1,h2⟩ :=h0;simp only [List.mem_range]at h1;have ho:ops[i]?=some ops[i] :=by simp [h1]
 rw [ho]at h2;simp only [map_some,getD_some,dC,not_eq_true',Array.all_eq_true]at h2;refine⟨h1,h2.1,ops[i],ho,fun e he hb=>?_⟩;obtain⟨x,hx,rfl⟩ :=List.getElem_of_mem he;have:=h2.2 x (by simpa using hx);rw [Array.getElem_toList]at hb;rw [hb]at this;simpa using this
theorem aNz {md:Region.Mode}{e:Edge}(h:Region.binds .any e=true) :Region.binds md e=true:=by
 unfold Region.binds at h ⊢;cases hg:e.ground<;>simp_all<;>exact absurd h (by decide)
def qI (l:List Oper)(i:Nat)(o:Oper) :Plan:={o,kd:=cC o.op,lo:=aFv ((bsOf l).getD i 0) (dU l 0) 0,hi:=vK (bsOf l) i (dU l 0) 0}
theorem aAR (bs a:List Nat) :∀ (l:List Oper) (k i:Nat),(nJ bs a l k)[i]?= (l[i]?).map fun o=>{o,kd:=cC o.op,lo:=aFv (bs.getD (k+i) 0) a 0,hi:=vK bs (k+i) a 0}
 | [],k,i=>by simp [nJ]
 | o::l,k,i=>by
  cases i with
  |zero=>simp [nJ]
  |succ i=>simp only [nJ,aDQ];rw [aAR bs a l];rw [show Nat.succ k+i=k+ (i+1)by omega]
theorem tI (bs a:List Nat) :∀ (l:List Oper) (k:Nat),(nJ bs a l k).length=l.length
 | [],_=>rfl
 |_::l,k=>by simp [nJ,tI bs a l]
inductive RC (P:Program) (call:bB) (l:List Oper) (p:Plan) (r r':RS) (a:AV) :Prop
 |unwE (hw:bC r.tm l p.o=some false) (ha:a= .undef) (hk:p.kd= .eff) (e:r'= {r with tm:=r'.tm,h:=aI r.h r.s r.pend,stages:=r.h::r.stages,s:=r.s+1})
 |unwF (hw:bC r.tm l p.o=some false) (ha:a= .undef) (hk:p.kd= .fresh) (e:r'= {r with tm:=r'.tm,next:=r.next+1})
 |unwQ (hw:bC r.tm l p.o=some false) (ha:a= .undef) (hk:p.kd= .pure∨p.kd= .read) (e:r'= {r with tm:=r'.tm})
 |pure (hx:Hp) (hw:bC r.tm l p.o=some true) (hk:p.kd= .pure) (h0:iO P r.h r.tm p.o=some (.val a hx)) (e:r'= {r with tm:=r'.tm})
 |read (hx:Hp) (hw:bC r.tm l p.o=some true) (hk:p.kd= .read) (h0:iO P r.h r.tm p.o=some (.val a hx)) (e:r'= {r with tm:=r'.tm,again:=bif beq p.lo p.hi then r.again else⟨p.o,r.tm,p.lo,p.hi,a⟩ ::r.again})
 |own (vs:List AV) (hw:bC r.tm l p.o=some true) (hk:p.kd= .read) (h0:sM P r.tm r.pend p.hi p.o=some vs) (h1:sG vs=some a) (e:r'= {r with tm:=r'.tm})
 |fresh (ob:AObj) (hw:bC r.tm l p.o=some true) (hk:p.kd= .fresh) (h0:lF P r.tm r.next p.o=some (a,ob)) (e:r'= {r with tm:=r'.tm,next:=r.next+1,pend:= (p.hi,r.next,ob) ::r.pend})
 | eff (h2:Hp) (hw:bC r.tm l p.o=some true) (hk:p.kd= .eff)
   (h0:iO P (aI r.h r.s r.pend) r.tm p.o=some (.val a h2) ∨∃c,iO P (aI r.h r.s r.pend) r.tm p.o=some (.call c) ∧call r.s c (aI r.h r.s r.pend) =some (a,h2))
   (e:r'= {r with tm:=r'.tm,h:=h2,stages:=r.h::r.stages,s:=r.s+1})
theorem aAS {call:bB}{m:Nat}{l:List Oper}{p:Plan}{r i:RS}(b:kS P call m l p r=some i) :∃a,fQ r.tm m p.o.dst a=some i.tm∧RC P call l p r i a:=by
 unfold kS at b;split at b
 ·cases b
 · rename_i f;split at b
   ·cases b
   · rename_i g d;split at b
     ·rename_i hk;cases b;exact⟨.undef,d,.unwE f rfl hk rfl⟩
     ·rename_i hk;cases b;exact⟨.undef,d,.unwF f rfl hk rfl⟩
     · rename_i q o;cases b;refine⟨.undef,d,.unwQ f rfl ?_ rfl⟩;cases hk:p.kd<;>simp_all
 · rename_i f;split at b
   · rename_i hk;split at b
     · rename_i v j e;split at b
       ·rename_i g d;cases b;exact⟨v,d,.pure j f hk e rfl⟩
       ·cases b
     ·cases b
   · rename_i hk;split at b
     · rename_i v j e;split at b
       ·rename_i g d;cases b;exact⟨v,d,.read j f hk e rfl⟩
       ·cases b
     · split at b
       · rename_i n k;split at b
         · rename_i v e;split at b
           ·rename_i g d;cases b;exact⟨v,d,.own n f hk k e rfl⟩
           ·cases b
         ·cases b
       ·cases b
   · rename_i hk;split at b
     · rename_i v ob e;split at b
       ·rename_i g d;cases b;exact⟨v,d,.fresh ob f hk e rfl⟩
       ·cases b
     ·cases b
   · rename_i hk;simp only at b;split at b
     · rename_i v h e;split at b
       ·rename_i g d;cases b;exact⟨v,d,.eff h f hk (.inl e) rfl⟩
       ·cases b
     · rename_i c e;split at b
       · rename_i v h hc;split at b
         ·rename_i g d;cases b;exact⟨v,d,.eff h f hk (.inr ⟨c,e,hc⟩) rfl⟩
         ·cases b
       ·cases b
     ·cases b
theorem yO {call:bB}{f:Nat}{l:List Oper}:∀ {c:List Plan} {r b:RS},lG P call f l c r=some b →
  ∃R:Nat→RS,R 0=r∧R c.length=b∧∀i p,c[i]?=some p→kS P call f l p (R i) =some (R (i+1))
 | [],r,b,a=>by simp [lG]at a;subst a;exact⟨fun _=>r,rfl,rfl,fun i p j=>by simp at j⟩
 | p ::c,r,b,a=>by
  simp only [lG]at a;split at a
  · rename_i m e;obtain⟨R,g,k,h⟩ :=yO a;refine⟨fun i=>match i with|0=>r|i+1=>R i,rfl,k,fun i q d=>?_⟩;cases i with
    |zero=>simp at d;subst d;show _=some (R 0);rw [g];exact e
    |succ i=>exact h i q (by simpa using d)
  ·cases a
theorem fG :∀ (l:List Oper) (k:Nat),(∀ (q e:Nat),(dU l k)[q]?=some e→k≤e∧e<k+l.length∧∃o,l[e-k]?=some o∧cC o.op= .eff) ∧
  (∀ (i:Nat) (o:Oper),l[i]?=some o→cC o.op= .eff→∃q:Nat,(dU l k)[q]?=some (k+i)) ∧List.Pairwise (· < ·) (dU l k)
 | [],k=>by simp [dU]
 | o ::l,k=>by
  obtain⟨j,m,h⟩ :=fG l (Nat.succ k)
  have d:∀ (q e:Nat),(dU l (Nat.succ k))[q]?=some e→k≤e∧e<k+ (o::l).length∧∃a,(o::l)[e-k]?=some a∧cC a.op= .eff:=fun q e he=>by
   obtain⟨r,s,a,p,n⟩ :=j q e he;refine⟨by omega,by simp;omega,a,?_,n⟩;rw [show e-k= (e-Nat.succ k) +1 by omega];simpa using p
  have b:∀ (i:Nat) (a:Oper),l[i]?=some a→cC a.op= .eff→∃q:Nat,(dU l (Nat.succ k))[q]?=some (k+ (i+1)) :=fun i a f hk=>by
   obtain⟨q,g⟩ :=m i a f hk;exact⟨q,by rw [g];congr 1;omega⟩
  cases hk:cC o.op with
  | eff=>
   simp only [dU,hk];refine⟨fun q e he=>?_,fun i a f c=>?_,?_⟩
   · cases q with
     |zero=>simp at he;subst he;exact⟨le_refl _,by simp,o,by simp,hk⟩
     |succ q=>exact d q e (by simpa using he)
   · cases i with
     |zero=>exact⟨0,by simp⟩
     | succ i=>
      obtain⟨q,g⟩ :=b i a (by simpa using f) c;exact⟨q+1,by simpa using g⟩
   · rw [List.pairwise_cons];refine⟨fun e he=>?_,h⟩;obtain⟨q,g,rfl⟩ :=List.getElem_of_mem he;have:= (j q _ (lZ g)).1;omega
  | _=>
   simp only [dU,hk];refine⟨d,fun i a f c=>?_,h⟩;cases i with
   |zero=>simp at f;subst f;rw [hk]at c;cases c
   |succ i=>exact b i a (by simpa using f) c
theorem aMI (b j:Nat) :∀ (a:List Nat) (k:Nat),(∀ (q e:Nat),a[q]?=some e→testBit b e=true→k+q+1≤j) →aFv b a k≤j
 | [],k,_=>by simp [aFv]
 | e::a,k,h=>by
  have c:=aMI b j a (Nat.succ k) (fun q x d hb=>by have:=h (q+1) x (by simpa using d) hb;omega);simp only [aFv];cases hb:testBit b e with
  |true=>simp only [cond];have:=h 0 e rfl hb;omega
  |false=>simp only [cond];exact c
theorem aAh (bs:List Nat)(i:Nat) :∀ (a:List Nat) (k:Nat),k≤vK bs i a k∧vK bs i a k≤k+a.length ∧
  (∀ (q e:Nat),a[q]?=some e→k+q<vK bs i a k→testBit (bs.getD e 0) i=false) ∧ (∀e:Nat,a[vK bs i a k-k]?=some e→testBit (bs.getD e 0) i=true)
 | [],k=>by simp [vK]
 | e ::a,k=>by
  obtain⟨c,d,f,g⟩ :=aAh bs i a (Nat.succ k);simp only [vK];cases hb:testBit (bs.getD e 0) i with
  | true=>
   simp only [cond];refine⟨le_refl _,by simp,fun q x b h=>by omega,fun x b=>?_⟩;simp at b;subst b;exact hb
  | false=>
   simp only [cond];refine⟨by generalize vK bs i a (Nat.succ k) =m at c;omega,by generalize vK bs i a (Nat.succ k) =m at d;simp;omega,fun q x b h=>?_,fun x b=>?_⟩
   · cases q with
     |zero=>simp at b;subst b;exact hb
     |succ q=>exact f q x (by simpa using b) (by omega)
   · rw [show vK bs i a (Nat.succ k) -k= (vK bs i a (Nat.succ k) -Nat.succ k) +1 by generalize vK bs i a (Nat.succ k) =m at c;omega]at b;exact g x (by simpa using b)
theorem yP {bs:List Nat}:∀ {b:List Nat},chained bs b=true→∀ (q e f:Nat),b[q]?=some e→b[q+1]?=some f→testBit (bs.getD f 0) e=true
 | [],_,q,e,f,he,_=>by simp at he
 | [x],_,q,e,f,he,a=>by simp at a
 | x::y::b,h,q,e,f,he,a=>by
  simp only [chained,dC]at h;cases q with
  |zero=>simp at he a;subst he a;exact h.1
  |succ q=>exact yP h.2 q e f (by simpa using he) (by simpa using a)
theorem lI {k:Nat}:∀ {c:List (Nat×Nat×AObj)} {x:Nat} {o:AObj},(aI h k c).look x=some o→ (k,x,o) ∈c∨h.look x=some o
 | [],x,o,e=>.inr e
 | (a,id,ob) ::c,x,o,e=>by
  simp only [aI,aZ]at e;by_cases b:a=k
  · simp only [b,decide_true,cond]at e;rw [aU]at e;split at e
    ·rename_i d;cases e;subst d b;exact .inl (dJ ..)
    ·exact(lI e).imp (dR _) (fun z=>z)
  · simp only [b,decide_false,cond]at e;exact(lI e).imp (dR _) (fun z=>z)
theorem cY {k:Nat}:∀ {b:List (Nat×Nat×AObj)},(aI h k b).nb=h.nb
 | [] =>rfl
 | (a,id,ob) ::b=>by
  simp only [aI];cases beq a k with
  |true=>simp only [cond,fU];exact cY
  |false=>simp only [cond];exact cY
noncomputable def dB (tm0:T AV)(dst:Nat→Option Nat)(A:Nat→AV)(D:Nat→Prop)[DecidablePred D] :Nat→Nat→Option AV
 |0,t=>tm0.at t
 |n+1,t=>if D n∧dst n=some t then some (A n)else dB tm0 dst A D n t
section
variable {tm0 :T AV} {dst:Nat→Option Nat} {A:Nat→AV} {D D':Nat→Prop} [DecidablePred D] [DecidablePred D']
theorem qJ {t:Nat}:∀ {n:Nat},(∀k,k<n→dst k=some t→ (D k↔D' k)) →dB tm0 dst A D n t=dB tm0 dst A D' n t
 |0,_=>rfl
 | n+1,h=>by
  simp only [dB];rw [qJ (fun k hk=>h k (by omega))];by_cases hd:dst n=some t
  · have:=h n (by omega) hd;by_cases a:D n
    ·rw [if_pos ⟨a,hd⟩,if_pos ⟨this.1 a,hd⟩]
    ·rw [if_neg (fun e=>a e.1),if_neg (fun e=>a (this.2 e.1))]
  ·rw [if_neg (fun e=>hd e.2),if_neg (fun e=>hd e.2)]
theorem uV {t i:Nat}:∀ {n:Nat},i≤n→ (∀k,i≤k→k<n→dst k=some t→¬D k) →dB tm0 dst A D n t=dB tm0 dst A D i t
 |0,a,_=>by rw [show i=0 by omega]
 | n+1,a,h=>by
  by_cases e:i=n+1
  ·rw [e]
  · simp only [dB];rw [if_neg (fun⟨b,hd⟩ =>h n (by omega) (by omega) hd b)];exact uV (by omega) (fun k c d=>h k c (by omega))
end
inductive Legal (l:List Oper) : (Nat→Bool) →List Nat→Prop
 |nil {D}: (∀i,i<l.length→D i=true) →Legal l D []
 |cons {D i is o}:l[i]?=some o→D i=false→Met (D · =true) o→Legal l (fun k=>D k||k==i) is→Legal l D (i::is)
def unl :List Bool→Nat
 | [] =>0
 |true::l=>unl l
 |false::l=>unl l+1
theorem aFP :∀ {l:List Bool} {i:Nat},l[i]?=some false→unl (l.set i true) +1=unl l
 | [],i,h=>by simp at h
 |b::l,0,h=>by simp at h;subst h;simp [unl]
 |true::l,i+1,h=>by simp only [List.set_cons_succ,unl];exact aFP (by simpa using h)
 |false::l,i+1,h=>by simp only [List.set_cons_succ,unl];have:=aFP (l:=l) (i:=i) (by simpa using h);omega
theorem aHJ :∀ {l:List Bool} {i:Nat},unl l=0→i<l.length→l[i]?=some true
 | [],i,_,h=>by simp at h
 |true::l,0,_,_=>rfl
 |true::l,i+1,h,h2=>by simp only [aDQ];exact aHJ h (by simpa using h2)
 |false::l,i,h,_=>by simp [unl]at h
theorem wB :∀n,unl (List.replicate n false) =n
 |0=>rfl
 |n+1=>by simp [List.replicate_succ,unl,wB n]
theorem aPR {md:Region.Mode}{ops:Array Oper}{rk:List Nat}(hrk:pY md ops.size rk ops.toList 0=true) :∀ (fuel t:Nat) (listed:Array Bool),listed.size=ops.size→unl listed.toList≤fuel →
  Legal ops.toList (fun k=>listed.getD k false) (Region.linearise.go md ops fuel t listed []) :=by
 have gd:∀ {listed:Array Bool} {i:Nat},listed.size=ops.size→i<ops.size→∀b,listed.getD i b=listed.getD i false:=fun {listed i} hs hi b=>by
  rw [wM,wM,Array.getElem?_eq_getElem (by omega)];rfl
 intro fuel
 induction fuel with
 | zero=>
  intro t listed hs hu;simp only [Region.linearise.go,List.reverse_nil];refine .nil fun i hi=>?_;have:=aHJ (l:=listed.toList) (i:=i) (by omega) (by simp only [Array.length_toList]at hi ⊢;omega);rw [wM,←oZ,this];rfl
 | succ fuel ih=>
  intro t listed hs hu;simp only [Region.linearise.go]
  change Legal _ _ (match(Region.ready md ops listed)[t % (Region.ready md ops listed).length]? with
   |some i=>Region.linearise.go md ops fuel (t / (Region.ready md ops listed).length) (listed.setIfInBounds i true) [i]
   |none=>[].reverse)
  cases hi: (Region.ready md ops listed)[t % (Region.ready md ops listed).length]? with
  | none=>
   have hnil:Region.ready md ops listed= [] :=by
    cases hr:Region.ready md ops listed with
    |nil=>rfl
    | cons x xs=>
     rw [hr]at hi;have hlt:t % (x::xs).length< (x::xs).length:=mod_lt _ (by simp);simp at hi;simp at hlt;omega
   simp only [List.reverse_nil];refine .nil fun i hi=>?_;have hi':i<ops.size:=by simpa using hi
   have:=ready_nil hrk hs hnil i hi';rw [gd hs hi']at this;exact this
  | some i=>
   simp only [];obtain⟨g1,g2,o,g3,g4⟩ :=aKr (oG hi);rw [gd hs g1]at g2;rw [linearise_go_acc,List.reverse_singleton,List.singleton_append];have hlf:listed.toList[i]?=some false:=by
    rw [wM,Array.getElem?_eq_getElem (by omega)]at g2;rw [oZ,Array.getElem?_eq_getElem (by omega)];simpa using g2
   have e: (fun k=> (listed.setIfInBounds i true).getD k false) = (fun k=>listed.getD k false||k==i) :=by
    funext k
    rw [wM,wM,Array.getElem?_setIfInBounds];by_cases hk:i=k
    ·subst hk;simp [hs,g1]
    · have: (k==i) =false:=by simp;omega
      simp [hk,this]
   refine .cons (by rw [oZ];exact g3) g2 (fun x hx hb=>g4 x hx (aNz hb)) ?_
   have:=ih (t / (Region.ready md ops listed).length) (listed.setIfInBounds i true) (by simpa using hs) (by
    rw [Array.toList_setIfInBounds];have:=aFP hlf;omega)
   rw [e]at this;exact this
theorem aCj {ops:Array Oper}(hok: (hP ops).ok=true)(mx:Bool)(t:Nat) :Legal ops.toList (fun _=>false) (Region.schedule mx ops t) :=by
 simp only [hP,dC]at hok;obtain⟨⟨⟨⟨h1,h2⟩,h3⟩,h4⟩,h5⟩ :=hok;have e: (fun k=> (Array.replicate ops.size false).getD k false) =fun _=>false:=by
  funext k
  rw [wM,Array.getElem?_replicate];split<;>rfl
 have key:∀ {md rk} t,pY md ops.size rk ops.toList 0=true→Legal ops.toList (fun _=>false) (Region.linearise md ops t) :=fun t hr=>by
  have:=aPR hr ops.size t (Array.replicate ops.size false) (by simp) (by simp [wB]);rw [e]at this;exact this
 unfold Region.schedule;split
 ·exact key t h3
 · split
   ·exact key _ h4
   ·exact key _ h5
def AOut.reh (h1:Hp) :AOut→AOut
 | .val v _=>.val v h1
 |o=>o
set_option maxHeartbeats 1000000 in
theorem aPS {tm:T AV}{o:Oper}(hk:cC o.op= .pure)(h1:Hp) :fP P h1 tm o= (fP P h tm o).map (AOut.reh h1) :=by
 unfold cC at hk;unfold fP;cases hop:o.op<;>simp only [hop]at hk ⊢ <;>first| (cases hk;done) |skip
 case call c=>
  unfold pA;cases hc:c.callee with
  | builtin b=>
   rw [hc]at hk;cases hv:fJ tm c.args.toList with
   |none=>rfl
   | some args=>
    simp only;cases b<;> (try simp only at hk) <;> (first| (cases hk;done) |skip) <;> (unfold eW; (try simp only);repeat' split) <;>simp_all [AOut.reh]
  |value f=>rw [hc]at hk;cases hk
  |invoke r n=>rw [hc]at hk;cases hk
 all_goals (try simp only [val,sF,xR,cond_eq_ite])
 all_goals (repeat' split)
 all_goals (first|rfl|simp_all [AOut.reh,val])
set_option maxHeartbeats 1000000 in
theorem aUa {tm:T AV}{o:Oper}(hk:cC o.op= .pure)(h1:Hp) :vop P h1 tm o= (vop P h tm o).map (AOut.reh h1) :=by
 unfold cC at hk;unfold vop;cases hop:o.op<;>simp only [hop]at hk ⊢ <;>first| (cases hk;done) |rfl|skip
 case call c=>
  cases hc:c.callee with
  | builtin b=>
   rw [hc]at hk;cases b<;> (try simp only at hk) <;> (first| (cases hk;done) |skip) <;> ((try simp only);repeat' split) <;>simp_all [AOut.reh]
  |value f=>rw [hc]at hk;cases hk
  |invoke r n=>rw [hc]at hk;cases hk
 all_goals (try simp only [val,sF,xR,cond_eq_ite])
 all_goals (repeat' split)
 all_goals (first|rfl|simp_all [AOut.reh,val])
theorem aUb {tm:T AV}{o:Oper}(hk:cC o.op= .pure)(h1:Hp) :iO P h1 tm o= (iO P h tm o).map (AOut.reh h1) :=by
 unfold iO;rw [aPS hk (h:=h),aUa hk (h:=h)];cases fP P h tm o<;>rfl
theorem aPT {tm:T AV}{o:Oper}(hk:cC o.op= .pure){a:AV}{hx:Hp}(h0:iO P h tm o=some (.val a hx))(h1:Hp) :iO P h1 tm o=some (.val a h1) :=by
 rw [aUb hk (h:=h),h0];rfl
mutual
theorem AV.same_eq :∀ (a b:AV),same a b=true→a=b
 | .bool _,b,h=>by cases b<;>simp_all [same]
 | .int _ _,b,h=>by cases b<;>simp_all [same]
 | .str _ _,b,h=>by cases b<;>simp_all [same,aZ]
 | .ptr _ _,b,h=>by cases b<;>simp_all [same,aZ]
 | .nilp,b,h=>by cases b<;>simp_all [same]
 | .slice ..,b,h=>by cases b<;>simp_all [same,aZ]
 | .nils,b,h=>by cases b<;>simp_all [same]
 | .map _,b,h=>by cases b<;>simp_all [same,aZ]
 | .nilm,b,h=>by cases b<;>simp_all [same]
 | .func f fs cs,b,h=>by
  cases b with
  | func f' fs' cs'=>
   simp only [same,dC,aZ,decide_eq_true_eq]at h;rw [h.1.1,AV.sameL_eq _ _ h.1.2,AV.sameL_eq _ _ h.2]
  |_=>simp [same]at h
 | .yield _,b,h=>by cases b<;>simp_all [same,aZ]
 | .meth _ _,b,h=>by cases b<;>simp_all [same]
 | .via ..,b,h=>by cases b<;>simp_all [same]
 | .nilf,b,h=>by cases b<;>simp_all [same]
 | .iface t v,b,h=>by
  cases b with
  | iface t' v'=>
   simp only [same,dC,aZ,decide_eq_true_eq]at h;rw [h.1,AV.same_eq _ _ h.2]
  |_=>simp [same]at h
 | .nili,b,h=>by cases b<;>simp_all [same]
 | .agg vs,b,h=>by
  cases b with
  |agg vs'=>simp only [same]at h;rw [AV.sameL_eq _ _ h]
  |_=>simp [same]at h
 | .tup vs,b,h=>by
  cases b with
  |tup vs'=>simp only [same]at h;rw [AV.sameL_eq _ _ h]
  |_=>simp [same]at h
 | .ilst e xs ex,b,h=>by
  cases b with
  | ilst e' xs' ex'=>
   simp only [same,dC,aZ,decide_eq_true_eq,beq_iff_eq]at h;rw [h.1.1,AV.sameL_eq _ _ h.1.2,h.2]
  |_=>simp [same]at h
 | .iptr cs,b,h=>by
  cases b with
  |iptr cs'=>simp only [same]at h;rw [AV.sameL_eq _ _ h]
  |_=>simp [same]at h
 | .gl ..,b,h=>by cases b<;>simp_all [same,aZ]
 | .ep ..,b,h=>by cases b<;>simp_all [same,aZ]
 | .val _,b,h=>by cases b<;>simp_all [same]
theorem AV.sameL_eq :∀ (a b:List AV),sameL a b=true→a=b
 | [],b,h=>by cases b<;>simp_all [sameL]
 | a::aS,b,h=>by
  cases b with
  |nil=>simp [sameL]at h
  | cons b bs=>
   simp only [sameL,dC]at h;rw [AV.same_eq _ _ h.1,AV.sameL_eq _ _ h.2]
end
theorem aFQ {a:Again}(h0:aBr P a h=true) :∃hx,iO P h a.tm a.o=some (.val a.v hx) :=by
 unfold aBr at h0;split at h0
 ·rename_i v hx hv;exact⟨hx,by rw [hv,AV.same_eq _ _ h0]⟩
 ·cases h0
theorem pH {a:Again}:∀ {hs:List Hp} {k x:Nat} {h:Hp},kT P a hs k=true→hs[x]?=some h→x≤k→a.lo≤k-x→k-x≤a.hi→aBr P a h=true
 | [],k,x,h,_,hx,_,_,_=>by simp at hx
 | y::ys,k,x,h,h0,hx,hk,h1,h2=>by
  simp only [kT,dC]at h0;cases x with
  | zero=>
   simp at hx;subst hx;have:=h0.1;rw [sub_zero]at h1 h2;simp only [gG,h1,h2,decide_true,Bool.and_self,cond]at this;exact this
  |succ x=>exact pH (k:=k-1) (x:=x) h0.2 (by simpa using hx) (by omega) (by omega) (by omega)
theorem wC {hs:List Hp}{k:Nat}:∀ {aS:List Again},pC P hs k aS=true→∀a∈aS,kT P a hs k=true
 | [],_,a,ha=>by cases ha
 | x::xs,h0,a,ha=>by
  simp only [pC,dC]at h0;cases ha with
  |head=>exact h0.1
  |tail _ ha=>exact wC h0.2 a ha
def uW (P:Program)(hs:List Hp)(k:Nat)(aS:List Again) :Prop:=
 ∀a∈aS,∀ (x:Nat) (h:Hp),hs[x]?=some h→x≤k→a.lo≤k-x→k-x≤a.hi→∃hx,iO P h a.tm a.o=some (.val a.v hx)
theorem aCk {hs:List Hp}{k:Nat}{aS:List Again}(h0:pC P hs k aS=true) :uW P hs k aS:=
 fun a ha _ _ hx h1 h2 h3=>aFQ (pH (wC h0 a ha) hx h1 h2 h3)
theorem aAi {tm:T AV}{o:Oper}(c:Call)(hc:o.op= .defer c) :vop P h tm o=none:=by
 unfold vop;rw [hc]
theorem wU {tm:T AV}{o:Oper}(c:Call)(hc:o.op= .defer c){out:AOut}(h0:fP P h tm o=some out) :∃d,out= .defer d:=by
 unfold fP at h0;rw [hc]at h0;simp only [cond_eq_ite]at h0
 repeat' split at h0
 all_goals first| (cases h0;done) | (cases h0;exact⟨_,rfl⟩)
theorem aEA {tm:T AV}{o:Oper}{v:AV}{h2:Hp}(h0:iO P h tm o=some (.val v h2)) :∀c,o.op≠ .defer c:=by
 intro c hc;unfold iO at h0;split at h0
 ·rename_i r hr;cases h0;obtain⟨d,e⟩ :=wU c hc hr;cases e
 ·rw [aAi c hc]at h0;cases h0
theorem wV {tm:T AV}{o:Oper}{c':AIn}(h0:iO P h tm o=some (.call c')) :∀c,o.op≠ .defer c:=by
 intro c hc;unfold iO at h0;split at h0
 ·rename_i r hr;cases h0;obtain⟨d,e⟩ :=wU c hc hr;cases e
 ·rw [aAi c hc]at h0;cases h0
def pI (l:List Oper)(i:Nat) :Option Nat:= (l[i]?).bind (·.dst)
def tJ (l:List Oper)(i:Nat) :Nat:=vK (bsOf l) i (dU l 0) 0
def aWc (l:List Oper)(i:Nat) :Nat:=aFv ((bsOf l).getD i 0) (dU l 0) 0
structure Trace (P:Program) (call:bB) (l:List Oper) (nt:Nat) (R:Nat→RS) (A:Nat→AV) :Prop where
 step:∀i o,l[i]?=some o→fQ (R i).tm nt o.dst (A i) =some (R (i+1)).tm∧RC P call l (qI l i o) (R i) (R (i+1)) (A i)
 chain:chained (bsOf l) (dU l 0) =true
 wok:wOk (bsOf l) l l 0=true
 idOk:∀i o,l[i]?=some o→∀e∈o.after.toList,Region.binds .any e=true→e.on<i
 s0: (R 0).s=0
 st0: (R 0).stages= []
 p0: (R 0).pend= []
 a0: (R 0).again= []
 nx: (R l.length).next≤ (R 0).h.nb
 again:uW P ((R l.length).h:: (R l.length).stages) (R l.length).s (R l.length).again
def bD (l:List Oper)(R:Nat→RS)(k:Nat) :Hp:= (((R l.length).h:: (R l.length).stages)[(R l.length).s-k]?).getD (R 0).h
theorem RC.s {call:bB}{l:List Oper}{p:Plan}{r r':RS}{a:AV}(c:RC P call l p r r' a) :r'.s=if p.kd= .eff then r.s+1 else r.s:=by
 cases c with
 |unwE hw ha hk e=>rw [e,hk];rfl
 |unwF hw ha hk e=>rw [e,hk];rfl
 |unwQ hw ha hk e=>rw [e];rcases hk with hk|hk<;>rw [hk] <;>rfl
 |pure hx hw hk h0 e=>rw [e,hk];rfl
 |read hx hw hk h0 e=>rw [e,hk];rfl
 |own vs hw hk h0 h1 e=>rw [e,hk];rfl
 |fresh ob hw hk h0 e=>rw [e,hk];rfl
 |eff h2 hw hk h0 e=>rw [e,hk];rfl
theorem RC.list {call:bB}{l:List Oper}{p:Plan}{r r':RS}{a:AV}(c:RC P call l p r r' a) :
  (p.kd= .eff∧r'.stages=r.h::r.stages) ∨ (p.kd≠ .eff∧r'.h=r.h∧r'.stages=r.stages) :=by
 cases c with
 |unwE hw ha hk e=>left;rw [e,hk];exact⟨rfl,rfl⟩
 |unwF hw ha hk e=>right;rw [e,hk];exact⟨by decide,rfl,rfl⟩
 |unwQ hw ha hk e=>right;rw [e];rcases hk with hk|hk<;>rw [hk] <;>exact⟨by decide,rfl,rfl⟩
 |pure hx hw hk h0 e=>right;rw [e,hk];exact⟨by decide,rfl,rfl⟩
 |read hx hw hk h0 e=>right;rw [e,hk];exact⟨by decide,rfl,rfl⟩
 |own vs hw hk h0 h1 e=>right;rw [e,hk];exact⟨by decide,rfl,rfl⟩
 |fresh ob hw hk h0 e=>right;rw [e,hk];exact⟨by decide,rfl,rfl⟩
 |eff h2 hw hk h0 e=>left;rw [e,hk];exact⟨rfl,rfl⟩
theorem RC.next {call:bB}{l:List Oper}{p:Plan}{r r':RS}{a:AV}(c:RC P call l p r r' a) :r'.next=if p.kd= .fresh then r.next+1 else r.next:=by
 cases c with
 |unwE hw ha hk e=>rw [e,hk];rfl
 |unwF hw ha hk e=>rw [e,hk];rfl
 |unwQ hw ha hk e=>rw [e];rcases hk with hk|hk<;>rw [hk] <;>rfl
 |pure hx hw hk h0 e=>rw [e,hk];rfl
 |read hx hw hk h0 e=>rw [e,hk];rfl
 |own vs hw hk h0 h1 e=>rw [e,hk];rfl
 |fresh ob hw hk h0 e=>rw [e,hk];rfl
 |eff h2 hw hk h0 e=>rw [e,hk];rfl
theorem RC.pend {call:bB}{l:List Oper}{p:Plan}{r r':RS}{a:AV}(c:RC P call l p r r' a) :
  r'.pend=r.pend∨∃ob,p.kd= .fresh∧bC r.tm l p.o=some true∧lF P r.tm r.next p.o=some (a,ob) ∧r'.pend= (p.hi,r.next,ob) ::r.pend:=by
 cases c with
 |unwE hw ha hk e=>left;rw [e]
 |unwF hw ha hk e=>left;rw [e]
 |unwQ hw ha hk e=>left;rw [e]
 |pure hx hw hk h0 e=>left;rw [e]
 |read hx hw hk h0 e=>left;rw [e]
 |own vs hw hk h0 h1 e=>left;rw [e]
 |fresh ob hw hk h0 e=>right;rw [e];exact⟨ob,hk,hw,h0,rfl⟩
 |eff h2 hw hk h0 e=>left;rw [e]
theorem RC.again {call:bB}{l:List Oper}{p:Plan}{r r':RS}{a:AV}(c:RC P call l p r r' a) :∀x∈r.again,x∈r'.again:=by
 cases c with
 | read hx hw hk h0 e=>
  rw [e];intro x hx;simp only;cases beq p.lo p.hi with
  |true=>exact hx
  |false=>exact dR _ hx
 |unwE hw ha hk e=>rw [e];exact fun _ h=>h
 |unwF hw ha hk e=>rw [e];exact fun _ h=>h
 |unwQ hw ha hk e=>rw [e];exact fun _ h=>h
 |pure hx hw hk h0 e=>rw [e];exact fun _ h=>h
 |own vs hw hk h0 h1 e=>rw [e];exact fun _ h=>h
 |fresh ob hw hk h0 e=>rw [e];exact fun _ h=>h
 |eff h2 hw hk h0 e=>rw [e];exact fun _ h=>h
section
variable {call :bB} {l:List Oper} {nt:Nat} {R:Nat→RS} {A:Nat→AV}
theorem qK {i:Nat}{o:Oper}(h:l[i]?=some o) :i<l.length:= (zq0.1 h).1
theorem tK {i:Nat}(h:i<l.length) :∃o,l[i]?=some o:= ⟨_,lZ h⟩
theorem yQ (l:List Oper){p q e f:Nat}(hp: (dU l 0)[p]?=some e)(hq: (dU l 0)[q]?=some f) : (p<q↔e<f) :=by
 obtain⟨_,_,h⟩ :=fG l 0;rw [List.pairwise_iff_getElem]at h;obtain⟨hp1,hp2⟩ :=zq0.1 hp;obtain⟨hq1,hq2⟩ :=zq0.1 hq;constructor
 ·intro g;have:=h p q hp1 hq1 g;rw [hp2,hq2]at this;exact this
 · intro g;rcases Nat.lt_trichotomy p q with k|k|k
   ·exact k
   ·subst k;rw [hp]at hq;cases hq;omega
   ·have:=h q p hq1 hp1 k;rw [hp2,hq2]at this;omega
theorem Trace.cnt (T:Trace P call l nt R A) :∀i,i≤l.length→ (R i).s≤ (dU l 0).length∧∀q e,(dU l 0)[q]?=some e→ (q< (R i).s↔e<i)
 |0,_=>by rw [T.s0];exact⟨zero_le _,fun q e _=>by omega⟩
 | i + 1,hi=>by
  obtain⟨h1,h2⟩ :=T.cnt i (by omega);obtain⟨o,ho⟩ :=tK (l:=l) (i:=i) (by omega);have hs:= (T.step i o ho).2.s;by_cases hk:cC o.op= .eff
  · rw [if_pos (show(qI l i o).kd= .eff from hk)]at hs;obtain⟨q,hq⟩ := (fG l 0).2.1 i o ho hk;rw [jS]at hq;have hql:= (zq0.1 hq).1;have hqs: (R i).s=q:=by
     rcases Nat.lt_trichotomy (R i).s q with k|k|k
     · obtain⟨e,he⟩ :∃e,(dU l 0)[(R i).s]?=some e:= ⟨_,lZ (by omega)⟩;have:= (yQ l he hq).1 k;have:= (h2 _ _ he).2 this;omega
     ·exact k
     ·have:= (h2 _ _ hq).1 k;omega
    rw [hs,hqs];refine⟨by omega,fun q' e' he'=>?_⟩;have a1:=yQ l he' hq;have a2:=yQ l hq he';constructor
    · intro g;rcases lt_or_ge q' q with k|k
      ·have:=a1.1 k;omega
      · have:q'=q:=by omega
        subst this;rw [hq]at he';cases he';omega
    · intro g;rcases lt_or_ge q q' with k|k
      ·have:=a2.1 k;omega
      ·omega
  · rw [if_neg (show ¬ (qI l i o).kd= .eff from hk)]at hs;rw [hs];refine⟨h1,fun q' e' he'=>?_⟩;rw [h2 _ _ he'];obtain⟨_,_,o',ho',hk'⟩ := (fG l 0).1 q' e' he';have:e'≠i:=fun e=>by subst e;rw [sub_zero]at ho';rw [ho]at ho';cases ho';exact hk hk'
    omega
theorem Trace.sEff (T:Trace P call l nt R A){q e:Nat}(hq: (dU l 0)[q]?=some e) : (R e).s=q∧ (R (e+1)).s=q+1:=by
 obtain⟨_,h2,o,ho,hk⟩ := (fG l 0).1 q e hq;rw [sub_zero]at ho;have hs:= (T.step e o ho).2.s;rw [if_pos (show(qI l e o).kd= .eff from hk)]at hs;obtain⟨a1,a2⟩ :=T.cnt e (by omega);obtain⟨b1,b2⟩ :=T.cnt (e+1) (by omega);have:=a2 q e hq;have:=b2 q e hq;omega
theorem Trace.sEnd (T:Trace P call l nt R A) : (R l.length).s= (dU l 0).length:=by
 obtain⟨a1,a2⟩ :=T.cnt l.length (le_refl _);rcases lt_or_ge (R l.length).s (dU l 0).length with k|k
 · obtain⟨e,he⟩ :∃e,(dU l 0)[(R l.length).s]?=some e:= ⟨_,lZ k⟩;obtain⟨_,h2,_⟩ := (fG l 0).1 _ e he;have:= (a2 _ _ he).2 (by omega);omega
 ·omega
theorem Trace.suffix (T:Trace P call l nt R A) :∀d i,i+d=l.length→ (R i).s≤ (R l.length).s∧∃pre,pre.length= (R l.length).s- (R i).s∧ (R l.length).h:: (R l.length).stages=pre++ ((R i).h:: (R i).stages)
 | 0,i,hi=>by
  rw [add_zero]at hi;subst hi;exact⟨le_refl _,[],by simp,rfl⟩
 | d +1,i,hi=>by
  obtain⟨h1,pre,h2,h3⟩ :=T.suffix d (i+1) (by omega);obtain⟨o,ho⟩ :=tK (l:=l) (i:=i) (by omega);have hs:= (T.step i o ho).2.s;rcases(T.step i o ho).2.list with⟨hk,e⟩ | ⟨hk,e1,e2⟩
  · rw [if_pos hk]at hs;refine⟨by omega,pre++ [(R (i+1)).h],by simp;omega,?_⟩;rw [h3,e];simp
  · rw [if_neg hk]at hs;refine⟨by omega,pre,by omega,?_⟩;rw [h3,e1,e2]
theorem Trace.stage (T:Trace P call l nt R A){i:Nat}(hi:i≤l.length) :bD l R (R i).s= (R i).h:=by
 obtain⟨h1,pre,h2,h3⟩ :=T.suffix (l.length-i) i (by omega);unfold bD;rw [h3,←h2,aDR (le_refl _)];simp
theorem Trace.stages_len (T:Trace P call l nt R A) :∀i,i≤l.length→ (R i).stages.length= (R i).s
 |0,_=>by rw [T.st0,T.s0];rfl
 | i+1,hi=>by
  have ih:=T.stages_len i (by omega);obtain⟨o,ho⟩ :=tK (l:=l) (i:=i) (by omega);have hs:= (T.step i o ho).2.s;rcases(T.step i o ho).2.list with⟨hk,e⟩ | ⟨hk,e1,e2⟩
  ·rw [if_pos hk]at hs;rw [e,hs];simp [ih]
  ·rw [if_neg hk]at hs;rw [e2,hs,ih]
theorem Trace.stage_get (T:Trace P call l nt R A){k:Nat}(hk:k≤ (R l.length).s) : ((R l.length).h:: (R l.length).stages)[(R l.length).s-k]?=some (bD l R k) :=by
 have:=T.stages_len _ (le_refl _);unfold bD;rw [lZ (by simp;omega)];rfl
theorem Trace.next_mono (T:Trace P call l nt R A) :∀d i,i+d≤l.length→ (R i).next≤ (R (i+d)).next
 |0,i,_=>le_refl _
 | d+1,i,hi=>by
  have ih:=T.next_mono d i (by omega);obtain⟨o,ho⟩ :=tK (l:=l) (i:=i+d) (by omega);have hs:= (T.step _ o ho).2.next
  rw [show i+ (d+1) =i+d+1 by omega,hs];split<;>omega
theorem Trace.next_fresh (T:Trace P call l nt R A){f:Nat}{o:Oper}(ho:l[f]?=some o)(hk:cC o.op= .fresh) : (R (f+1)).next= (R f).next+1:=by
 have:= (T.step _ o ho).2.next
 rw [if_pos (show(qI l f o).kd= .fresh from hk)]at this;exact this
theorem Trace.id_ne (T:Trace P call l nt R A){f g:Nat}{o o':Oper}(ho:l[f]?=some o)(hk:cC o.op= .fresh)(ho':l[g]?=some o')(hk':cC o'.op= .fresh)(hne:f≠g) : (R f).next≠ (R g).next:=by
 have h1:=T.next_fresh ho hk;have h2:=T.next_fresh ho' hk';have hf:=qK ho;have hg:=qK ho';rcases lt_or_ge f g with k|k
 · have:=T.next_mono (g- (f+1)) (f+1) (by omega);rw [show f+1+ (g- (f+1)) =g by omega]at this;omega
 · have:=T.next_mono (f- (g+1)) (g+1) (by omega);rw [show g+1+ (f- (g+1)) =f by omega]at this;omega
theorem Trace.id_lt (T:Trace P call l nt R A){f:Nat}{o:Oper}(ho:l[f]?=some o)(hk:cC o.op= .fresh) : (R 0).next≤ (R f).next∧ (R f).next< (R 0).h.nb:=by
 have h1:=T.next_fresh ho hk;have hf:=qK ho;have h2:=T.next_mono f 0 (by omega);rw [jS]at h2;have h3:=T.next_mono (l.length- (f+1)) (f+1) (by omega);rw [show f+1+ (l.length- (f+1)) =l.length by omega]at h3;have:=T.nx;omega
theorem Trace.pend_mem (T:Trace P call l nt R A) :∀i,i≤l.length→∀k x ob,(k,x,ob) ∈ (R i).pend →
  ∃f o,f<i∧l[f]?=some o∧cC o.op= .fresh∧bC (R f).tm l o=some true∧lF P (R f).tm (R f).next o=some (A f,ob) ∧k=tJ l f∧x= (R f).next
 |0,_,k,x,ob,h=>by rw [T.p0]at h;cases h
 | i +1,hi,k,x,ob,h=>by
  have ih:=T.pend_mem i (by omega);obtain⟨o,ho⟩ :=tK (l:=l) (i:=i) (by omega)
  have old: (k,x,ob) ∈ (R i).pend→ (∃f o,f<i+1∧l[f]?=some o∧cC o.op= .fresh∧bC (R f).tm l o=some true∧lF P (R f).tm (R f).next o=some (A f,ob) ∧k=tJ l f∧x= (R f).next) :=fun g=>by
   obtain⟨f,o,h1,h2⟩ :=ih k x ob g;exact⟨f,o,by omega,h2⟩
  rcases(T.step i o ho).2.pend with e| ⟨ob',hk,hw,hf,e⟩
  ·rw [e]at h;exact old h
  · rw [e]at h;cases h with
    |head=>exact⟨i,o,by omega,ho,hk,hw,hf,rfl,rfl⟩
    |tail _ h=>exact old h
theorem Trace.again_mem (T:Trace P call l nt R A) :∀d i,i+d≤l.length→∀x∈ (R i).again,x∈ (R (i+d)).again
 |0,i,_,x,hx=>hx
 | d+1,i,hi,x,hx=>by
  have ih:=T.again_mem d i (by omega) x hx;obtain⟨o,ho⟩ :=tK (l:=l) (i:=i+d) (by omega);exact(T.step _ o ho).2.again x ih
theorem Trace.view (T:Trace P call l nt R A)(t:Nat) :∀i,i≤l.length→ (R i).tm.at t=dB (R 0).tm (pI l) A (fun _=>True) i t
 |0,_=>rfl
 | i +1,hi=>by
  have ih:=T.view t i (by omega);obtain⟨o,ho⟩ :=tK (l:=l) (i:=i) (by omega);have hp:= (T.step _ o ho).1;have hd:pI l i=o.dst:=by simp [pI,ho]
  simp only [dB,hd,true_and];unfold fQ at hp;split at hp
  ·rename_i h0;rw [←Option.some.inj hp,h0,if_neg (by simp)];exact ih
  · rename_i d h0;rw [h0];cases hb:blt d nt with
    |false=>rw [hb]at hp;cases hp
    | true=>
     rw [hb]at hp;simp only [cond,Option.some.injEq]at hp;rw [←hp,Go.Hb.T.at_put];by_cases ht:t=d
     ·subst ht;simp
     ·rw [if_neg ht,if_neg (by simpa using fun e=>ht e.symm)];exact ih
theorem Trace.nat_closed (T:Trace P call l nt R A)(i:Nat) :Closed l (· <i) :=fun k o ho hk e he hb=>Nat.lt_trans (T.idOk k o ho e he hb) hk
theorem Trace.window (T:Trace P call l nt R A){D:Nat→Prop}{j i:Nat}{o:Oper}(hD:Closed l D)(hlt:∀i,D i→i<l.length)(hE:∀q e,(dU l 0)[q]?=some e→ (D e↔q<j))(hj:j≤ (dU l 0).length)
  (ho:l[i]?=some o) (hi:¬D i) (hm:Met D o) :aWc l i≤j∧j≤tJ l i:=by
 refine⟨aMI _ _ _ _ fun q e he hb=>?_,?_⟩
 · have:=iW hD hlt (i+1) i (by omega) o ho hm e hb;have:= (hE q e he).1 this;omega
 · obtain⟨h1,h2,h3,h4⟩ :=aAh (bsOf l) i (dU l 0) 0;rcases lt_or_ge (tJ l i) j with k|k
   · exfalso;have hl:tJ l i< (dU l 0).length:=by omega
     have hx: (dU l 0)[tJ l i]?=some ((dU l 0)[tJ l i]) :=lZ hl;have hb:=h4 _ hx;have hd:= (hE _ _ hx).2 k;obtain⟨oe,hoe⟩ :=tK (hlt _ hd);exact hi (iW hD hlt _ _ (Nat.lt_succ_self _) oe hoe (hD _ _ hoe hd) i hb)
   ·exact k
theorem aKs {f e:Nat}(he: (dU l 0)[tJ l f]?=some e) :testBit ((bsOf l).getD e 0) f=true:=
 (aAh (bsOf l) f (dU l 0) 0).2.2.2 _ he
theorem Trace.before (T:Trace P call l nt R A){q e f:Nat}(he: (dU l 0)[q]?=some e)(hf: (dU l 0)[q+1]?=some f) :testBit ((bsOf l).getD f 0) e=true:=yP T.chain q e f he hf
theorem memN_spec {t:Nat}:∀ {l:List Nat},vL t l=true↔t∈l
 | [] =>by simp [vL]
 |x::xs=>by simp only [vL,or_eq_true,aZ,decide_eq_true_eq,memN_spec (l:=xs),zq7];exact⟨fun h=>h.imp Eq.symm id,fun h=>h.imp Eq.symm id⟩
theorem aCl {bs:List Nat}{i:Nat}{names:List Nat}:∀ {l:List Oper} {k:Nat},aHv bs i names l k=true→∀x o d,l[x]?=some o→o.dst=some d→d∈names →
  k+x=i∨ (k+x<i∧testBit (bs.getD i 0) (k+x) =true) ∨ (i<k+x∧testBit (bs.getD (k+x) 0) i=true)
 | [],k,_,x,o,d,ho,_,_=>by simp at ho
 | y::ys,k,h,x,o,d,ho,hd,hn=>by
  simp only [aHv,dC]at h;cases x with
  | zero=>
   simp at ho;subst ho;have:=h.1;rw [hd]at this;simp only [or_eq_true,not_eq_true',aZ,cF,decide_eq_true_eq,dC]at this;rcases this with((g|g) |g) |g
   ·rw [memN_spec.2 hn]at g;cases g
   ·exact .inl g
   ·exact .inr (.inl g)
   ·exact .inr (.inr g)
  | succ x=>
   have:=aCl h.2 x o d (by simpa using ho) hd hn;rwa [show Nat.succ k+x=k+ (x+1)by omega]at this
theorem aHK {bs:List Nat}{ops:List Oper}:∀ {l:List Oper} {k:Nat},wOk bs ops l k=true→∀i o,l[i]?=some o→aHv bs (k+i) (kG ops o) ops 0=true
 | [],k,_,i,o,ho=>by simp at ho
 | y::ys,k,h,i,o,ho=>by
  simp only [wOk,dC]at h;cases i with
  |zero=>simp at ho;subst ho;exact h.1
  | succ i=>
   have:=aHK h.2 i o (by simpa using ho);rwa [show Nat.succ k+i=k+ (i+1)by omega]at this
theorem Trace.writers (T:Trace P call l nt R A){D:Nat→Prop}{i:Nat}{o:Oper}(hD:Closed l D)(hlt:∀i,D i→i<l.length)(ho:l[i]?=some o)(hi:¬D i)(hm:Met D o){t k:Nat}(ht:t∈kG l o)(hk:pI l k=some t) :
  k=i∨ (k<i∧D k) ∨ (i<k∧¬D k) :=by
 unfold pI at hk;cases hok:l[k]? with
 |none=>rw [hok]at hk;cases hk
 | some ok=>
  rw [hok]at hk;have:=aHK T.wok i o ho;rw [jS]at this;have:=aCl this k ok t hok hk ht;rw [jS]at this;rcases this with h1| ⟨h1,h2⟩ | ⟨h1,h2⟩
  ·exact .inl h1
  ·exact .inr (.inl ⟨h1,iW hD hlt (i+1) i (by omega) o ho hm k h2⟩)
  ·refine .inr (.inr ⟨h1,fun hd=>hi (iW hD hlt (k+1) k (by omega) ok hok (hD _ _ hok hd) i h2)⟩)
section
variable {D :Nat→Prop} [DecidablePred D] {i:Nat} {o:Oper}
theorem Trace.view_ready (T:Trace P call l nt R A)(hD:Closed l D)(hlt:∀i,D i→i<l.length)(ho:l[i]?=some o)(hi:¬D i)(hm:Met D o){t:Nat}(ht:t∈kG l o) :
  dB (R 0).tm (pI l) A D l.length t= (R i).tm.at t:=by
 have hil:=qK ho;rw [T.view t i (by omega),uV (i:=i) (n:=l.length) (by omega) (fun k h1 h2 hk=>?_)]
 · refine qJ fun k hk hd=> ⟨fun _=>trivial,fun _=>?_⟩;rcases T.writers hD hlt ho hi hm ht hd with g|g|g
   ·omega
   ·exact g.2
   ·omega
 · rcases T.writers hD hlt ho hi hm ht hk with g|g|g
   ·subst g;exact hi
   ·omega
   ·exact g.2
theorem Trace.view_done (T:Trace P call l nt R A)(hD:Closed l D)(hlt:∀i,D i→i<l.length)(ho:l[i]?=some o)(hi:¬D i)(hm:Met D o)(t:Nat){D':Nat→Prop}[DecidablePred D'](hD':∀k,D' k↔ (D k∨k=i)) :
  dB (R 0).tm (pI l) A D' l.length t=if o.dst=some t then some (A i)else dB (R 0).tm (pI l) A D l.length t:=by
 have hil:=qK ho;have hd0:pI l i=o.dst:=by simp [pI,ho]
 split
 · rename_i hd;have hn:t∈kG l o:=by simp [kG,hd]
   rw [uV (i:=i+1) (n:=l.length) (by omega) (fun k h1 h2 hk=>?_)]
   · simp only [dB];rw [if_pos ⟨(hD' i).2 (.inr rfl),by rw [hd0];exact hd⟩]
   · rw [hD']
     rintro(g|g)
     · rcases T.writers hD hlt ho hi hm hn hk with g'|g'|g'
       ·omega
       ·omega
       ·exact g'.2 g
     ·omega
 · rename_i hd;refine qJ fun k hk hdk=>?_;rw [hD'];constructor
   · rintro(g|g)
     ·exact g
     ·subst g;rw [hd0]at hdk;exact absurd hdk hd
   ·exact .inl
end
end
end
end
end Go.Hb
