/- A machine on abstract values, its soundness, ways, plain laws. -/
import Derived.Test.YtnljmgihoioocaaGreatHB
import Derived.Defers
import Derived.Orders
set_option linter.defProp false
set_option linter.unusedVariables false
set_option linter.unusedSimpArgs false
set_option linter.unusedSectionVars false
set_option maxRecDepth 100000
namespace Go.Hb
open AV (keyless same sameL)
open Bool (not_eq_true' or_eq_true)
open List (drop_drop getElem?_drop getElem?_take getElem?_take_of_lt getElem?_toArray length_drop length_nil length_take mem_of_mem_drop mem_of_mem_take take)
open Nat (add_mul add_zero beq ble blt le_refl lt_or_ge mod_lt mul_le_mul_right sub_zero succ_mul testBit zero_le)
open Option (bind_some elim getD_none getD_some map_some)
noncomputable section
section
variable {P :Program} {E:Emb} {h h':Hp} {w w':World}
theorem mW (v:Value)(vs:List Value) :flat (v::vs) =v.cells.toList++flat vs:=rfl
theorem wP (us vs:List Value) :flat (us++vs) =flat us++flat vs:=by simp [flat]
theorem flat_length {e:Nat}:∀ {a:List Value},(∀u∈a,okE e u) → (flat a).length=a.length*e
 | [],_=>by simp [flat]
 | v::a,hk=>by
  rw [mW,vP,flat_length (fun u b=>hk u (cH _ b)),Array.length_toList,(hk v (cQ ..)).1,mO,add_mul];omega
theorem pH {e:Nat}:∀ {vs:List Value} (k:Nat),(∀u∈vs,okE e u) →flat (vs.drop k) = (flat vs).drop (k*e)
 | [],k,_=>by simp [flat]
 |v::vs,0,_=>by simp
 | v::vs,k+1,hk=>by
  have a:v.cells.toList.length=e:=by rw [Array.length_toList];exact(hk v (cQ ..)).1
  have d: (k+1) *e=e+k*e:=by rw [add_mul];omega
  have c: (v.cells.toList++flat vs).drop e=flat vs:=by rw [List.drop_append_of_le_length (Nat.le_of_eq a.symm),List.drop_of_length_le (Nat.le_of_eq a),List.nil_append]
  rw [List.drop_succ_cons,pH k (fun u b=>hk u (cH _ b)),mW,d,←drop_drop,c]
theorem sK {e:Nat}:∀ {a:List Value} (k:Nat),(∀u∈a,okE e u) →flat (a.take k) = (flat a).take (k*e)
 | [],k,_=>by simp [flat]
 |v::a,0,_=>by simp [flat]
 | v::a,k+1,hk=>by
  have b:v.cells.toList.length=e:=by rw [Array.length_toList];exact(hk v (cQ ..)).1
  have d: (k+1) *e=e+k*e:=by rw [add_mul];omega
  rw [List.take_succ_cons,mW,sK k (fun u c=>hk u (cH _ c)),mW,d,List.take_append,aG3 (l:=v.cells.toList) (by omega),b,Nat.add_sub_cancel_left]
theorem flat_get {e:Nat}{c:List Value}(hk:∀u∈c,okE e u){i j:Nat}{v:Value}(d:c[i]?=some v)(k:j<e) : (flat c)[i*e+j]?=v.cells[j]?:=by
 have f:flat (c.drop i) = (flat c).drop (i*e) :=pH i hk;have h:c.drop i=v::c.drop (i+1) :=by
  have:= (zq0.1 d);obtain⟨a,b⟩ :=this;rw [List.drop_eq_getElem_cons a,b]
 have g: (flat c)[i*e+j]?= (flat (c.drop i))[j]?:=by rw [f,getElem?_drop]
 rw [g,h,mW,hP (by rw [Array.length_toList,(hk v (kS d)).1];exact k),rO]
theorem aU5 {e:Nat}{b:List Value}(hk:∀u∈b,okE e u) :∀c∈flat b,c.oneCell'=true:=fun c hc=>by
 obtain⟨u,d,a⟩ :=List.mem_flatMap.1 hc;exact(hk u d).2 c a
mutual
theorem eS :∀ {E:Emb} {a:AV} {v:Value},keyless a=true→VR E a v→VR E.p a v
 |_,.bool _,_,_,r=>by simpa [VR]using r
 |_,.int _ _,_,_,r=>by simpa [VR]using r
 |_,.str _ _,_,_,r=>by simpa [VR]using r
 |_,.ptr _ _,_,k,_=>by simp [keyless]at k
 |_,.nilp,_,_,r=>by simpa [VR]using r
 |_,.slice _ _ _ _ _ _,_,k,_=>by simp [keyless]at k
 |_,.nils,_,_,r=>by simpa [VR]using r
 |_,.map _,_,k,_=>by simp [keyless]at k
 |_,.nilm,_,_,r=>by simpa [VR]using r
 | _,.func _ fs f,_,k,r=>by
  simp only [keyless,cP]at k;simp only [VR]at r ⊢;obtain⟨a,b,c,d,e⟩ :=r;exact⟨a,b,c,gC k.1 d,gC k.2 e⟩
 |_,.yield _,_,k,_=>by simp [keyless]at k
 | _,.meth _ a,_,k,r=>by
  simp only [keyless]at k;simp only [VR]at r ⊢;obtain⟨u,c,d⟩ :=r;exact⟨u,c,eS k d⟩
 | _,.via _ _ _ a,_,k,r=>by
  simp only [keyless]at k;simp only [VR]at r ⊢;obtain⟨u,c,d⟩ :=r;exact⟨u,c,eS k d⟩
 |_,.nilf,_,_,r=>by simpa [VR]using r
 | _,.iface _ a,_,k,r=>by
  simp only [keyless]at k;simp only [VR]at r ⊢;obtain⟨u,c,d⟩ :=r;exact⟨u,c,eS k d⟩
 |_,.nili,_,_,r=>by simpa [VR]using r
 | _,.agg g,_,k,r=>by
  simp only [keyless]at k;simp only [VR]at r ⊢;obtain⟨u,c,d⟩ :=r;exact⟨u,c,gC k d⟩
 | _,.tup g,_,k,r=>by
  simp only [keyless]at k;simp only [VR]at r ⊢;obtain⟨u,c,d⟩ :=r;exact⟨u,c,gC k d⟩
 |_,.ilst _ h _,_,_,r=>by simp only [VR]at r ⊢;exact r
 |_,.iptr f,_,_,r=>by simp only [VR]at r ⊢;exact r
 |_,.gl _ _ _ _ _,_,k,_=>by simp [keyless]at k
 |_,.ep _ _ _ _,_,k,_=>by simp [keyless]at k
 |_,.val _,_,_,r=>by simpa [VR]using r
theorem gC :∀ {E:Emb} {b:List AV} {c:List Value},AV.keylessL b=true→VRs E b c→VRs E.p b c
 |_,[],_,_,r=>by simpa [VRs]using r
 | _,a::b,_,k,r=>by
  simp only [AV.keylessL,cP]at k;simp only [VRs]at r ⊢;obtain⟨u,e,d,g,f⟩ :=r;exact⟨u,e,d,eS k.1 g,gC k.2 f⟩
end
theorem VR.of_p {a:AV}{v:Value}(r:VR E.p a v) :VR E a v:=r.mono E.p_le
theorem VRs.of_p {a:List AV}{vs:List Value}(r:VRs E.p a vs) :VRs E a vs:=r.mono E.p_le
theorem aDk {t:TypeId}{cs:List AV}{us:List Value}{a:AV}(b:aLa P t cs=some a)(i:VRs E cs us){k o:Nat}{C:Array Value}{e:TypeId}{f:Nat×Nat}(hk:w.heap[k]?=some (.cells C e f))
  (q:∀j,j<us.length→C[o+j]?=us[j]?) :∃cv,(loadVar t ⟨k,o,none⟩).run P w= .ok cv w∧VR E a cv:=by
 unfold aLa at b;split at b
 ·cases b
 · rename_i d m;cases c:isAggD d with
   | true=>
    rw [c]at b;simp only [cond]at b;split at b
    ·cases b
    · rename_i n s;cases hc:ble n cs.length with
      |false=>rw [hc]at b;cases b
      | true=>
       rw [hc]at b;simp only at b;cases b;have r:=Nat.le_of_ble_eq_true hc;have hl:=i.length;have g: (loadCells ⟨k,o,none⟩ n).run P w= .ok ⟨us.take n⟩ w:=run_loadCells (us.take n) hk (by simp;omega) (fun j l=>by rw [q j (by omega),getElem?_take_of_lt l]);exact⟨.agg ⟨us.take n⟩,by simp [loadVar,qR m,c,bY s,g],by simp only [VR];exact⟨_,rfl,i.take n⟩⟩
   | false=>
    rw [c]at b;simp only [cond]at b;obtain⟨v,g,u⟩ :=i.get _ _ b;have h:= (zq0.1 g).1;have p:=q 0 h;rw [g,add_zero]at p;exact⟨v,by simp [loadVar,qR m,c,cell_of hk,p],u⟩
theorem aE3 {L:Loc}{e:Nat}{xs:List AV}{C:Array Value}{a:List Value}(f:VRs E xs a)(hk:∀u∈a,okE e u)(hC:∀j,j<a.length*e→C[L.sh+j]?= (flat a)[j]?)
  {i:Nat} {x:AV} (d:xs[i]?=some x) :∃v,a[i]?=some v∧VR E x v∧okE e v∧∀j,j<e→C[L.sh+ (i*e+j)]?=v.cells[j]?:=by
 obtain⟨v,b,g⟩ :=f.get _ _ d;have c:= (zq0.1 b).1;refine⟨v,b,g,hk v (kS b),fun j h=>?_⟩
 rw [hC _ (by have:i*e+e≤a.length*e:=by rw [←succ_mul];exact mul_le_mul_right _ c
              omega),flat_get hk b h]
theorem aBp (g:Bool)(e:Nat) :∀ (n:Nat) (a:List AV),(vR g e n a).length=n
 |0,_=>rfl
 |n+1,a=>by simp [vR,aBp g e n]
theorem wQ (g:Bool){e:Nat}(he:g=false→e=1) :∀ (n:Nat) {i:List AV} {b:List Value},VRs E i b→b.length=n*e→ (∀u∈b,u.oneCell'=true) →
  ∃f,VRs E (vR g e n i) f∧flat f=b∧f.length=n∧∀u∈f,okE e u
 | 0,i,b,j,hl,_=>by
  have:b= [] :=zq35.1 (by omega);subst this;exact⟨[],VRs.nil E,rfl,rfl,fun u h=>by cases h⟩
 | n + 1,i,b,j,hl,l=>by
  have k:e≤b.length:=by rw [hl,add_mul];omega
  obtain⟨f,s,o,p,q⟩ :=wQ g he n (j.drop e) (by rw [length_drop,hl,add_mul];omega) (fun u h=>l u (mem_of_mem_drop h));cases g with
  | true=>
   refine⟨.agg ⟨b.take e⟩ ::f,VRs.cons (by simp only [cond,VR];exact⟨_,rfl,j.take e⟩) s,?_,by simp [p],?_⟩
   ·rw [mW,o];simp [Value.cells]
   · intro u h;rcases zq7.1 h with rfl|h
     · refine⟨by simp [Value.cells];omega,fun c hc=>?_⟩;simp only [Value.cells]at hc;exact l c (mem_of_mem_take hc)
     ·exact q u h
  | false=>
   have y:=he rfl;subst y;cases b with
   |nil=>simp at k
   | cons u b=>
    cases i with
    |nil=>obtain h0:=j.length;simp at h0
    | cons a B=>
     obtain⟨A,t,w,v,z⟩ :=j.cons_inv;cases w;have r:=l u (cQ ..);have hc:u.cells.toList= [u] :=by cases u<;>first|rfl| (simp [Value.oneCell']at r)
     refine⟨u::f,VRs.cons (by simpa using v) s,by rw [mW,o,hc];simp,by simp [p],?_⟩;intro x m;rcases zq7.1 m with rfl|m
     ·refine⟨by rw [←Array.length_toList,hc];rfl,fun c d=>by rw [hc]at d;simp at d;subst d;exact r⟩
     ·exact q x m
theorem tU (r:Rel E h w.heap){e:Nat}{ex:Bool}{j:Value}{c:List Value}(p:ImmS E.imm e ex j c) :
  ∃a b,j= .slice a c.length b∧ (a=none→b=0∧c= []) ∧ (ex=true→b=c.length) ∧c.length≤b∧∀d,a=some d→∀w1:World,w1.heap=w.heap→ (loadCells d (c.length*e)).run P w1= .ok ⟨flat c⟩ w1:=by
 obtain⟨hk,g| ⟨k,a,b,C,rfl,i,m,l,n⟩⟩ :=p
 · obtain⟨rfl,a,b,rfl,o,i⟩ :=g;refine⟨a,b,rfl,fun e=> ⟨o e,rfl⟩,i,zero_le _,fun d _ w1 _=>by simp [loadCells,loadCellsFrom,flat]⟩
 · refine⟨_,b,rfl,(fun e=>by cases e),l,m,fun d e w1 q=>?_⟩;cases e;obtain⟨s,f,g⟩ :=r.imm k C i;exact run_loadCells (flat c) (by rw [q];exact g) (flat_length hk) n
theorem addedE_sound (r : Rel E h w.heap) {V O y : TypeId} {e:Nat}{x:AV}{X:Value}{ys:List AV}(c:lT P h V e x=some ys)(f:P.underlying O=some (.slice y))(o:VR E x X) :
  ∃z,Adds P w O V e X (flat z) ys.length∧VRs E ys z∧∀u∈z,okE e u:=by
 have l:∀k,(TypeDesc.slice y) ≠ .int k:=fun k e=>by cases e
 unfold lT at c;split at c
 · cases c;simp only [VR]at o;subst o;exact⟨[],.nil _ f l,VRs.nil E,fun u f=>by cases f⟩
 · rename_i d b i len p esz M Q;cases hc:beq esz e with
   |false=>rw [hc]at c;cases c
   | true=>
    rw [hc]at c;simp only [cond]at c;have:=fQ hc;subst this;split at c
    · rename_i n D;cases m: (dE n&& (isAggD d||beq esz 1))with
      |false=>rw [m]at c;cases c
      | true=>
       rw [m]at c;simp only at c;cases c;simp only [cP,or_eq_true]at m;simp only [VR]at o;obtain⟨L,t,U,hE,rfl,N,g2,g3,B,g5⟩ :=o
       have he : isAggD d = false → esz = 1 := fun e => by rcases m.2 with g|g; · rw [e]at g;cases g
                                                           ·exact fQ g
       have F:∃A,(∀v:World,v.heap=w.heap→ (loadCells ⟨L.blk,t,none⟩ (len*esz)).run P v= .ok ⟨A⟩ v) ∧VRs E n A∧A.length=len*esz:=old_cells r D hE B (fun e0=>by rw [show len=0 by omega,Nat.zero_mul]);obtain⟨A,W,H,J⟩ :=F;obtain⟨z,q1,q2,q3,q4⟩ :=wQ (isAggD d) he len H J (H.ones m.1);refine⟨z,?_,q1,q4⟩;rw [aBp,q2];exact .slice _ _ _ _ _ f l W
    ·cases c
 · rename_i I ys' M Q;cases hc:beq I e with
   |false=>rw [hc]at c;cases c
   | true=>
    rw [hc]at c;simp only [cond]at c;cases c;have:=fQ hc;subst this;simp only [VR]at o;obtain⟨n,R,Y⟩ :=o;obtain⟨a,p,rfl,N,g2,g3,B⟩ :=tU (P:=P) r Y;refine⟨n,?_,R.of_p,Y.1⟩;rw [←R.length];cases a with
    |none=>obtain⟨rfl,rfl⟩ :=N rfl;exact .nil _ f l
    |some T=>exact .slice _ _ _ _ _ f l (B T rfl)
 · rename_i b I i len M Q;cases hc:beq I e with
   |false=>rw [hc]at c;cases c
   | true =>
    rw [hc]at c;simp only [cond]at c;have:=fQ hc;subst this;split at c
    · rename_i e2 zs hb;split at c
      · rename_i q;cases c;obtain⟨rfl,Z⟩ :=q;simp only [VR]at o;rcases o with⟨rfl,a,rfl⟩ | ⟨L,a,p,hE,rfl,W,H,J⟩
        · refine⟨[],?_,by simp;exact VRs.nil E,fun u f=>by cases f⟩;cases a with
          |none=>simp;exact .nil _ f l
          |some T=>simp;exact .slice _ _ _ _ _ f l (fun v _=>by simp [loadCells,loadCellsFrom,flat])
        · have ho:=r.objL hb hE;obtain⟨C,el2,n,o1,o2,S,K,o5⟩ :=ho;have hvl:=S.length;refine⟨(n.drop i).take len,?_,(S.drop i).take len,fun u f=>K u (mem_of_mem_drop (mem_of_mem_take f))⟩;have hl: ((zs.drop i).take len).length=len:=by rw [length_take,length_drop];omega
          rw [hl];refine .slice _ _ _ _ _ f l (fun v hw=>?_);have s:∀u∈n.drop i,okE e2 u:=fun u f=>K u (mem_of_mem_drop f);by_cases G:p=0
          · have:len=0:=by omega
            subst this;simp [loadCells,loadCellsFrom,flat]
          · obtain⟨rfl,k4⟩ :=J G;refine run_loadCells _ (by rw [hw];exact o1) ?_ (fun j hj=>?_)
            · rw [flat_length (fun u f=>s u (mem_of_mem_take f)),length_take,length_drop];rw [show min len (n.length-i) =len by omega]
            · have h6:i*e2+len*e2≤n.length*e2:=by rw [←add_mul];exact mul_le_mul_right _ (by omega)
              rw [sK _ s,pH _ K,getElem?_take_of_lt hj,getElem?_drop,←o5 _ (by omega)];congr 1;omega
      ·cases c
    ·cases c
 ·cases c
theorem aAh {h1:Hp}(r:Rel E h w.heap)(o:Rel E h1 w.heap)(n:Ext E h w E h1 w)(f:h1.nb=h.nb){e:Nat}{xs:List AV}{a:List Value}(m:VRs E xs a)(hk:∀u∈a,okE e u)(b:TypeId)(rest:List Value)(d:Nat) :
  Rel (E.put h.nb ⟨w.heap.size,0,(flat a++rest).length⟩) (h1.new (.lst e xs)) (w.heap.push (.cells ⟨flat a++rest⟩ b)) ∧
   Ext E h w (E.put h.nb ⟨w.heap.size,0,(flat a++rest).length⟩) (h1.new (.lst e xs)) {w with drawn:=d,heap:=w.heap.push (.cells ⟨flat a++rest⟩ b)}:=by
 obtain⟨g,i⟩ :=o.new (.lst e xs) (.cells ⟨flat a++rest⟩ b) (flat a++rest).length (fun q p c _ l=> ⟨⟨flat a++rest⟩,b,a,l,rfl,m.mono c,hk,fun j k=>by
  simp only [eM];rw [show(⟨flat a++rest⟩ :Array Value) = (flat a++rest).toArray from rfl,getElem?_toArray,hP (by rw [flat_length hk];exact k)]⟩)
 rw [f]at g i;exact⟨g,n.trans (i.drawn d)⟩
theorem aHB (d:Rel E h w.heap)(e:Nat) :Rel E (h.new (.lst e [])) w.heap∧Ext E h w E (h.new (.lst e [])) w:=by
 have f:E h.nb=none:=d.fresh _ (le_refl _)
 refine⟨⟨?_,?_,fun b hb=>d.fresh b (by rw [oM]at hb;omega),d.imm,?_,fun b o hb=>by
  rw [cS]at hb;rw [oM];split at hb
  ·omega
  ·have:=d.keys b o hb;omega⟩,⟨Emb.le.refl E,le_refl _,fun _ _ _=>rfl,?_,by simp [oM],rfl,rfl,rfl,fun _ _=>rfl,fun _ _=>rfl,fun _ _ e _=>.inl e,fun b o hb k=>by
  rw [cS,if_neg (by omega)]at hb;exact⟨o,hb⟩⟩⟩
 · intro b o hb;rw [cS]at hb;split at hb
   ·rename_i a;cases hb;subst a;exact .inl ⟨rfl,f⟩
   ·exact d.obj0 b o hb
 · intro b l o m L g hb a hE c;rw [cS]at hb a;rw [if_neg (fun e=>by subst e;rw [f]at hE;cases hE)]at hb;rw [if_neg (fun e=>by subst e;rw [f]at c;cases c)]at a;exact d.kin b l o m L g hb a hE c
 · intro b o L hb hE;rw [cS,if_neg (fun e=>by subst e;rw [f]at hE;cases hE)]at hb;exact d.apart b o L hb hE
 · intro b o L hb hE i j _;rw [cS,if_neg (fun e=>by subst e;rw [f]at hE;cases hE)]at hb;exact⟨b,o,L,hb,hE,j⟩
theorem Rel.drop (r:Rel E h w.heap)(b:Nat) :Rel E (h.del b) w.heap∧Ext E h w E (h.del b) w:=by
 have a:∀x o,(h.del b).look x=some o→h.look x=some o:=fun x o e=>by
  rw [lZ]at e;split at e
  ·cases e
  ·exact e
 exact⟨r.sub a (le_refl _),⟨Emb.le.refl E,le_refl _,fun _ _ _=>rfl,fun b o L c f i d _=> ⟨b,o,L,a b o c,f,d⟩,le_refl _,rfl,rfl,rfl,fun _ _=>rfl,fun _ _=>rfl,fun _ _ e _=>.inl e,fun x o e _=> ⟨o,a x o e⟩⟩⟩
theorem wR {b:Array TypeId}{ty st A f:TypeId}{e:Nat}{c:TypeInfo}{z:AV}(g:b[0]?=some st)(i:b[1]?=some A)(B:P.underlying st=some (.slice f))(m:aY P f=some e)(k:P.info? f=some c)(hz:zeroOf P f=some z)
  (p:z.cells.length=e) (s:1≤c.bytes) (t:c.bytes≤1000)
  {h1:Hp} (r:Rel E h w.heap) (K:Rel E h1 w.heap) (C:Ext E h w E h1 w) (q:h1.nb=h.nb) {ys:List AV} {n:List Value} {J:Value} (hA:Adds P w A f e J (flat n) ys.length) (l:VRs E ys n) (hk:∀u∈n,okE e u) (M:ys.length≤1000000) (a:Option Addr) :
  ∃H w' o,(Builtin.append_ b ty #[.slice a 0 0,J]).run P w= .ok H w'∧VR o (.gl h.nb e 0 ys.length false) H∧Rel o (h1.new (.lst e ys)) w'.heap∧Ext E h w o (h1.new (.lst e ys)) w':=by
 have hl:=l.length;by_cases y:ys= []
 · subst y;have:n= [] :=zq35.1 hl;subst this;obtain⟨v,x⟩ :=aHB K e;refine⟨.slice a 0 0,w,E,?_,by simp only [VR];exact .inl ⟨rfl,a,rfl⟩,v,C.trans x⟩;exact run_append_room (base:=a) (len:=0) (cap:=0) (w':=w) hA g i B m (by simp) (by cases a<;>simp [flat,storeCells])
 · have F:0<ys.length:=List.length_pos_iff.2 y;obtain⟨L,j,d,I,D,G⟩ :=run_append_grow (ty:=ty) (base:=a) (len:=0) (cap:=0) (os:=[]) hA hz k s t g i B m (by omega) (by omega) (fun N _=>by cases a<;>simp [Builtin.firstCells,loadCells,loadCellsFrom]);simp only [eM,List.nil_append]at I D G;obtain⟨v,x⟩ :=aAh r K C q l hk f j d;refine⟨_,_,_,G,?_,v,x⟩;simp only [VR];refine .inr ⟨_,0,L,Emb.put_same _ _ _,rfl,I,(fun e=>by cases e),fun _=> ⟨by simp,?_⟩⟩;rw [vP,flat_length hk,D,p,hl,eM,←add_mul];exact mul_le_mul_right _ (by omega)
theorem yR (r:Rel E h w.heap){b e:Nat}{xs:List AV}(hb:h.look b=some (.lst e xs)){L:Loc}(hE:E b=some L){x:Nat}{o:AObj}{f:Loc}(i:h.look x=some o)(a:E x=some f)(d:x≠b) :¬Own o f L.blk:=fun c=>by
 rcases r.kin _ _ _ _ _ _ i hb a hE ⟨_,c,rfl⟩ d with⟨_,j,_⟩ | ⟨g,_⟩
 ·cases j
 ·cases g
theorem moved (r:Rel E h w.heap){b e:Nat}{xs:List AV}(hb:h.look b=some (.lst e xs)){L:Loc}(hE:E b=some L){C C2:Array Value}{D:TypeId}(O:w.heap[L.blk]?=some (.cells C D (0,0)))(M:C2.size=L.sz)(B:Nat)
  {k:List AV} {l:List Value} (Z:VRs E k l) (hk:∀u∈l,okE e u) (hC:∀j,j<l.length*e→C2[B+j]?= (flat l)[j]?) :
  Rel (E.put h.nb ⟨L.blk,B,L.sz⟩) ((h.del b).new (.lst e k)) (cE w L.blk (.cells C2 D (0,0))).heap ∧
   Ext E h w (E.put h.nb ⟨L.blk,B,L.sz⟩) ((h.del b).new (.lst e k)) (cE w L.blk (.cells C2 D (0,0))) :=by
 have hf:E h.nb=none:=r.fresh _ (le_refl _);have s:E.le (E.put h.nb ⟨L.blk,B,L.sz⟩) :=Emb.le_put hf;have c:∀ {x o},((h.del b).new (.lst e k)).look x=some o→ (x=h.nb∧o= .lst e k) ∨ (x≠h.nb∧x≠b∧h.look x=some o) :=by
  intro x o d;rw [cS,aIG]at d;split at d
  ·rename_i z;cases d;exact .inl ⟨z,rfl⟩
  · rename_i z;rw [lZ]at d;split at d
    ·cases d
    ·rename_i G;exact .inr ⟨z,G,d⟩
 refine⟨⟨?_,?_,?_,r.imm_put hb hE _,?_,fun x o d=>by
  rw [oM,aIG];rcases c d with⟨rfl,_⟩ | ⟨_,_,g⟩
  ·omega
  ·have:=r.keys x o g;omega⟩,⟨s,by simp [cE],?_,?_,by simp [oM,aIG],rfl,rfl,rfl,fun x d=>Emb.put_ne _ _ (by omega),(fun a _=>tN O rfl rfl a),fun _ _ e _=>.inl e,fun x o d V=>by
  rcases c d with⟨rfl,_⟩ | ⟨_,_,g⟩
  ·omega
  ·exact⟨o,g⟩⟩⟩
 · intro x o d;rcases c d with⟨rfl,rfl⟩ | ⟨m,A,g⟩
   ·exact .inr ⟨_,Emb.put_same _ _ _,C2,D,l,pT O,M,Z.mono s,hk,hC⟩
   · rcases r.obj0 x o g with⟨U,S⟩ | ⟨q,R,X⟩
     ·exact .inl ⟨U,by rw [Emb.put_ne _ _ m];exact S⟩
     ·exact .inr ⟨q,by rw [Emb.put_ne _ _ m];exact R,(X.mono s).heap fun i n=>by simp only [cE];rw [tJ (fun z:L.blk=i=>yR r hb hE g R A (by rw [z];exact n))]⟩
 · intro x y T W q Y d N f t p v;rcases c d with⟨rfl,rfl⟩ | ⟨m,A,g⟩
   · rcases c N with⟨rfl,rfl⟩ | ⟨F,Q,I⟩
     ·exact absurd rfl v
     · rw [Emb.put_same]at f;cases f;rw [Emb.put_ne _ _ F]at t;obtain⟨i,K,J⟩ :=p;obtain rfl:L.blk=i:=K;exact absurd J (yR r hb hE I t Q)
   · rw [Emb.put_ne _ _ m]at f;rcases c N with⟨rfl,rfl⟩ | ⟨F,Q,I⟩
     · rw [Emb.put_same]at t;cases t;obtain⟨i,K,J⟩ :=p;obtain rfl:L.blk=i:=J;exact absurd K (yR r hb hE g f A)
     · rw [Emb.put_ne _ _ F]at t;exact r.kin x y T W q Y g I f t p v
 · intro x d;rw [oM,aIG]at d;rw [Emb.put_ne _ _ (by omega)];exact r.fresh x (by omega)
 · intro x o q d f i n;show E.imm i=none;rcases c d with⟨rfl,rfl⟩ | ⟨m,A,g⟩
   ·rw [Emb.put_same]at f;cases f;exact r.apart b _ L hb hE i n
   ·rw [Emb.put_ne _ _ m]at f;exact r.apart x o q g f i n
 · intro i n H;simp only [cE];rw [tJ (H b _ L hb hE)]
 · intro x o q d f i n _;rcases c d with⟨rfl,rfl⟩ | ⟨m,A,g⟩
   ·rw [Emb.put_same]at f;cases f;exact⟨b,_,L,hb,hE,n⟩
   ·rw [Emb.put_ne _ _ m]at f;exact⟨x,o,q,g,f,n⟩
def Emb.immPut (E:Emb)(k:Nat)(C:Array Value) :Emb:= ⟨E.loc,fun x=>if x=k then some C else E.imm x⟩
theorem bEr (r:Rel E h w.heap)(C:Array Value)(l:TypeId)(d:Nat) :
  E.le (E.immPut w.heap.size C) ∧Rel (E.immPut w.heap.size C) h (w.heap.push (.cells C l)) ∧Ext E h w (E.immPut w.heap.size C) h {w with drawn:=d,heap:=w.heap.push (.cells C l)}:=by
 have c:∀ {i},i<w.heap.size→ (w.heap.push (.cells C l))[i]?=w.heap[i]?:=fun f=>by rw [Array.getElem?_push,if_neg (by omega)]
 have j:E.le (E.immPut w.heap.size C) := ⟨fun _ _ e=>e,fun k D e=>by
  have:=r.immLt e;show(if k=w.heap.size then some C else E.imm k) =some D;rw [if_neg (by omega)];exact e⟩
 refine⟨j,⟨?_,r.kin,r.fresh,?_,?_,r.keys⟩,(⟨j,by simp,fun i f _=>c f,fun b o L p s i f _=> ⟨b,o,L,p,s,f⟩,le_refl _,rfl,rfl,rfl,fun _ _=>rfl,(fun a _=>wH w rfl a),?_,fun _ o e _=> ⟨o,e⟩⟩ :Ext E h w (E.immPut w.heap.size C) h {w with heap:=w.heap.push (.cells C l)}).drawn d⟩
 · intro b o hb;rcases r.obj0 b o hb with u| ⟨L,n,m⟩
   ·exact .inl u
   ·exact .inr ⟨L,n,(m.mono j).heap fun i f=>c (m.lt i f)⟩
 · intro k D e;simp only [Emb.immPut]at e;split at e
   ·rename_i hk;cases e;subst hk;exact⟨l,(0,0),by simp⟩
   · obtain⟨t,q,g⟩ :=r.imm k D e;exact⟨t,q,by rw [c (zq44.1 g).1];exact g⟩
 · intro b o L hb hE i f;simp only [Emb.immPut];rw [if_neg (by have:=r.lt hb hE i f;omega)];exact r.apart b o L hb hE i f
 · intro k D e hk;simp only [Emb.immPut]at e;rw [if_neg (by omega)]at e;exact .inl e
set_option maxHeartbeats 1000000 in
theorem vappend_sound (r :Rel E h w.heap){q:Array TypeId}{ty:TypeId}{s x v:AV}{cs cx:Value}(l:kU P h q s x=some (v,h'))(W:VR E s cs)(hx:VR E x cx) :
  ∃cv w' E',(Builtin.append_ q ty #[cs,cx]).run P w= .ok cv w'∧VR E' v cv∧Rel E' h' w'.heap∧Ext E h w E' h' w':=by
 unfold kU at l;split at l
 · rename_i st xt hst B;split at l
   · rename_i el el' hu hu';split at l
     · rename_i e inf z G F hz;split at l
       ·cases l
       · rename_i ys hadd;cases hc: (beq z.cells.length e&&ble e 40&&ble inf.bytes 1000&&ble 1 inf.bytes&&ble 1 e)with
         |false=>rw [hc]at l;cases l
         | true =>
          rw [hc]at l;simp only [cond]at l;simp only [jF,bM,cP,decide_eq_true_eq]at hc;obtain⟨⟨⟨⟨T,_⟩,O⟩,K⟩,he1⟩ :=hc;obtain⟨J,hA,I,hk⟩ :=addedE_sound (P:=P) (w:=w) r hadd hu' hx;have H:=I.length;have hfl:=flat_length hk;split at l
          · -- the nil slice
            split at l
            · rename_i hn;cases l;simp only [VR]at W;subst W;exact wR hst B hu G F hz T K O r r (Ext.refl _ _ _) rfl hA I hk hn none
            ·cases l
          · rename_i b e' f len ex;split at l
            · rename_i e2 xs hb;split at l
              · rename_i p;cases l;obtain⟨rfl,rfl,hlen,hn⟩ :=p;simp only [VR]at W;obtain⟨rd,xd⟩ :=r.drop b;rcases W with⟨rfl,a,rfl⟩ | ⟨L,a,cap,hE,rfl,k1,k2,k3⟩
                · have:=wR (ty:=ty) hst B hu G F hz T K O r rd xd rfl hA I hk (by omega) a;simpa using this
                · obtain ⟨C,el2,o,o1,o2,o3,o4,o5⟩ :=r.objL hb hE;have hvl:=o3.length;have okd:∀u∈o.drop f,okE e2 u:=fun u hu=>o4 u (mem_of_mem_drop hu);have hvs:= (o3.drop f).take len;have V:∀u∈ (o.drop f).take len,okE e2 u:=fun u hu=>okd u (mem_of_mem_take hu);have A: ((o.drop f).take len).length=len:=by rw [length_take,length_drop];omega
                  have N:=hvs.append I
                  have m:∀u∈ (o.drop f).take len++J,okE e2 u:=fun u hu=>by
                   rcases zq28.1 hu with g|g
                   ·exact V u g
                   ·exact hk u g
                  have hle6:f*e2+len*e2≤o.length*e2:=by rw [←add_mul];exact mul_le_mul_right _ (by omega)
                  have Q:∀j,j<len*e2→C[L.sh+f*e2+j]?= (flat ((o.drop f).take len))[j]?:=fun j R=>by
                   rw [sK _ okd,pH _ o4,getElem?_take_of_lt R,getElem?_drop,←o5 _ (by omega)];congr 1;omega
                  by_cases n:len+ys.length≤cap
                  · by_cases M:ys= []
                    · subst M;have hw0:J= [] :=zq35.1 H;subst hw0;obtain⟨U,S⟩ :=moved (C2:=C) r hb hE o1 o2 (L.sh+f*e2) N m (fun j R=>by rw [vZ]at R ⊢;exact Q j (by rw [A]at R;exact R));rw [qQ o1]at U S;refine⟨.slice (some ⟨L.blk,a,none⟩) (len+0) cap,w,_,?_,?_,U,S⟩
                      ·exact run_append_room (base:=some ⟨L.blk,a,none⟩) (len:=len) (cap:=cap) (w':=w) hA hst B hu G (by simpa using n) (by simp [flat,storeCells])
                      · simp only [VR];refine .inr ⟨_,a,cap,Emb.put_same _ _ _,by simp,by simpa using n,(fun e=>by cases e),fun hc0=>?_⟩;obtain⟨g1,Z⟩ :=k3 hc0;exact⟨by simp [g1],Z⟩
                    · have X:0<ys.length:=List.length_pos_iff.2 M;obtain⟨g1,Z⟩ :=k3 (by omega);subst g1;have hm: (len+ys.length) *e2≤cap*e2:=mul_le_mul_right _ n;rw [add_mul]at hm;have Y:L.sh+f*e2+len*e2+ (flat J).length≤C.size:=by rw [hfl,H,o2];omega
                      obtain⟨U,S⟩ :=moved (C2:=over C (L.sh+f*e2+len*e2) (flat J)) r hb hE o1 (by rw [mV];exact o2) (L.sh+f*e2) N m (fun j R=>by
                       rw [vP,A,add_mul]at R;rw [mA _ _ _ _ Y,wP];have hfo: (flat ((o.drop f).take len)).length=len*e2:=by rw [flat_length V,A]
                       by_cases hj2:j<len*e2
                       ·rw [if_neg (by omega),hP (by omega)];exact Q j hj2
                       · rw [if_pos (by rw [hfl];omega),iQ (by omega),hfo];congr 1;omega)
                      refine⟨.slice (some ⟨L.blk,L.sh+f*e2,none⟩) (len+ys.length) cap,_,_,?_,?_,U,S⟩
                      · refine run_append_room (base:=some ⟨L.blk,L.sh+f*e2,none⟩) (len:=len) (cap:=cap) hA hst B hu G n ?_;simp only [fZ];have:=mB (P:=P) (flat J) (w:=w) (b:=L.blk) (k:=L.sh+f*e2+len*e2) (i:=0) o1 (by simpa using Y) (aU5 hk);simpa using this
                      · simp only [VR];exact .inr ⟨_,_,cap,Emb.put_same _ _ _,rfl,n,(fun e=>by cases e),fun _=> ⟨by simp,Z⟩⟩
                  · have X:0<ys.length:=by omega
                    obtain⟨nc,t,d,m1,m2,m3⟩ :=run_append_grow (ty:=ty) (base:=some ⟨L.blk,a,none⟩) (len:=len) (cap:=cap) (os:=flat ((o.drop f).take len)) hA hz F K O hst B hu G n (by omega) (fun w1 hw=>by
                     simp only [Builtin.firstCells];by_cases hc0:cap=0
                     · have:len=0:=by omega
                       subst this;simp [loadCells,loadCellsFrom,flat]
                     · obtain⟨g1,Z⟩ :=k3 hc0;subst g1;exact run_loadCells _ (by rw [hw];exact o1) (by rw [flat_length V,A]) Q)
                    obtain⟨U,S⟩ :=aAh r rd xd rfl N m el t d;rw [wP]at U S;refine⟨_,_,_,m3,?_,U,S⟩;simp only [VR];refine .inr ⟨_,0,nc,Emb.put_same _ _ _,rfl,m1,(fun e=>by cases e),fun _=> ⟨by simp,?_⟩⟩;rw [vP,vP,flat_length V,A,hfl,m2,T,H,eM,←add_mul,←add_mul];exact mul_le_mul_right _ (by omega)
              ·cases l
            ·cases l
          · -- a slice without room,and without elements
            split at l
            · rename_i p;cases l;obtain⟨rfl,hn⟩ :=p;simp only [VR]at W;obtain⟨o,h1,h2⟩ :=W;rw [h1.nil_inv]at h2;obtain⟨a,cap,rfl,_,Z,_⟩ :=tU (P:=P) r h2;rw [Z rfl];exact wR hst B hu G F hz T K O r r (Ext.refl _ _ _) rfl hA I hk hn a
            ·cases l
          · rename_i e' y xs;split at l
            · rename_i p;cases l;obtain⟨rfl,hkl,hn⟩ :=p;simp only [VR]at W;obtain⟨o,h1,h2⟩ :=W;have hvl:=h1.length;obtain⟨a,cap,rfl,g1,Z,g3,g4⟩ :=tU (P:=P) r h2;have hce:=Z rfl;subst hce;have hysp:=gC hkl I
              have m:∀u∈o++J,okE e' u:=fun u hu=>by
               rcases zq28.1 hu with g|g
               ·exact h2.1 u g
               ·exact hk u g
              by_cases M:ys= []
              · subst M;have hw0:J= [] :=zq35.1 H;subst hw0;refine⟨.slice a o.length o.length,w,E,?_,?_,r,Ext.refl _ _ _⟩
                ·exact run_append_room (base:=a) (len:=o.length) (cap:=o.length) (w':=w) hA hst B hu G (by simp) (by cases a<;>simp [flat,storeCells])
                · simp only [VR,vZ];refine⟨o,h1,h2.1,?_⟩;rcases h2.2 with⟨p1,p2,p3,p4,p5,p6⟩ | ⟨k,b,c,D,p1,p2,p3,p4,p5⟩
                  ·exact .inl ⟨p1,p2,p3,p4,p5,(fun e=>by cases e)⟩
                  ·exact .inr ⟨k,b,c,D,p1,p2,p3,(fun e=>by cases e),p5⟩
              · have X:0<ys.length:=List.length_pos_iff.2 M;simp only [mO]at hn hvl
                obtain⟨nc,t,d,m1,m2,m3⟩ :=run_append_grow (ty:=ty) (base:=a) (len:=o.length) (cap:=o.length) (os:=flat o) hA hz F K O hst B hu G (by omega) (by omega) (fun w1 hw=>by
                 cases a with
                 |none=>obtain⟨_,h0⟩ :=g1 rfl;subst h0;simp at hvl
                 |some ad=>simp only [Builtin.firstCells];exact g4 ad rfl w1 hw)
                obtain⟨hle,U,S⟩ :=bEr r ⟨flat o++flat J++t⟩ el d;refine⟨_,_,_,m3,?_,U,S⟩;simp only [VR];refine⟨o++J,(h1.append hysp).mono hle.pp,m,.inr ⟨w.heap.size,0,nc,⟨flat o++flat J++t⟩,by rw [vP,H],by simp [Emb.immPut],by rw [vP,H];exact m1,(fun e=>by cases e),fun j R=>?_⟩⟩;rw [show(⟨flat o++flat J++t⟩ :Array Value) = (flat o++flat J++t).toArray from rfl,getElem?_toArray,eM,←wP,hP (by rw [flat_length m];exact R)]
            ·cases l
          ·cases l
     ·cases l
   ·cases l
 ·cases l
end
section
variable {P :Program} {E:Emb} {h h':Hp} {w w':World} {tm:T AV} {ρ:Operand→Value}
theorem yS {t:TypeId}{e:Nat}(a:zY P t e=true) :∃b,P.underlying t=some (.slice b) ∧aY P b=some e:=by
 unfold zY at a;split at a
 · rename_i b c;split at a
   ·rename_i s d;have:=fQ a;subst this;exact⟨b,c,d⟩
   ·cases a
 ·cases a
theorem aIS {t:TypeId}{x v:AV}{D:Value}{lo hi mx:Option Nat}{p o i:Option Value}(f:aCw P t x lo hi mx=some v)(y:VR E x D)
  (h1:NVR lo p) (h2:NVR hi o) (R:NVR mx i) :∃cv,(Instr.sliceAt t D p o i).run P w= .ok cv w∧VR E v cv:=by
 unfold aCw at f;split at f
 · rename_i e xs S;cases hc:zY P t e with
   |false=>rw [hc]at f;cases f
   | true =>
    rw [hc]at f;simp only [cond]at f;obtain⟨el,V,G⟩ :=yS hc;simp only [VR]at y;obtain⟨q,k1,M⟩ :=y;have K:=k1.length
    have key :∀ (l u m:Nat) (n:Bool) (a:Option Addr) (cap:Nat),D= .slice a q.length cap→l≤u→u≤q.length→u≤m→m≤cap→ (n=true→m=u) →
      (Instr.sliceBounds true q.length cap p o i).run P w= .ok (l,u,m) w →
      ∃cv,(Instr.sliceAt t D p o i).run P w= .ok cv w∧VR E (.ilst e ((xs.drop l).take (u-l)) n) cv:=by
     intro l u m n a cap d W J X T r hb;refine⟨.slice (if m=l then a else a.map (·.add (l*e))) (u-l) (m-l),?_,?_⟩
     · subst d;simp [Instr.sliceAt,Instr.slice,aB V,hb,bY G]
     · simp only [VR];have U:∀x∈ (q.drop l).take (u-l),okE e x:=fun x y=>M.1 x (mem_of_mem_drop (mem_of_mem_take y));have s: ((q.drop l).take (u-l)).length=u-l:=by rw [length_take,length_drop];omega
       refine⟨(q.drop l).take (u-l),(k1.drop l).take (u-l),U,?_⟩;rcases M.2 with⟨z,b,c,g,A,B⟩ | ⟨k,b,c,C,g,A,B,O,p6⟩
       · subst z;rw [d]at g;cases g;simp only [length_nil]at J;have Y:u=0:=by omega
         have hl0:l=0:=by omega
         subst Y;subst hl0;refine .inl ⟨by simp,_,m,rfl,fun H=>?_,fun he=>by have:=r he;omega⟩;have:a=none:=by
          split at H
          ·exact H
          ·cases a<;>simp at H ⊢
         have:=A this;omega
       · rw [d]at g;cases g;by_cases Q:u-l=0
         · refine .inl ⟨zq35.1 (by omega),_,m-l,by rw [Q],fun H=>?_,fun he=>by have:=r he;omega⟩;split at H<;>simp at H
         · have F:m≠l:=by omega
           refine .inr ⟨k,b+l*e,m-l,C,?_,A,by omega,fun he=>by rw [s];have:=r he;omega,fun j hj=>?_⟩
           ·rw [if_neg F,s];simp [fZ]
           · rw [s]at hj;have h6:l*e+ (u-l) *e≤q.length*e:=by rw [←add_mul];exact mul_le_mul_right _ (by omega)
             rw [sK _ (fun x y=>M.1 x (mem_of_mem_drop y)),pH _ M.1,getElem?_take_of_lt hj,getElem?_drop,←p6 _ (by omega)];congr 1;omega
    obtain⟨a,cap,d,N,h⟩ :∃a cap,D= .slice a q.length cap∧q.length≤cap∧ (S=true→cap=q.length) :=by
     rcases M.2 with⟨z,b,c,g,A,B⟩ | ⟨k,b,c,C,g,A,B,O,p6⟩
     ·subst z;exact⟨b,c,g,zero_le _,fun e=>B e⟩
     ·exact⟨_,c,g,B,O⟩
    split at f
    · rename_i hmx;split at f
      · rename_i hb;cases f;rw [←K]at hb ⊢;cases i with
        |some c=>exact R.elim
        | none=>
         have:=jO (P:=P) (w:=w) (isS:=true) (len:=q.length) (cap:=cap) h1 h2 (show NVR none none from trivial) (by simp) hb.1 (by simp only [getD_none];omega) (le_refl _)
         exact key _ _ cap _ a cap d hb.1 hb.2 (by omega) (le_refl _) (fun he=>by
          simp only [cP]at he;have h5:=fQ he.2;have:=h he.1;omega) this
      ·cases f
    · rename_i m u;split at f
      · rename_i hb;cases f;simp only [getD_some]at hb ⊢;rw [←K]at hb;have:=jO (P:=P) (w:=w) (isS:=true) (len:=q.length) (cap:=cap) h1 h2 R (by simp) (by simpa using hb.1) (by simp only [getD_some];omega) (by simp only [getD_some];omega);exact key _ _ m _ a cap d hb.1 (by omega) hb.2.1 (by omega) (fun he=> (fQ he).symm) (by simpa using this)
      ·cases f
    ·cases f
 · rename_i b e Z len S;cases hc:zY P t e with
   |false=>rw [hc]at f;cases f
   | true =>
    rw [hc]at f;simp only [cond]at f;obtain⟨el,V,G⟩ :=yS hc;have hx0:=y;simp only [VR]at y
    have key:∀ (l u m:Nat) (n:Bool) (a:Option Addr) (cap:Nat),D= .slice a len cap→l≤u→u≤len→u≤m→m≤cap→ (n=true→m=u) →
      (Instr.sliceBounds true len cap p o i).run P w= .ok (l,u,m) w →
      ∃cv,(Instr.sliceAt t D p o i).run P w= .ok cv w∧VR E (.gl b e (Z+l) (u-l) n) cv:=by
     intro l u m n a cap d W J X T r hb;refine⟨.slice (if m=l then a else a.map (·.add (l*e))) (u-l) (m-l),?_,?_⟩
     · subst d;simp [Instr.sliceAt,Instr.slice,aB V,hb,bY G]
     · simp only [VR];rcases y with⟨z,I,g⟩ | ⟨L,I,c,z,g,A,B,O⟩
       · rw [d]at g;cases g;have:u=0:=by omega
         subst this;have:l=0:=by omega
         subst this;have:m=0:=by omega
         subst this;exact .inl ⟨rfl,_,rfl⟩
       · rw [d]at g;cases g;refine .inr ⟨L,if m=l then I else I+l*e,m-l,z,?_,by omega,fun he=>by have:=r he;omega,fun hc0=>?_⟩
         ·split<;>simp [fZ]
         · have F:m≠l:=by omega
           rw [if_neg F];obtain⟨g1,g2⟩ :=O (by omega);have h6:l*e+ (m-l) *e≤cap*e:=by rw [←add_mul];exact mul_le_mul_right _ (by omega)
           exact⟨by rw [g1,add_mul];omega,by omega⟩
    obtain⟨a,cap,d,N,h⟩ :∃a cap,D= .slice a len cap∧len≤cap∧ (S=true→cap=len) :=by
     rcases y with⟨z,I,g⟩ | ⟨L,I,c,z,g,A,B,O⟩
     ·subst z;exact⟨I,0,g,le_refl _,fun _=>rfl⟩
     ·exact⟨_,c,g,A,B⟩
    split at f
    · rename_i hmx;split at f
      · rename_i hb;cases f;cases i with
        |some c=>exact R.elim
        | none=>
         have:=jO (P:=P) (w:=w) (isS:=true) (len:=len) (cap:=cap) h1 h2 (show NVR none none from trivial) (by simp) hb.1 (by simp only [getD_none];omega) (le_refl _)
         exact key _ _ cap _ a cap d hb.1 hb.2 (by omega) (le_refl _) (fun he=>by
          simp only [cP]at he;have h5:=fQ he.2;have:=h he.1;omega) this
      ·cases f
    · rename_i m u;split at f
      · rename_i hb;cases f;simp only [getD_some]at hb ⊢;have:=jO (P:=P) (w:=w) (isS:=true) (len:=len) (cap:=cap) h1 h2 R (by simp) (by simpa using hb.1) (by simp only [getD_some];omega) (by simp only [getD_some];omega);exact key _ _ m _ a cap d hb.1 (by omega) hb.2.1 (by omega) (fun he=> (fQ he).symm) (by simpa using this)
      ·cases f
    ·cases f
 ·cases f
theorem aHC {v:Value}(h:v.oneCell'=true) :v.cells.toList= [v] :=by cases v<;>first|rfl| (simp [Value.oneCell']at h)
theorem aBq {x g:AV}{e:Nat}{us:List Value}{v:Value}(n:x.one=true)(m:VR E x v)(hk:okE e v)(o:VRs E [g] us)(h1:∀u∈us,u.oneCell'=true) :
  ∃b,VR E g b∧okE e b∧0+us.length≤e∧∀j,j<e→b.cells[j]?=if 0≤j∧j<0+us.length then us[j-0]? else v.cells[j]?:=by
 obtain⟨h,i,rfl,k,l⟩ :=o.cons_inv;rw [l.nil_inv]at h1 ⊢;have d:=aHC (m.one n);have he:e=1:=by have:=hk.1;rw [←Array.length_toList,d]at this;exact this.symm
 have a:=aHC (h1 h (cQ ..));refine⟨h,k,⟨by rw [←Array.length_toList,a,he];rfl,fun c hc=>by rw [a]at hc;simp at hc;subst hc;exact h1 _ (cQ ..)⟩,by simp [he],fun j p=>?_⟩;have f:j=0:=by omega
 subst f;rw [if_pos (by simp),←rO,a]
theorem aG9 {x r:AV}{o e:Nat}{n:List AV}{us:List Value}{v:Value}(a:kT x o n=some r)(h:VR E x v)(hk:okE e v)(i:VRs E n us)(h1:∀u∈us,u.oneCell'=true) :
  ∃k,VR E r k∧okE e k∧o+us.length≤e∧∀j,j<e→k.cells[j]?=if o≤j∧j<o+us.length then us[j-o]? else v.cells[j]?:=by
 have hl:=i.length;unfold kT at a;split at a
 · rename_i w;cases hc:ble (o+n.length) w.length with
   |false=>rw [hc]at a;cases a
   | true =>
    rw [hc]at a;simp only [cond]at a;cases a;have s:=Nat.le_of_ble_eq_true hc;simp only [VR]at h;obtain⟨b,rfl,d⟩ :=h;have y:=d.length;have he:b.length=e:=by have:=hk.1;simpa [Value.cells]using this
    refine⟨.agg ⟨b.take o++us++b.drop (o+us.length)⟩,?_,⟨?_,?_⟩,by omega,fun j A=>?_⟩
    · simp only [VR];refine⟨_,rfl,?_⟩;unfold setAt;rw [←hl];exact((d.take o).append i).append (d.drop _)
    ·simp [Value.cells];omega
    · intro c f;simp only [Value.cells]at f;rcases zq28.1 f with g|g
      · rcases zq28.1 g with g|g
        ·exact hk.2 c (by simp only [Value.cells];exact mem_of_mem_take g)
        ·exact h1 c g
      ·exact hk.2 c (by simp only [Value.cells];exact mem_of_mem_drop g)
    · simp only [Value.cells];rw [show(⟨b.take o++us++b.drop (o+us.length)⟩ :Array Value) = (b.take o++us++b.drop (o+us.length)).toArray from rfl,getElem?_toArray,show(⟨b⟩ :Array Value) =b.toArray from rfl,getElem?_toArray];by_cases q:o≤j∧j<o+us.length
      · rw [if_pos q,hP (by simp;omega),iQ (by simp;omega)];congr 1;simp;omega
      · rw [if_neg q];by_cases t:j<o
        ·rw [hP (by simp;omega),hP (by simp;omega),getElem?_take_of_lt t]
        · rw [iQ (by simp;omega),getElem?_drop];congr 1;simp;omega
 ·cases a
 · split at a
   · split at a
     ·cases a;exact aBq (x:=.val (.pointer _)) rfl h hk i h1
     ·cases a
   ·cases a
 · rename_i m p l;split at a
   · rename_i B;cases a;have z:x.one=true:=by cases x<;>first|rfl|exact absurd rfl (m _) |exact absurd rfl (p _) |exact absurd rfl (l _)
     exact aBq z h hk i h1
   ·cases a
theorem aU6 {e : Nat}{b:List Value}(hk:∀u∈b,okE e u){i:Nat}(s:i<b.length){v':Value}(f:okE e v') :
  (∀u∈b.set i v',okE e u) ∧∀j,j<b.length*e→ (flat (b.set i v'))[j]?=if i*e≤j∧j<i*e+e then v'.cells[j-i*e]? else(flat b)[j]?:=by
 have c:∀u∈b.set i v',okE e u:=fun u q=>by
  rcases List.mem_or_eq_of_mem_set q with g|g
  ·exact hk u g
  ·rw [g];exact f
 refine⟨c,fun j l=>?_⟩
 have he : 0 < e := by rcases Nat.eq_zero_or_pos e with g|g; · subst g;simp at l
                       ·exact g
 have o:j / e<b.length:=Nat.div_lt_of_lt_mul (by rw [Nat.mul_comm];exact l);have hr:j % e<e:=mod_lt _ he;have d:j=j / e*e+j % e:=by have:=Nat.div_add_mod j e;rw [Nat.mul_comm]at this;exact this.symm
 have h:=flat_get (v:= (b.set i v')[j / e]'(by simpa using o)) c (kR _) hr;have p:=flat_get (v:=b[j / e]) hk (kR o) hr;rw [←d]at h p;rw [h,p,List.getElem_set];by_cases a:i=j / e
 · rw [if_pos a,if_pos (by rw [a];omega)];congr 1;rw [a];omega
 · rw [if_neg a,if_neg (fun r=>a ?_)];have:=Nat.div_eq_of_lt_le (m:=j) (n:=e) (k:=i) (by omega) (by rw [succ_mul];omega);omega
theorem aIT (r:Rel E h w.heap){b e i o:Nat}{xs:List AV}{x q:AV}{B:List AV}{us:List Value}(hb:h.look b=some (.lst e xs)){L:Loc}(hE:E b=some L)(F:xs[i]?=some x)(Q:kT x o B=some q)(hv:VRs E B us)(h1:∀u∈us,u.oneCell'=true) :
  ∃w',(storeCells ⟨L.blk,L.sh+ (i*e+o),none⟩ us).run P w= .ok () w'∧Rel E (h.set b (.lst e (xs.set i q))) w'.heap∧Ext E h w E (h.set b (.lst e (xs.set i q))) w':=by
 obtain⟨C,y,M,G,o2,s,O,p⟩ :=r.objL hb hE;obtain⟨v,k1,V,I,t⟩ :=aE3 s O p F;obtain⟨A,U,m2,m3,N⟩ :=aG9 Q V I hv h1;have K:= (zq0.1 k1).1;obtain⟨Z,W⟩ :=aU6 O K m2;have X:i*e+e≤M.length*e:=by rw [←succ_mul];exact mul_le_mul_right _ K
 have c:us= [] ∨L.sh+ (i*e+o) +us.length≤C.size:=by
  by_cases D:us= []
  ·exact .inl D
  · have H:0<us.length:=List.length_pos_iff.2 D;have R:=t (o+us.length-1) (by omega);have J:v.cells[o+us.length-1]?≠none:=by rw [Array.getElem?_eq_getElem (by rw [I.1];omega)];simp
    rw [←R]at J;have h9:L.sh+ (i*e+ (o+us.length-1)) <C.size:=by
     rcases lt_or_ge (L.sh+ (i*e+ (o+us.length-1))) C.size with g|g
     ·exact g
     ·exact absurd (Array.getElem?_eq_none g) J
    exact .inr (by omega)
 have run: (storeCells ⟨L.blk,L.sh+ (i*e+o),none⟩ us).run P w= .ok () (cE w L.blk (.cells (over C (L.sh+ (i*e+o)) us) y (0,0))) :=by
  rcases c with rfl|c
  ·simp [storeCells,over,qQ G]
  · have:=mB (P:=P) us (w:=w) (b:=L.blk) (k:=L.sh+ (i*e+o)) (i:=0) G (by simpa using c) h1;simpa using this
 obtain ⟨Y,q2⟩ :=r.setObj (o':=.lst e (xs.set i q)) (.cells (over C (L.sh+ (i*e+o)) us) y (0,0)) hb hE rfl rfl (fun H' T=> ⟨over C (L.sh+ (i*e+o)) us,y,M.set i A,T,by rw [mV];exact o2,by
  refine VRs.of_get (by simp [s.length]) (fun k a f=>?_);rw [List.getElem?_set]at f ⊢;by_cases n:i=k
  · rw [if_pos n]at f ⊢;have S:= (zq0.1 F).1;rw [if_pos (by omega)]at f;rw [if_pos (by omega)];cases f;exact⟨A,rfl,U⟩
  · rw [if_neg n]at f ⊢;exact s.get k a f,Z,fun j m=>by
  rw [fN]at m;rw [W j m];rcases c with rfl|c
  · rw [over,p j m];split
    · rename_i d;have:=N (j-i*e) (by omega);simp only [length_nil,add_zero]at this;rw [if_neg (by omega)]at this;have z:=t (j-i*e) (by omega);rw [this,←z,show i*e+ (j-i*e) =j by omega,p j m]
    ·rfl
  · rw [mA _ _ _ _ c];by_cases d:i*e≤j∧j<i*e+e
    · rw [if_pos d,N _ (by omega)];by_cases l:o≤j-i*e∧j-i*e<o+us.length
      ·rw [if_pos l,if_pos (by omega)];congr 1;omega
      · rw [if_neg l,if_neg (by omega)];have z:=t (j-i*e) (by omega);rw [←z];congr 1;omega
    ·rw [if_neg d,if_neg (by omega),p j m]⟩)
 exact⟨_,run,Y,q2⟩
theorem aIU (n:Nat){t:TypeId}{d:TypeDesc}(j:P.underlying t=some d){x y:AV}{s o:Value}{b:Bool}(u:plainKey d x=true)(h:plainKey d y=true)(c:pM x y=some b)(p:VR E x s)(g:VR E y o) :
  (Op.equalIn (n+1) t s o).run P w= .ok b w:=by
 rcases fE u p with⟨i,kk,m,rfl,rfl,rfl⟩ | ⟨l,m,rfl,rfl,rfl⟩ | ⟨q,rfl,rfl,rfl⟩
 · rcases fE h g with⟨k,f,e,a,rfl,rfl⟩ | ⟨r,e,a,_⟩ | ⟨q,a,_⟩
   · simp only [pM]at c;split at c
     ·rename_i hk;cases c;subst hk;simp [Op.equalIn,aB j]
     ·cases c
   ·cases a
   ·cases a
 · rcases fE h g with⟨k,f,e,a,_⟩ | ⟨r,e,a,rfl,rfl⟩ | ⟨q,a,_⟩
   ·cases a
   · have:=aAF (d:=.string) rfl p g c;simp only [Instr.sameNow]at this;simp only [Op.equalIn,Sem.run_bind,aB j,Result.andThen_ok,Sem.run_pure];exact congrArg (Result.ok · w) (Option.some.inj this.1)
   ·cases a
 · rcases fE h g with⟨k,f,e,a,_⟩ | ⟨r,e,a,_⟩ | ⟨v,a,rfl,rfl⟩
   ·cases a
   ·cases a
   ·simp only [pM]at c;cases c;simp [Op.equalIn,aB j]
theorem aBr {d:TypeDesc}{x:AV}(h:plainKey d x=true) :isAggD d=false:=by
 unfold plainKey at h;split at h<;>first|rfl|cases h
theorem aBs (n:Nat)(e:Field→Option Bool×Unit→Sem (ForInStep (Option Bool×Unit))){us h:List Value}:∀ (fs:List Field) (k:Nat) (i g:List AV) (b:Bool),lU P fs k i g=some b→VRs E i (us.drop k) →VRs E g (h.drop k) →
  (∀f∈fs,∀s,e f s= (do if f.name≠ "_" then if !(←Op.equalIn (n+1) f.type (←part f.type ⟨us⟩ f.offset) (←part f.type ⟨h⟩ f.offset))then pure (.done (some false,()))else pure (.yield (none,()))else pure (.yield (none,())) :Sem (ForInStep (Option Bool×Unit)))) →
  (forIn fs (none,()) e:Sem (Option Bool×Unit)).run P w= .ok (if b then(none,())else(some false,())) w
 | [],k,i,g,b,c,_,_,_=>by
  cases i<;>cases g<;>simp only [lU]at c<;>cases c;simp
 | f :: fs,k,i,g,b,c,I,C,hb=>by
  cases i with
  |nil=>cases g<;>simp [lU]at c
  | cons x i=>
   cases g with
   |nil=>simp [lU]at c
   | cons y g=>
    simp only [lU]at c;split at c
    · rename_i d o;cases hc: (beq f.offset k&& (f.name != "_") &&plainKey d x&&plainKey d y)with
      |false=>rw [hc]at c;cases c
      | true=>
       rw [hc]at c;simp only [cond]at c;simp only [cP,bne_iff_ne]at hc;obtain⟨⟨⟨l,v⟩,j⟩,p⟩ :=hc;have l:=fQ l;split at c
       · rename_i a B m q;cases c;obtain⟨cx,us',t,M,A⟩ :=I.cons_inv;obtain⟨cy,vs',r,L,K⟩ :=C.cons_inv;have D:us[k]?=some cx:=by have:=congrArg (·[0]?) t;simpa using this
         have N:h[k]?=some cy:=by have:=congrArg (·[0]?) r;simpa using this
         have u:us.drop (k+1) =us':=by rw [←drop_drop,t];rfl
         have z:h.drop (k+1) =vs':=by rw [←drop_drop,r];rfl
         have G: (part f.type ⟨us⟩ f.offset).run P w= .ok cx w:=by
          simp [part,qR o,aBr j,l,show(⟨us⟩ :Array Value)[k]?=some cx by rw [show(⟨us⟩ :Array Value) =us.toArray from rfl,getElem?_toArray];exact D]
         have F: (part f.type ⟨h⟩ f.offset).run P w= .ok cy w:=by
          simp [part,qR o,aBr j,l,show(⟨h⟩ :Array Value)[k]?=some cy by rw [show(⟨h⟩ :Array Value) =h.toArray from rfl,getElem?_toArray];exact N]
         have H:=aIU (w:=w) n o j p m M L;have J:=aBs n e fs (k+1) i g B q (by rw [u];exact A) (by rw [z];exact K) (fun f O=>hb f (cH _ O));rw [List.forIn_cons,hb f (cQ ..)];simp only [ne_eq,v,not_false_eq_true,if_true,Sem.run_bind,G,F,H,Result.andThen_ok];cases a with
         |true=>simp only [Bool.not_true,rN,if_false,Sem.run_pure,Result.andThen_ok,nX];exact J
         |false=>simp
       ·cases c
    ·cases c
theorem aE4 (n:Nat){t:TypeId}{fs:Array Field}(e:P.underlying t=some (.struct fs))(a:P.stoodInHeld t=false){xs ys:List AV}{us c:List Value}{b:Bool}(g:lU P fs.toList 0 xs ys=some b)(h:VRs E xs us)(d:VRs E ys c) :
  (Op.equalIn (n+2) t (.agg ⟨us⟩) (.agg ⟨c⟩)).run P w= .ok b w:=by
 have:=aBs (w:=w) n (fun f s=> (do if f.name≠ "_" then if !(←Op.equalIn (n+1) f.type (←part f.type ⟨us⟩ f.offset) (←part f.type ⟨c⟩ f.offset))then pure (.done (some false,()))else pure (.yield (none,()))else pure (.yield (none,())) :Sem (ForInStep (Option Bool×Unit)))) fs.toList 0 xs ys b g (by simpa using h) (by simpa using d) (fun f _ s=>rfl);rw [Op.equalIn];simp only [Sem.run_bind,aB e,Result.andThen_ok,run_program,a,rN,if_false];rw [←Array.forIn_toList];rw [this];cases b<;>rfl
theorem aDl {op:BinOp}{t:TypeId}(a:P.eqGuardType P.depth t=false)(X Y:Operand)(xs ys:Array Value) : (eqGuard op t X Y (.agg xs) (.agg ys)).run P w= .ok () w:=by
 cases op<;>simp [eqGuard,a]
set_option maxHeartbeats 4000000 in
theorem aN7 (r:Rel E h w.heap){o:Oper}(l:Reads E tm ρ (· ∈o.op.operands)){out:AOut}(g:vop P h tm o=some out) :
  Out P E h w ((execOp ρ o).run P w) out∧ (dF o.op= .pure∨dF o.op= .read→aSp P E h w ((execOp ρ o).run P w) out) :=by
 unfold vop at g;unfold execOp;split at g
 all_goals (rename_i hop;try (simp only [hop];rw [hop]at l))
 · -- load
   rename_i t a;obtain⟨p,hp,g⟩ :=dC g;have m:=l _ (by simp [Op.operands]) _ hp;split at g
   · rename_i cs;obtain⟨v,K,rfl⟩ :=dX g;simp only [VR]at m;obtain⟨Y,G,k,Q,C,D,B,k3⟩ :=m;obtain⟨el,f,k4⟩ :=r.imm k C B;obtain⟨cv,m1,m2⟩ :=aDk K G.of_p k4 k3;exact aU r (by simp [Instr.loadAt,D,Instr.sureAddr,m1]) m2
   · rename_i b e i k;split at g
     · rename_i e' xs hb;cases hc:beq e' e with
       |false=>rw [hc]at g;cases g
       | true=>
        rw [hc]at g;simp only [cond]at g;have:=fQ hc;subst this;split at g
        · rename_i x hxi;obtain⟨v,K,rfl⟩ :=dX g;simp only [VR]at m;obtain⟨L,hE,D⟩ :=m;obtain⟨C,el,O,o1,o2,o3,o4,o5⟩ :=r.objL hb hE;obtain⟨u,q1,q2,q3,q4⟩ :=aE3 o3 o4 o5 hxi
          obtain⟨cv,m1,m2⟩ :=aDk (w:=w) (o:=L.sh+ (i*e'+k)) K (q2.cells.drop k) o1 (fun j X=>by
           rw [length_drop,Array.length_toList,q3.1]at X;rw [getElem?_drop,rO,←q4 _ (by omega)];congr 1;omega)
          exact aU r (by simp [Instr.loadAt,D,Instr.sureAddr,m1]) m2
        ·cases g
     ·cases g
   ·cases g
 · -- store
   rename_i t a x;obtain⟨p,v,hp,hxv,g⟩ :=hR g;have m:=l _ (by simp [Op.operands]) _ hp;have K:=l _ (by simp [Op.operands]) _ hxv;split at g
   · rename_i b e i k;split at g
     · rename_i e' xs n hb Z;cases hc: (beq e' e&&beq v.cells.length n&&ble (k+n) e&&dE v.cells)with
       |false=>rw [hc]at g;cases g
       | true=>
        rw [hc]at g;simp only [cond]at g;simp only [cP]at hc;obtain⟨⟨⟨hc1,hc2⟩,hc3⟩,hc4⟩ :=hc;have:=fQ hc1;subst this;have hn2:=fQ hc2;split at g
        · rename_i y F;split at g
          · rename_i y' hy';cases g;simp only [VR]at m;obtain⟨L,hE,D⟩ :=m;obtain⟨w',m1,m2,m3⟩ :=aIT (P:=P) r hb hE F hy' K.cells (K.cells.ones hc4);have hcl: (ρ x).cells.size=n:=by rw [←hn2,←K.cells.length];simp
            refine nq (by simp [dF]) ?_;exact wJ (by simp [Instr.storeAt,D,Instr.sureAddr,storeVar,bY Z,hcl,m1]) m2 m3
          ·cases g
        ·cases g
     ·cases g
   ·cases g
 · -- fieldAddr
   rename_i t x f;obtain⟨a,J,g⟩ :=dC g;have m:=l _ (by simp [Op.operands]) _ J;split at g
   · rename_i cs;split at g
     · rename_i Q ho;cases hc:blt Q cs.length with
       |false=>rw [hc]at g;cases g
       | true=>
        rw [hc]at g;simp only [cond]at g;cases g;simp only [VR]at m;obtain⟨Y,G,k,W,C,D,B,k3⟩ :=m;refine aU r (cv:=.pointer (some ⟨k,W+Q,none⟩)) (by rw [D];exact tQ ho _ _) ?_;simp only [VR];refine⟨Y.drop Q,G.drop Q,k,W+Q,C,rfl,B,fun j X=>?_⟩;rw [length_drop]at X;rw [getElem?_drop,←k3 _ (by omega)];congr 1;omega
     ·cases g
   · rename_i b e i k;split at g
     · rename_i Q ho;cases g;simp only [VR]at m;obtain⟨L,hE,D⟩ :=m;exact aU r (cv:=.pointer (some ⟨L.blk,L.sh+ (i*e+k) +Q,none⟩)) (by rw [D];exact tQ ho _ _) (by simp only [VR];exact⟨L,hE,by congr 3;omega⟩)
     ·cases g
   ·cases g
 · -- indexAddr
   rename_i t x ix;obtain⟨a,b,J,hb,g⟩ :=hR g;have m:=l _ (by simp [Op.operands]) _ J;have hi:=l _ (by simp [Op.operands]) _ hb;split at g
   · rename_i e xs ex;cases hc:zY P t e with
     |false=>rw [hc]at g;cases g
     | true =>
      rw [hc]at g;simp only [cond]at g;obtain⟨el,N,U⟩ :=yS hc;split at g
      · rename_i k hk;split at g
        · rename_i y F;cases g;obtain⟨kk,R,S⟩ :=lJ hk hi;simp only [VR]at m;obtain⟨O,G,B⟩ :=m;have hvl:=G.length;rcases B.2 with⟨rfl,_⟩ | ⟨kb,W,cap,C,D,g1,g2,g3,g4⟩
          ·simp at hvl;omega
          · obtain⟨u,q1,q2⟩ :=G.get _ _ F;have q3:=B.1 u (kS q1);refine aU r (cv:=.pointer (some ⟨kb,W+k*e,none⟩)) ?_ ?_
            ·simp [Instr.indexAt,R,asIntOf,D,aB N,hvl,Nat.not_le.2 S,bY U,fZ]
            · simp only [VR];refine⟨u.cells.toList,q2.cells,kb,W+k*e,C,rfl,g1,fun j X=>?_⟩;rw [Array.length_toList,q3.1]at X;have h6:k*e+e≤O.length*e:=by rw [←succ_mul];exact mul_le_mul_right _ (by omega)
              rw [rO,←flat_get B.1 q1 X,←g4 _ (by omega)];congr 1;omega
        ·cases g
      ·cases g
   · rename_i b' e off len ex;cases hc:zY P t e with
     |false=>rw [hc]at g;cases g
     | true=>
      rw [hc]at g;simp only [cond]at g;obtain⟨el,N,U⟩ :=yS hc;split at g
      · rename_i k hk;cases g;obtain⟨kk,R,S⟩ :=lJ hk hi;simp only [VR]at m;rcases m with⟨rfl,_⟩ | ⟨L,W,cap,hE,D,g2,g3,g4⟩
        ·omega
        · obtain⟨rfl,_⟩ :=g4 (by omega);refine aU r (cv:=.pointer (some ⟨L.blk,L.sh+off*e+k*e,none⟩)) ?_ (by simp only [VR];exact⟨L,hE,by rw [add_mul];congr 3;omega⟩);simp [Instr.indexAt,R,asIntOf,D,aB N,Nat.not_le.2 S,bY U,fZ]
      ·cases g
   ·cases g
 · -- slice
   rename_i t x lo hi mx;obtain⟨a,J,g⟩ :=dC g;split at g
   · rename_i l1 l2 l3 V e2 e3;split at g
     · rename_i b1 b2 b3 d1 d2 d3;obtain⟨v,K,rfl⟩ :=dX g;obtain⟨cv,G,B⟩ :=aIS (w:=w) K (l _ (by simp [Op.operands]) _ J) (sH d1 (lK l (fun y F=>by subst F;simp [Op.operands]) V)) (sH d2 (lK l (fun y F=>by subst F;simp [Op.operands]) e2)) (sH d3 (lK l (fun y F=>by subst F;simp [Op.operands]) e3));exact aU r G B
     ·cases g
   ·cases g
 · -- '==' on structs
   rename_i op t x y yt;obtain⟨a,b,J,hb,g⟩ :=hR g;have m:=l _ (by simp [Op.operands]) _ J;have F:=l _ (by simp [Op.operands]) _ hb;split at g
   · rename_i xs ys;simp only [VR]at m F;obtain⟨Y,hL1,q1⟩ :=m;obtain⟨O,hL2,q2⟩ :=F;split at g
     · rename_i fs N;cases hc: (!(P.eqGuardType P.depth t) && !(P.stoodInHeld t))with
       |false=>rw [hc]at g;cases g
       | true=>
        rw [hc]at g;simp only [cond]at g;simp only [cP,not_eq_true']at hc;cases T:lU P fs.toList 0 xs ys with
        |none=>rw [T]at g;cases op<;>cases g
        | some b'=>
         rw [T]at g;have:=aE4 (w:=w) 9998 N hc.2 T q1 q2;have: (Op.equal t (.agg ⟨Y⟩) (.agg ⟨O⟩)).run P w= .ok b' w:=this;cases op<;>simp only at g<;>cases g
         · refine aU r (cv:=.bool b') ?_ (by simp [VR]);simp only [hL1,hL2,Sem.run_bind,aDl hc.1,Result.andThen_ok];simp [binOp,this]
         · refine aU r (cv:=.bool (!b')) ?_ (by simp [VR]);simp only [hL1,hL2,Sem.run_bind,aDl hc.1,Result.andThen_ok];simp [binOp,this]
     ·cases g
   ·cases g
 · -- len, append
   rename_i c;have hm:c.args.map ρ= ⟨c.args.toList.map ρ⟩ :=by apply Array.ext';simp
   have H:∀ {aS},iG tm c.args.toList=some aS→VRs E aS (c.args.toList.map ρ) :=fun hh=>l.list (fun x m=>by simp only [Op.operands,Call.operands,Array.mem_append];exact .inr (by simpa using m)) hh;split at g
   · rename_i x A q;have J:=H q;obtain⟨cx,Y,V,m,Z⟩ :=J.cons_inv;rw [Z.nil_inv]at V;have M:c.args.map ρ= #[cx] :=by rw [hm,V]
     split at g
     · rename_i t e xs ex ht;split at g
       · rename_i el N;cases g;simp only [VR]at m;obtain⟨O,G,B⟩ :=m;obtain⟨a,cap,rfl,_⟩ :=tU (P:=P) r B;rw [←G.length];have z: (do let d ←resolve ρ c o.type;invoke d.target d.args:Sem Next).run P w= .ok (.value (.int .i64 O.length)) w:=by
          simp [resolve,A,M,invoke,builtin,Builtin.len_,ht,aB N,goInt]
         have I:VR E (.int .i64 O.length) (.int .i64 O.length) :=by simp only [VR]
         exact⟨⟨E,w,_,.inl z,I,r,Ext.refl _ _ _⟩,fun _=> ⟨rfl,_,z,I⟩⟩
       ·cases g
     · rename_i t b e off len ex ht;split at g
       · rename_i el N;cases g;simp only [VR]at m;have:∃a cap,cx= .slice a len cap:=by
          rcases m with⟨rfl,a,rfl⟩ | ⟨L,a,cap,_,rfl,_⟩
          ·exact⟨a,0,rfl⟩
          ·exact⟨_,cap,rfl⟩
         obtain⟨a,cap,rfl⟩ :=this;have z: (do let d ←resolve ρ c o.type;invoke d.target d.args:Sem Next).run P w= .ok (.value (.int .i64 len)) w:=by
          simp [resolve,A,M,invoke,builtin,Builtin.len_,ht,aB N,goInt]
         have I:VR E (.int .i64 len) (.int .i64 len) :=by simp only [VR]
         exact⟨⟨E,w,_,.inl z,I,r,Ext.refl _ _ _⟩,fun _=> ⟨rfl,_,z,I⟩⟩
       ·cases g
     ·cases g
   · rename_i s x A q;have J:=H q;obtain⟨cs,Y,V,hs,Z⟩ :=J.cons_inv;obtain⟨cx,us',e2,m,hn'⟩ :=Z.cons_inv;rw [hn'.nil_inv]at e2;rw [e2]at V;have M:c.args.map ρ= #[cs,cx] :=by rw [hm,V]
     obtain⟨v,h',K,rfl⟩ :=aHz g;obtain⟨cv,w',E',G,B,k3,k4⟩ :=vappend_sound (ty:=o.type) r K hs m;refine nq (by simp [dF,A]) ?_;have:=kV G B k3 k4;simpa [resolve,A,M,invoke,builtin]using this
   ·cases g
 ·cases g
theorem tV (r:Rel E h w.heap){o:Oper}(a:Reads E tm ρ (· ∈o.op.operands)){out:AOut}(b:kL P h tm o=some out) :
  Out P E h w ((execOp ρ o).run P w) out∧ (dF o.op= .pure∨dF o.op= .read→aSp P E h w ((execOp ρ o).run P w) out) :=by
 unfold kL at b;split at b
 ·rename_i c hr;cases b;exact aLk r a hr
 ·exact aN7 r a b
theorem mX (r:Rel E h w.heap){o:Oper}(a:Reads E tm ρ (· ∈o.op.operands)){out:AOut}(b:kL P h tm o=some out) :Out P E h w ((execOp ρ o).run P w) out:= (tV r a b).1
end
section
variable {P :Program} {E:Emb} {h h':Hp} {w w':World}
section
variable {fn :FuncId} {tmps:Array Value} {ds:List Deferred} {kd:CallKind} {ro:Option Nat} {ops:Array Oper} {i:Nat} {rest:List Nat} {k:List Item} {cs:List Frame} {o:Oper}
abbrev rf (fn:FuncId)(tmps:Array Value)(todo:List Item)(ds:List Deferred)(kd:CallKind)(ro:Option Nat) :Frame:={fn,tmps,todo,defers:=ds,mode:=.run,kind:=kd,roundOf:=ro}
theorem lL (ho:ops[i]?=some o)(hw:Region.wanted o (yielded ops tmps) =true)(hd:ro=none∨∀c,o.op≠ .defer c) :
  stepG P true {frame:=rf fn tmps (.inRegion ops (i::rest) ::k) ds kd ro,callers:=cs,status:=.running,dying:=none} w =
   stepG.apply P true (rf fn tmps (.inRegion ops (i::rest) ::k) ds kd ro) cs none (execOp (rf fn tmps (.inRegion ops (i::rest) ::k) ds kd ro).eval o) w:=by
 simp only [stepG,stepG.exec,stepG.oper,Frame.oper?,ho,map_some,getD_some,hw,if_true];rcases hd with rfl|hd
 ·rfl
 · cases ro with
   |none=>rfl
   | some l=>
    cases hop:o.op<;>first|rfl|exact absurd hop (hd _)
theorem tW (ho:ops[i]?=some o)(hw:Region.wanted o (yielded ops tmps) =true)(hd:ro=none∨∀c,o.op≠ .defer c){v:Value}
  (hr: (execOp (rf fn tmps (.inRegion ops (i::rest) ::k) ds kd ro).eval o).run P w= .ok (.value v) w') :
  step P (lone (rf fn tmps (.inRegion ops (i::rest) ::k) ds kd ro) cs w) = .next (lone ((rf fn tmps (.inRegion ops (i::rest) ::k) ds kd ro).finish v) cs w') :=
 step_lone_go (by rw [lL ho hw hd];simp [stepG.apply,hr])
theorem aE5 (ho:ops[i]?=some o)(hw:Region.wanted o (yielded ops tmps) =true)(hd:ro=none∨∀c,o.op≠ .defer c)
  (hr: (execOp (rf fn tmps (.inRegion ops (i::rest) ::k) ds kd ro).eval o).run P w= .ok .skip w') :
  step P (lone (rf fn tmps (.inRegion ops (i::rest) ::k) ds kd ro) cs w) = .next (lone ((rf fn tmps (.inRegion ops (i::rest) ::k) ds kd ro).finish Go.undef) cs w') :=
 step_lone_go (by rw [lL ho hw hd];simp [stepG.apply,hr])
theorem aE6 (ho:ops[i]?=some o)(hw:Region.wanted o (yielded ops tmps) =true)(hd:ro=none∨∀c,o.op≠ .defer c){f:FuncId}{args:Array Value}
  (hr: (execOp (rf fn tmps (.inRegion ops (i::rest) ::k) ds kd ro).eval o).run P w= .ok (.enter f args) w') :
  step P (lone (rf fn tmps (.inRegion ops (i::rest) ::k) ds kd ro) cs w) = .next (lone (Frame.enter P f args .normal) (rf fn tmps (.inRegion ops (i::rest) ::k) ds kd ro::cs) w') :=
 step_lone_go (by rw [lL ho hw hd];simp [stepG.apply,hr])
theorem aE7 (ho:ops[i]?=some o)(hw:Region.wanted o (yielded ops tmps) =true)(hd:ro=none∨∀c,o.op≠ .defer c){l:Nat}{f:FuncId}{t:Array Value}{aS bd:Code}
  (hr: (execOp (rf fn tmps (.inRegion ops (i::rest) ::k) ds kd ro).eval o).run P w= .ok (.round l f t aS bd) w') :
  step P (lone (rf fn tmps (.inRegion ops (i::rest) ::k) ds kd ro) cs w) = .next (lone (Frame.round l f t aS bd .normal) (rf fn tmps (.inRegion ops (i::rest) ::k) ds kd ro::cs) w') :=
 step_lone_go (by rw [lL ho hw hd];simp [stepG.apply,hr])
theorem aLl (ho:ops[i]?=some o)(hw:Region.wanted o (yielded ops tmps) =true){d:Deferred}
  (hr: (execOp (rf fn tmps (.inRegion ops (i::rest) ::k) ds kd none).eval o).run P w= .ok (.defer d) w') :
  step P (lone (rf fn tmps (.inRegion ops (i::rest) ::k) ds kd none) cs w) = .next (lone ((rf fn tmps (.inRegion ops (i::rest) ::k) (d::ds) kd none).finish Go.undef) cs w') :=
 step_lone_go (by rw [lL ho hw (.inl rfl)];simp [stepG.apply,hr])
theorem aLm (ho:ops[i]?=some o)(hw:Region.wanted o (yielded ops tmps) =true)(hd:ro=none∨∀c,o.op≠ .defer c){v:Value}
  (hr: (execOp (rf fn tmps (.inRegion ops (i::rest) ::k) ds kd ro).eval o).run P w= .halt (.panic v) w') :
  step P (lone (rf fn tmps (.inRegion ops (i::rest) ::k) ds kd ro) cs w) = .next (lone ((rf fn tmps (.inRegion ops (i::rest) ::k) ds kd ro).raise [{v,recovered:=false}]) cs w') :=
 step_lone_go (by rw [lL ho hw hd];simp [stepG.apply,hr])
theorem aHa (ho:ops[i]?=some o)(hw:Region.wanted o (yielded ops tmps) =true){c:Frame}
  (hr: (execOp (rf fn tmps (.inRegion ops (i::rest) ::k) ds .deferred none).eval o).run P w= .ok .recover w') :
  step P (lone (rf fn tmps (.inRegion ops (i::rest) ::k) ds .deferred none) (c::cs) w) =
   (match c.mode with
    | .panicking ({v,recovered:=false,goexit:=false}::older) =>.next (lone ((rf fn tmps (.inRegion ops (i::rest) ::k) ds .deferred none).finish v) ({c with mode:=.panicking ({v,recovered:=true}::older)}::cs) w')
    |_=>.next (lone ((rf fn tmps (.inRegion ops (i::rest) ::k) ds .deferred none).finish .nilIface) (c::cs) w')) :=by
 split
 · rename_i v older hc;exact step_lone_go (by rw [lL ho hw (.inl rfl)];simp [stepG.apply,hr,tryRecover,hc])
 · rename_i hno;refine step_lone_go ?_;rw [lL ho hw (.inl rfl)];simp only [stepG.apply,Sem.runT_eq,if_true,hr];have:tryRecover (rf fn tmps (.inRegion ops (i::rest) ::k) ds .deferred none) (c::cs) =none:=by
    simp only [tryRecover]
   simp [this]
theorem aAi (ho:ops[i]?=some o)(hw:Region.wanted o (yielded ops tmps) =false) :
  step P (lone (rf fn tmps (.inRegion ops (i::rest) ::k) ds kd ro) cs w) = .next (lone ((rf fn tmps (.inRegion ops (i::rest) ::k) ds kd ro).finish Go.undef) cs w) :=
 step_lone_go (by
  have h1: ((ops[i]?).map (Region.wanted · (yielded ops tmps))).getD false=false:=by rw [ho];simpa using hw
  simp [stepG,stepG.exec,h1])
theorem aHb (v:Value) : (rf fn tmps (.inRegion ops (i::rest) ::k) ds kd ro).finish v =
  rf fn (match(ops[i]?).bind (·.dst)with|some d=>tmps.setIfInBounds d v|none=>tmps) (.inRegion ops rest::k) ds kd ro:=rfl
theorem aAj :step P (lone (rf fn tmps (.inRegion ops [] ::k) ds kd ro) cs w) = .next (lone (rf fn tmps k ds kd ro) cs w) :=step_lone_go (by simp [stepG,stepG.exec])
theorem aZG :step P (lone (rf fn tmps (.code .skip::k) ds kd ro) cs w) = .next (lone (rf fn tmps k ds kd ro) cs w) :=step_lone_go (by simp [stepG,stepG.exec])
theorem aU7 (l:Nat) :step P (lone (rf fn tmps (.code (.label l) ::k) ds kd ro) cs w) = .next (lone (rf fn tmps k ds kd ro) cs w) :=step_lone_go (by simp [stepG,stepG.exec])
theorem aN8 (l:Nat) :step P (lone (rf fn tmps (.inBlock l::k) ds kd ro) cs w) = .next (lone (rf fn tmps k ds kd ro) cs w) :=step_lone_go (by simp [stepG,stepG.exec])
theorem aN9 (c:Code) :step P (lone (rf fn tmps (.inScope c::k) ds kd ro) cs w) = .next (lone (rf fn tmps k ds kd ro) cs w) :=step_lone_go (by simp [stepG,stepG.exec])
theorem bEs (a b:Code) :step P (lone (rf fn tmps (.code (.seq a b) ::k) ds kd ro) cs w) = .next (lone (rf fn tmps (.code a:: .code b::k) ds kd ro) cs w) :=step_lone_go (by simp [stepG,stepG.exec])
theorem aU8 (id:Nat)(c:Code) :step P (lone (rf fn tmps (.code (.block id c) ::k) ds kd ro) cs w) = .next (lone (rf fn tmps (.code c:: .inBlock id::k) ds kd ro) cs w) :=step_lone_go (by simp [stepG,stepG.exec])
theorem aZH (c:Code) :step P (lone (rf fn tmps (.code (.loop c) ::k) ds kd ro) cs w) = .next (lone (rf fn tmps (.code c:: .inLoop c::k) ds kd ro) cs w) :=step_lone_go (by simp [stepG,stepG.exec])
theorem aSt (c:Code) :step P (lone (rf fn tmps (.inLoop c::k) ds kd ro) cs w) = .next (lone (rf fn tmps (.code c:: .inLoop c::k) ds kd ro) cs w) :=step_lone_go (by simp [stepG,stepG.exec])
theorem aU9 (c:Code) :step P (lone (rf fn tmps (.code (.scope c) ::k) ds kd ro) cs w) = .next (lone (rf fn tmps (.code c:: .inScope c::k) ds kd ro) cs w) :=step_lone_go (by simp [stepG,stepG.exec])
theorem aQ8 (c:Operand)(x y:Code)(t:Bool)(h: (rf fn tmps (.code (.cond c x y) ::k) ds kd ro).eval c= .bool t) :step P (lone (rf fn tmps (.code (.cond c x y) ::k) ds kd ro) cs w) = .next (lone (rf fn tmps (.code (if t then x else y) ::k) ds kd ro) cs w) :=
 step_lone_go (by simp [stepG,stepG.exec,h])
theorem aSu (id:Nat) :step P (lone (rf fn tmps (.code (.region id ops false) ::k) ds kd ro) cs w) = .next (lone (rf fn tmps (.inRegion ops (List.range ops.size) ::k) ds kd ro) cs w) :=step_lone_go (by simp [stepG,stepG.exec])
theorem aZI (id:Nat) :step P (lone (rf fn tmps (.code (.region id ops true) ::k) ds kd ro) cs w) =
  .next (lone (rf fn tmps (.inRegion ops (Region.schedule (P.follows .mixedOrders) ops (w.tape w.drawn (.order fn id))) ::k) ds kd ro) cs {w with drawn:=w.drawn+1}) :=
 step_lone_go (by simp [stepG,stepG.exec,choose,Sem.run,Question.forced,Question.cut])
theorem aZJ (id:Nat){k':List Item}(h:exitTo id k=some k') :step P (lone (rf fn tmps (.code (.exit id) ::k) ds kd ro) cs w) = .next (lone (rf fn tmps k' ds kd ro) cs w) :=step_lone_go (by simp [stepG,stepG.exec,h])
theorem aZK (l:Nat){k':List Item}(h:gotoIn l k=some k') :step P (lone (rf fn tmps (.code (.goto l) ::k) ds kd ro) cs w) = .next (lone (rf fn tmps k' ds kd ro) cs w) :=step_lone_go (by simp [stepG,stepG.exec,h])
theorem bEt :step P (lone (rf fn tmps [] ds kd none) cs w) = .next (lone {rf fn tmps [] ds kd none with mode:=.returning} cs w) :=step_lone_go (by simp [stepG,stepG.exec])
theorem bEu :step P (lone (rf fn tmps (.code .ret::k) ds kd none) cs w) = .next (lone {rf fn tmps (.code .ret::k) ds kd none with mode:=.returning} cs w) :=step_lone_go (by simp [stepG,stepG.exec])
theorem aHc {l:Nat}(h: (Instr.beginRound l).run P w= .ok () w') :step P (lone (rf fn tmps (.beginRound::k) ds kd (some l)) cs w) = .next (lone (rf fn tmps k ds kd (some l)) cs w') :=
 step_lone_go (by simp [stepG,stepG.exec,stepG.apply,h,Frame.finish])
theorem aVa {l:Nat}{jump:Option Code}(h: (Instr.endLoop l).run P w= .ok jump w') :step P (lone (rf fn tmps (.endRangeFunc l::k) ds kd ro) cs w) = .next (lone (rf fn tmps ((jump.map Item.code).toList++k) ds kd ro) cs w') :=
 step_lone_go (by simp [stepG,stepG.exec,h])
def handed (fr c:Frame)(v:Value) :Frame:=
 match fr.kind with
 | .normal=>c.finish v
 |_=>{c with mode:=settle c.mode}
theorem iU {fr c:Frame}{v:Value}(hk:fr.kind= .normal∨fr.kind= .deferred) :
  (doReturn P true fr (c::cs) none v w).bare= .go {frame:=handed fr c v,callers:=cs,status:=.running,dying:=none} w:=by
 rcases hk with hk|hk
 ·simp [doReturn,hk,handed]
 · simp only [doReturn,hk,handed,settle];split<;> (try split) <;>simp_all
theorem wS {jump:Option Code}{l:Nat}{todo:List Item}{c:Frame}{v:Value}(hk:kd= .normal∨kd= .deferred)
  (ht: (todo= [] ∧jump=none) ∨ (∃k,todo= .code .ret::k∧jump=some .ret) ∨ (∃id k,todo= .code (.exit id) ::k∧jump=some (.exit id) ∧exitTo id k=none) ∨ (∃t k,todo= .code (.goto t) ::k∧jump=some (.goto t) ∧gotoIn t k=none))
  (h: (Instr.endRound l jump).run P w= .ok v w') :
  step P (lone (rf fn tmps todo ds kd (some l)) (c::cs) w) = .next (lone (handed (rf fn tmps todo ds kd (some l)) c v) cs w') :=by
 refine step_lone_go ?_;rcases ht with⟨rfl,rfl⟩ | ⟨k,rfl,rfl⟩ | ⟨id,k,rfl,rfl,hx⟩ | ⟨t,k,rfl,rfl,hx⟩
 ·simp only [stepG,stepG.exec,Sem.runT_eq,h,GStep.bare_after];exact iU hk
 ·simp only [stepG,stepG.exec,Sem.runT_eq,h,GStep.bare_after];exact iU hk
 ·simp only [stepG,stepG.exec,hx,elim,Sem.runT_eq,h,GStep.bare_after];exact iU hk
 ·simp only [stepG,stepG.exec,hx,elim,Sem.runT_eq,h,GStep.bare_after];exact iU hk
theorem aLn {fr c:Frame}{v:Value}{fd:Func}(hm:fr.mode= .returning)(hd:fr.defers= [])(hf:P.funcs[fr.fn]?=some fd)(hr: (results fd fr.tmps).run P w= .ok v w)(hk:fr.kind= .normal∨fr.kind= .deferred) :
  step P (lone fr (c::cs) w) = .next (lone (handed fr c v) cs w) :=
 step_lone_go (by
  simp only [stepG,unwind,hm,hd,hf,Sem.runT_eq,hr,GStep.bare_after];exact iU hk)
theorem wT {fr c:Frame}{chain:List PanicEntry}{fd:Func}(hm:fr.mode= .panicking chain)(hd:fr.defers= [])(hf:P.funcs[fr.fn]?=some fd) :
  step P (lone fr (c::cs) w) = .next (lone (c.raise chain) cs w) :=
 step_lone_go (by simp [stepG,unwind,hm,hd,Frame.catches,hf])
theorem aDm {fr:Frame}{f:FuncId}{cap args:Array Value}{ds:List Deferred}(hm:fr.mode≠ .run)(hd:fr.defers= {target:=.fn (.func f) cap,args}::ds)(hc:fC P f=true) :
  step P (lone fr cs w) = .next (lone (Frame.enter P f (args++cap) .deferred) ({fr with defers:=ds}::cs) w) :=
 step_defer (P:=P) hm hd rfl (by simp [invoke,oW hc])
theorem aBt {fr:Frame}{b:Nat}{ds cl:List Deferred}(hm:fr.mode≠ .run)(hd:fr.defers= {target:=.collected b,args:= #[]}::ds)(hr: (Instr.takeDeferred b).run P w= .ok cl w') :
  step P (lone fr cs w) = .next (lone {fr with defers:=cl++ds} cs w') :=
 step_lone_go (by
  cases h:fr.mode with
  |run=>exact absurd h hm
  |returning=>simp [stepG,unwind,h,hd,hr]
  |panicking c=>simp [stepG,unwind,h,hd,hr])
theorem aIV {g:Operand}{ps:Array Tmp}{assign body:Code}{l:Nat}{mark:List Deferred}{w₁ w₁' w₂:World}{d:Deferred}{nx:Next}{G:Frame}
  (he: (Instr.enterLoop fn tmps ps assign body ro).run P w= .ok (l,mark) w₁)
  (hres: (resolve (rf fn tmps (.inRangeFunc l::k) (mark++ds) kd ro).eval {callee:=.value g,args:= #[.const (.func (.yield l) #[] #[])],argTypes:= #[]} 0).run P w₁= .ok d w₁')
  (hinv: (invoke d.target d.args).run P w₁'= .ok nx w₂)
  (hG: (∃f args,nx= .enter f args∧G=Frame.enter P f args .normal) ∨ (∃l f t aS bd,nx= .round l f t aS bd∧G=Frame.round l f t aS bd .normal)) :
  step P (lone (rf fn tmps (.code (.rangeFunc g ps assign body) ::k) ds kd ro) cs w) = .next (lone G (rf fn tmps (.inRangeFunc l::k) (mark++ds) kd ro::cs) w₂) :=by
 refine step_lone_go ?_;rcases hG with⟨f,args,rfl,rfl⟩ | ⟨l',f,t,aS,bd,rfl,rfl⟩
 ·simp [stepG,stepG.exec,he,stepG.apply,hres,hinv]
 ·simp [stepG,stepG.exec,he,stepG.apply,hres,hinv]
end
theorem TR.put {tm:T AV}{nt:Nat}{tmps:Array Value}(r:TR E tm nt tmps){d:Nat}(hd:d<nt){a:AV}{v:Value}(hv:VR E a v) :TR E (tm.put d a) nt (tmps.setIfInBounds d v) :=by
 refine⟨by simp [r.1],fun t b hb=>?_⟩;rw [T.at_put]at hb;by_cases ht:t=d
 · subst ht;rw [if_pos rfl]at hb;cases hb;exact⟨v,by simp [r.1,hd],hv⟩
 · rw [if_neg ht]at hb;rw [tJ (fun e=>ht e.symm)];exact r.2 t b hb
def aAG (dst:Option Nat)(v:Value)(tmps:Array Value) :Array Value:=match dst with|some d=>tmps.setIfInBounds d v|none=>tmps
theorem aAH {tm tm':T AV}{nt:Nat}{tmps:Array Value}(r:TR E tm nt tmps){dst:Option Nat}{a:AV}{v:Value}(h0:iR tm nt dst a=some tm')(hv:VR E a v) :TR E tm' nt (aAG dst v tmps) :=by
 unfold iR at h0;split at h0
 ·cases h0;exact r
 · rename_i d;rw [cY]at h0;by_cases hd:d<nt
   ·simp only [hd,decide_true,cond]at h0;cases h0;exact r.put hd hv
   ·simp only [hd,decide_false,cond]at h0;cases h0
theorem VR.not_bool {a:AV}{v:Value}(hv:VR E a v)(ha:∀b,a≠ .bool b)(ha2:∀u,a≠ .val u) :∀b,v≠ .bool b:=by
 intro b e;subst e;cases a<;>simp only [VR]at hv
 case bool b'=>exact ha b' rfl
 case val u=>exact ha2 u rfl
 case ilst=>obtain⟨vs,_,hv⟩ :=hv;rcases hv.2 with⟨_,_,_,hL,_⟩ | ⟨_,_,_,_,hL,_⟩ <;>cases hL
 case iptr=>obtain⟨us,_,_,_,_,hL,_⟩ :=hv;cases hL
 case gl=>rcases hv with⟨_,_,hL⟩ | ⟨_,_,_,_,hL,_⟩ <;>cases hL
 all_goals (first
  | (cases hv;done)
  | (obtain⟨_,_,hv⟩ :=hv;cases hv;done)
  | (obtain⟨_,_,_,_,hv,_⟩ :=hv;cases hv;done)
  | (obtain⟨_,_,hv,_⟩ :=hv;cases hv;done)
  | (obtain⟨_,hv,_⟩ :=hv;cases hv;done))
theorem wU {tm:T AV}{tmps:Array Value}{ops:Array Oper}{j:Nat}(r:∀o,ops[j]?=some o→∀t,o.dst=some t→∀a,tm.at t=some a→∃v,tmps[t]?=some v∧VR E a v){b:Option Bool}(h0:aIB tm ops.toList j=some b) :yielded ops tmps j=b:=by
 unfold aIB at h0;unfold yielded;rw [rO]at h0;split at h0
 ·rename_i ho;cases h0;simp [ho]
 · rename_i o ho;split at h0
   ·rename_i hd;cases h0;simp [ho,hd]
   · rename_i d hd;split at h0
     · rename_i b' hb;cases h0;obtain⟨v,h1,h2⟩ :=r _ ho _ hd _ hb;simp only [VR]at h2;simp [ho,hd,h1,h2]
     ·cases h0
     · rename_i a hb hb2 ha;cases h0;obtain⟨v,h1,h2⟩ :=r _ ho _ hd _ ha;have:=h2.not_bool (fun b e=>by subst e;exact hb b rfl) (fun b e=>by subst e;exact hb2 b rfl);simp only [ho,hd,bind_some,h1];cases v<;>first|rfl|exact absurd rfl (this _)
     ·cases h0
theorem wV {tm:T AV}{tmps:Array Value}{ops:Array Oper}{o:Oper}(r:∀g want,o.guard=some (g,want) →∀o',ops[g]?=some o'→∀t,o'.dst=some t→∀a,tm.at t=some a→∃v,tmps[t]?=some v∧VR E a v){b:Bool}(h0:bU tm ops.toList o=some b) :Region.wanted o (yielded ops tmps) =b:=by
 unfold bU at h0;unfold Region.wanted;split at h0
 ·rename_i hg;cases h0;rw [hg]
 · rename_i j want hg;rw [hg];simp only;split at h0
   ·cases h0
   · rename_i hb;cases h0;rw [wU (r j want hg) hb];rfl
   · rename_i b' hb;cases h0;rw [wU (r j want hg) hb];rfl
theorem aAk {tm:T AV}{nt:Nat}{tmps:Array Value}(r:TR E tm nt tmps){ops:Array Oper}{o:Oper}{b:Bool}(h0:bU tm ops.toList o=some b) :Region.wanted o (yielded ops tmps) =b:=
 wV (fun _ _ _ _ _ t _ a ha=>r.2 t a ha) h0
theorem TR.reads {tm:T AV}{nt:Nat}{tmps:Array Value}(r:TR E tm nt tmps)(fn:FuncId)(todo:List Item)(ds:List Deferred)(kd:CallKind)(ro:Option Nat)(S:Operand→Prop) :Reads E tm (rf fn tmps todo ds kd ro).eval S:=by
 intro x _ a ha;cases x with
 | tmp t=>
  simp only [bO]at ha;obtain⟨v,h1,h2⟩ :=r.2 t a ha;simp only [Frame.eval,aAx,h1];exact h2
 |const v=>exact aET ha E
 |global g=>cases ha
 |func f=>simp only [bO]at ha;cases ha;simp only [Frame.eval,VR];exact⟨[],[],rfl,VRs.nil E,VRs.nil E⟩
def IR (E:Emb) :AItem→Item→Prop
 | .code c,i=>i= .code c
 | .inBlock id,i=>i= .inBlock id
 | .inLoop c,i=>i= .inLoop c
 | .inScope c,i=>i= .inScope c
 | .ops all k rest,i=>i= .inRegion all (List.range' k rest.length) ∧rest=all.toList.drop k
 | .inRF l,i=>∃L,E l=some L∧i= .inRangeFunc L.blk
 | .endRF l,i=>∃L,E l=some L∧i= .endRangeFunc L.blk
 | .beginRound,i=>i= .beginRound
 | .junk,i=>∃all l,i= .inRegion all l
def IRs (E:Emb) :List AItem→List Item→Prop
 | [],is=>is= []
 |a::aS,is=>∃i is',is=i::is'∧IR E a i∧IRs E aS is'
theorem IR.mono {E E':Emb}(h:E.le E'){a:AItem}{i:Item}(r:IR E a i) :IR E' a i:=by
 cases a<;>simp only [IR]at r ⊢ <;>first|exact r| (obtain⟨L,h1,h2⟩ :=r;exact⟨L,h.1 _ _ h1,h2⟩)
theorem IRs.mono {E E':Emb}(h:E.le E') :∀ {aS:List AItem} {is:List Item},IRs E aS is→IRs E' aS is
 | [],_,r=>by simpa [IRs]using r
 |_::_,_,r=>by simp only [IRs]at r ⊢;obtain⟨i,is',h1,h2,h3⟩ :=r;exact⟨i,is',h1,h2.mono h,h3.mono h⟩
theorem IRs.cons {a:AItem}{i:Item}{aS:List AItem}{is:List Item}(h1:IR E a i)(h2:IRs E aS is) :IRs E (a::aS) (i::is) :=by simp only [IRs];exact⟨i,is,rfl,h1,h2⟩
theorem IRs.cons_inv {a:AItem}{aS:List AItem}{is:List Item}(h:IRs E (a::aS) is) :∃i is',is=i::is'∧IR E a i∧IRs E aS is':=by simpa only [IRs]using h
theorem IRs.nil_inv {is:List Item}(h:IRs E [] is) :is= [] :=by simpa only [IRs]using h
def DRs (E:Emb) :List ADef→List Deferred→Prop
 | [],ds=>ds= []
 |a::aS,ds=>∃d ds',ds=d::ds'∧DR E a d∧DRs E aS ds'
theorem DRs.mono {E E':Emb}(h:E.le E') :∀ {aS:List ADef} {is:List Deferred},DRs E aS is→DRs E' aS is
 | [],_,r=>by simpa [DRs]using r
 |_::_,_,r=>by simp only [DRs]at r ⊢;obtain⟨i,is',h1,h2,h3⟩ :=r;exact⟨i,is',h1,h2.mono h,h3.mono h⟩
theorem DRs.cons {a:ADef}{d:Deferred}{aS:List ADef}{ds:List Deferred}(h1:DR E a d)(h2:DRs E aS ds) :DRs E (a::aS) (d::ds) :=by simp only [DRs];exact⟨d,ds,rfl,h1,h2⟩
theorem DRs.cons_inv {a:ADef}{aS:List ADef}{ds:List Deferred}(h:DRs E (a::aS) ds) :∃d ds',ds=d::ds'∧DR E a d∧DRs E aS ds':=by simpa only [DRs]using h
theorem DRs.nil_inv {ds:List Deferred}(h:DRs E [] ds) :ds= [] :=by simpa only [DRs]using h
def CR (E:Emb) :List (AV×Bool) →List PanicEntry→Prop
 | [],ps=>ps= []
 |a::aS,ps=>∃v ps',ps= {v,recovered:=a.2}::ps'∧VR E a.1 v∧CR E aS ps'
theorem CR.mono {E E':Emb}(h:E.le E') :∀ {aS:List (AV×Bool)} {is:List PanicEntry},CR E aS is→CR E' aS is
 | [],_,r=>by simpa [CR]using r
 |_::_,_,r=>by simp only [CR]at r ⊢;obtain⟨i,is',h1,h2,h3⟩ :=r;exact⟨i,is',h1,h2.mono h,h3.mono h⟩
theorem CR.append :∀ {aS bs:List (AV×Bool)} {is js:List PanicEntry},CR E aS is→CR E bs js→CR E (aS++bs) (is++js)
 | [],_,_,_,h,k=>by simp only [CR]at h;subst h;exact k
 |_::_,_,_,_,h,k=>by simp only [CR]at h;obtain⟨v,ps,rfl,h1,h2⟩ :=h;simp only [vV,CR];exact⟨v,_,rfl,h1,h2.append k⟩
def MR (E:Emb) :AMode→FrameMode→Prop
 | .run,m=>m= .run
 | .ret,m=>m= .returning
 | .pan chain,m=>∃ps,m= .panicking ps∧CR E chain ps
theorem MR.mono {E E':Emb}(h:E.le E'){a:AMode}{m:FrameMode}(r:MR E a m) :MR E' a m:=by
 cases a<;>simp only [MR]at r ⊢ <;>first|exact r| (obtain⟨ps,h1,h2⟩ :=r;exact⟨ps,h1,h2.mono h⟩)
def RR (E:Emb) :Option Nat→Option Nat→Prop
 |none,o=>o=none
 |some l,o=>∃L,E l=some L∧o=some L.blk
theorem RR.mono {E E':Emb}(h:E.le E'){a b:Option Nat}(r:RR E a b) :RR E' a b:=by
 cases a<;>simp only [RR]at r ⊢ <;>first|exact r| (obtain⟨L,h1,h2⟩ :=r;exact⟨L,h.1 _ _ h1,h2⟩)
structure FR (E:Emb) (a:AFrame) (c:Frame) :Prop where
 fn:c.fn=a.fn
 tm:TR E a.tm a.nt c.tmps
 todo:IRs E a.todo c.todo
 defers:DRs E a.defers c.defers
 mode:MR E a.mode c.mode
 kind:c.kind=a.kind
 round:RR E a.roundOf c.roundOf
theorem FR.mono {E E':Emb}(h:E.le E'){a:AFrame}{c:Frame}(r:FR E a c) :FR E' a c:=
 ⟨r.fn,r.tm.mono h,r.todo.mono h,r.defers.mono h,r.mode.mono h,r.kind,r.round.mono h⟩
def FRs (E:Emb) :List AFrame→List Frame→Prop
 | [],cs=>cs= []
 |a::aS,cs=>∃c cs',cs=c::cs'∧FR E a c∧FRs E aS cs'
theorem FRs.mono {E E':Emb}(h:E.le E') :∀ {aS:List AFrame} {is:List Frame},FRs E aS is→FRs E' aS is
 | [],_,r=>by simpa [FRs]using r
 |_::_,_,r=>by simp only [FRs]at r ⊢;obtain⟨i,is',h1,h2,h3⟩ :=r;exact⟨i,is',h1,h2.mono h,h3.mono h⟩
theorem FRs.cons {a:AFrame}{c:Frame}{aS:List AFrame}{cs:List Frame}(h1:FR E a c)(h2:FRs E aS cs) :FRs E (a::aS) (c::cs) :=by simp only [FRs];exact⟨c,cs,rfl,h1,h2⟩
theorem FRs.cons_inv {a:AFrame}{aS:List AFrame}{cs:List Frame}(h:FRs E (a::aS) cs) :∃c cs',cs=c::cs'∧FR E a c∧FRs E aS cs':=by simpa only [FRs]using h
theorem FRs.nil_inv {cs:List Frame}(h:FRs E [] cs) :cs= [] :=by simpa only [FRs]using h
theorem aOa (args:List AV)(i:Nat) : (dV .leaf 0 args).at i=if i<args.length then args[i]? else none:=bF args i
theorem hU {f:Nat}{args:List AV}{cargs:List Value}{kd:CallKind}{g:AFrame}(h0:dG P f args kd=some g)(ha:VRs E args cargs) :FR E g (Frame.enter P f ⟨cargs⟩ kd) :=by
 unfold dG at h0;split at h0
 · rename_i fn hf;split at h0
   · rename_i c hb;cases h0;have hlen:=ha.length;refine⟨by simp [Frame.enter],⟨?_,fun t a hta=>?_⟩,?_,by simp [Frame.enter,DRs],by simp [Frame.enter,MR],by simp [Frame.enter],by simp [Frame.enter,RR]⟩
     ·simp [Frame.enter,hf,hlen];omega
     · rw [aOa]at hta;split at hta
       · rename_i ht;obtain⟨v,h1,h2⟩ :=ha.get _ _ hta;refine⟨v,?_,h2⟩;simp only [Frame.enter];rw [Array.getElem?_append_left (by simp;omega)];rw [show(⟨cargs⟩ :Array Value) =cargs.toArray from rfl,getElem?_toArray];exact h1
       ·cases hta
     · simp only [Frame.enter,hf,hb,bind_some,getD_some];exact IRs.cons rfl (by simp [IRs])
   ·cases h0
 ·cases h0
theorem vS {nt:Nat}:∀ {ps:List Nat} {args:List AV} {cargs:List Value} {tm tm':T AV} {tmps:Array Value},mS tm nt ps args=some tm'→VRs E args cargs→TR E tm nt tmps →
  ps.length=cargs.length∧TR E tm' nt ((ps.zip cargs).foldl (fun tmps (p:Nat×Value) =>tmps.setIfInBounds p.1 p.2) tmps)
 | [],args,cargs,tm,tm',tmps,h0,ha,r=>by
  cases args with
  |nil=>simp [mS]at h0;subst h0;rw [ha.nil_inv];exact⟨rfl,r⟩
  |cons a aS=>simp [mS]at h0
 | p ::ps,args,cargs,tm,tm',tmps,h0,ha,r=>by
  cases args with
  |nil=>simp [mS]at h0
  | cons a aS=>
   obtain⟨v,vs,rfl,h1,h2⟩ :=ha.cons_inv;simp only [mS,cY]at h0;by_cases hp:p<nt
   · simp only [hp,decide_true,cond]at h0;obtain⟨g1,g2⟩ :=vS h0 h2 (r.put hp h1);exact⟨by simp [g1],by simpa using g2⟩
   ·simp only [hp,decide_false,cond]at h0;cases h0
theorem run_getLoop {l:Nat}{L:Loop}(hl:w.heap[l]?=some (.loop L)) : (Instr.getLoop l).run P w= .ok L w:=by
 simp [Instr.getLoop,getObj,Sem.run,hl]
theorem aCB (r:Rel E h w.heap){l:Nat}{args:List AV}{cargs:List Value}{g:AFrame}(h0:aAC h l args=some g){L:Loc}(hE:E l=some L)(ha:VRs E args cargs) :
  ∃fn tmps aS bd,(Instr.yield L.blk ⟨cargs⟩).run P w= .ok (.round L.blk fn tmps aS bd) w∧FR E g (Frame.round L.blk fn tmps aS bd .normal) :=by
 unfold aAC at h0;split at h0
 · rename_i st pe fn tm nt ps aS bd df hl;split at h0
   · rename_i tm' htm;cases h0;obtain⟨L',g1,tmps,Ld,g2,g3,g4⟩ :=r.obj _ _ hl;rw [hE]at g1;cases g1;obtain⟨k1,k2⟩ :=vS htm ha g4;refine⟨fn,_,aS,bd,?_,⟨rfl,k2,?_,by simp [Frame.round,DRs],by simp [Frame.round,MR],rfl,by simp only [Frame.round,RR];exact⟨L,hE,rfl⟩⟩⟩
     · have hs: (⟨cargs⟩ :Array Value).size= (⟨ps⟩ :Array Tmp).size:=by simp [k1]
       simp only [Instr.yield,Sem.run_bind,run_getLoop g2,Result.andThen_ok];rw [if_neg (by simp [hs])];simp only [Sem.run_pure];congr 2;rw [←Array.foldl_toList];simp
     ·exact IRs.cons rfl (IRs.cons rfl (IRs.cons rfl (by simp [IRs])))
   ·cases h0
 ·cases h0
theorem rT (r:Rel E h w.heap){c:AIn}{g:AFrame}(h0:dW P h c=some g){s:Sem Next}(hs:Out P E h w (s.run P w) (.call c)) :
  ∃nx G,s.run P w= .ok nx w∧ ((∃f args,nx= .enter f args∧G=Frame.enter P f args .normal) ∨ (∃l f t aS bd,nx= .round l f t aS bd∧G=Frame.round l f t aS bd .normal)) ∧FR E g G:=by
 cases c with
 | enter f args=>
  obtain⟨cargs,h1,h2⟩ :=hs;exact⟨_,_,h1,.inl ⟨f,_,rfl,rfl⟩,hU h0 h2⟩
 | round l args=>
  obtain⟨cargs,L,h1,h2,h3⟩ :=hs;obtain⟨fn,tmps,aS,bd,k1,k2⟩ :=aCB (P:=P) r h0 h1 h2;exact⟨_,_,h3.trans k1,.inr ⟨_,_,_,_,_,rfl,rfl⟩,k2⟩
theorem aAl (bs:List Nat)(j:Nat) :∀es:List Edge,testBit (fW bs es) j=true↔∃e∈es,Region.binds .any e=true∧ (j=e.on∨testBit (bs.getD e.on 0) j=true)
 | [] =>by simp [fW]
 | e :: es=>by
  have ih:=aAl bs j es;simp only [fW];cases hb:Region.binds .any e with
  | false=>
   simp only [cond,ih,zq7];constructor
   ·rintro⟨x,h1,h2⟩;exact⟨x,.inr h1,h2⟩
   · rintro⟨x,rfl|h1,h2⟩
     ·rw [hb]at h2;cases h2.1
     ·exact⟨x,h1,h2⟩
  | true=>
   simp only [cond];show testBit ((2 ^ e.on ||| bs.getD e.on 0) ||| fW bs es) j=true↔_;simp only [Nat.testBit_or,Nat.testBit_two_pow,or_eq_true,decide_eq_true_eq,ih,zq7];constructor
   · rintro((h1|h1) | ⟨x,h1,h2⟩)
     ·exact⟨e,.inl rfl,hb,.inl h1.symm⟩
     ·exact⟨e,.inl rfl,hb,.inr h1⟩
     ·exact⟨x,.inr h1,h2⟩
   · rintro⟨x,rfl|h1,h2,h3⟩
     · rcases h3 with h3|h3
       ·exact .inl (.inl h3.symm)
       ·exact .inl (.inr h3)
     ·exact .inr ⟨x,h1,h2,h3⟩
theorem aBu :∀ (l:List Oper) (acc:List Nat),(lV l acc).length=acc.length+l.length∧ (lV l acc).take acc.length=acc ∧
  ∀i o,l[i]?=some o→ (lV l acc)[acc.length+i]?=some (fW ((lV l acc).take (acc.length+i)) o.after.toList)
 | [],acc=>by simp [lV]
 | o ::l,acc=>by
  obtain⟨h1,h2,h3⟩ :=aBu l (acc++ [fW acc o.after.toList]);simp only [lV];simp only [vP,mO,length_nil]at h1 h2 h3;refine⟨by rw [h1];simp;omega,?_,fun i x hx=>?_⟩
  · have:=congrArg (take acc.length) h2;rw [List.take_take]at this;rw [show min acc.length (acc.length+ (0+1)) =acc.length by omega]at this;rw [this];simp
  · cases i with
    | zero=>
     simp at hx;subst hx;have e1:=congrArg (fun z=>z[acc.length]?) h2;simp only [getElem?_take]at e1;rw [if_pos (by omega)]at e1;have e2:=congrArg (take acc.length) h2;rw [List.take_take,show min acc.length (acc.length+ (0+1)) =acc.length by omega]at e2;rw [add_zero,e1,e2];simp
    | succ i=>
     have:=h3 i x (by simpa using hx);rw [show acc.length+ (i+1) =acc.length+ (0+1) +i by omega];exact this
def bsOf (l:List Oper) :List Nat:=lV l []
theorem bHO {l:List Oper}{i:Nat}{o:Oper}(ho:l[i]?=some o)(j:Nat) :
  testBit ((bsOf l).getD i 0) j=true↔∃e∈o.after.toList,Region.binds .any e=true∧ (j=e.on∨ (e.on<i∧testBit ((bsOf l).getD e.on 0) j=true)) :=by
 obtain⟨h1,_,h3⟩ :=aBu l [];have:=h3 i o ho;simp only [length_nil,eM]at this;rw [nY,show bsOf l=lV l []from rfl,this];simp only [getD_some,aAl];constructor
 · rintro⟨e,k1,k2,k3⟩
   refine⟨e,k1,k2,k3.imp id fun k3=>?_⟩;rw [nY,getElem?_take]at k3;by_cases he:e.on<i
   ·rw [if_pos he]at k3;exact⟨he,by rw [nY];exact k3⟩
   ·rw [if_neg he]at k3;simp at k3
 · rintro⟨e,k1,k2,k3⟩
   refine⟨e,k1,k2,k3.imp id fun k3=>?_⟩;rw [nY,getElem?_take,if_pos k3.1,←nY];exact k3.2
def Met (D:Nat→Prop)(o:Oper) :Prop:=∀e∈o.after.toList,Region.binds .any e=true→D e.on
def Closed (l:List Oper)(D:Nat→Prop) :Prop:=∀i o,l[i]?=some o→D i→Met D o
theorem lM {l:List Oper}{D:Nat→Prop}(hD:Closed l D)(hlt:∀i,D i→i<l.length) :∀ (n i:Nat),i<n→∀o,l[i]?=some o→Met D o→∀j,testBit ((bsOf l).getD i 0) j=true→D j:=by
 intro n
 induction n with
 |zero=>intro i hi;omega
 | succ n ih=>
  intro i hi o ho hm j hj;obtain⟨e,k1,k2,k3⟩ := (bHO ho j).1 hj;have hde:=hm e k1 k2;rcases k3 with rfl| ⟨k3,k4⟩
  ·exact hde
  · have hlt':=hlt _ hde;have ho':l[e.on]?=some (l[e.on]'hlt') :=by simp
    exact ih e.on (by omega) _ ho' (hD _ _ ho' hde) j k4
theorem wW {md:Region.Mode}{n:Nat}{rk:List Nat}{i:Nat}:∀ {es:List Edge},yO md n rk i es=true→∀e∈es,Region.binds md e=true→e.on<n∧rk.getD e.on 0<rk.getD i 0
 | [],_,e,he,_=>by cases he
 | x :: xs, h,e,he,hb=>by
  simp only [yO,cP,or_eq_true,not_eq_true',cY,decide_eq_true_eq]at h;cases he with
  | head => rcases h.1 with h1|h1
            ·rw [hb]at h1;cases h1
            ·exact h1
  |tail _ he=>exact wW h.2 e he hb
theorem wX {md:Region.Mode}{n:Nat}{rk:List Nat}:∀ {l:List Oper} {k:Nat},tK md n rk l k=true→∀i o,l[i]?=some o→∀e∈o.after.toList,Region.binds md e=true→e.on<n∧rk.getD e.on 0<rk.getD (k+i) 0
 | [],_,_,i,o,ho=>by simp at ho
 | x::xs,k,h,i,o,ho=>by
  simp only [tK,cP]at h;cases i with
  |zero=>simp at ho;subst ho;exact wW h.1
  | succ i=>
   have:=wX h.2 i o (by simpa using ho);rwa [show Nat.succ k+i=k+ (i+1)by omega]at this
theorem ready_nil {md:Region.Mode}{ops:Array Oper}{rk:List Nat}(hrk:tK md ops.size rk ops.toList 0=true){listed:Array Bool}(hsz:listed.size=ops.size)(h0:Region.ready md ops listed= []) :
  ∀i,i<ops.size→listed.getD i true=true:=by
 have key:∀ (m i:Nat),i<ops.size→rk.getD i 0<m→listed.getD i true=true:=by
  intro m
  induction m with
  |zero=>intro i _ h;omega
  | succ m ih=>
   intro i hi hr;cases hl:listed.getD i true with
   |true=>rfl
   | false=>
    exfalso;have:i∈Region.ready md ops listed:=by
     unfold Region.ready;rw [List.mem_filter];refine⟨by simpa using hi,?_⟩;have ho:ops[i]?=some ops[i] :=by simp [hi]
     simp only [hl,Bool.not_false,nX,ho,map_some,getD_some];rw [Array.all_eq_true];intro x hx;have hmem:ops[i].after[x] ∈ops[i].after.toList:=by simp
     cases hb:Region.binds md ops[i].after[x]with
     |false=>rfl
     | true=>
      have:=wX hrk i ops[i] (by simp [hi]) _ hmem hb;rw [eM]at this;have h2:=ih _ this.1 (by omega);simp only [Bool.not_true,Bool.false_or];have hlt:ops[i].after[x].on<listed.size:=by rw [hsz];exact this.1
      rw [aAx]at h2 ⊢;rw [Array.getElem?_eq_getElem hlt]at h2 ⊢;exact h2
    rw [h0]at this;cases this
 intro i hi;exact key _ i hi (Nat.lt_succ_self _)
theorem aOb {md:Region.Mode}{ops:Array Oper}{listed:Array Bool}{i:Nat}(h0:i∈Region.ready md ops listed) :
  i<ops.size∧listed.getD i true=false∧∃o,ops[i]?=some o∧∀e∈o.after.toList,Region.binds md e=true→listed.getD e.on false=true:=by
 unfold Region.ready at h0;rw [List.mem_filter]at h0;obtain⟨h1,h2⟩ :=h0;simp only [List.mem_range]at h1;have ho:ops[i]?=some ops[i] :=by simp [h1]
 rw [ho]at h2;simp only [map_some,getD_some,cP,not_eq_true',Array.all_eq_true]at h2;refine⟨h1,h2.1,ops[i],ho,fun e he hb=>?_⟩;obtain⟨x,hx,rfl⟩ :=List.getElem_of_mem he;have:=h2.2 x (by simpa using hx);rw [Array.getElem_toList]at hb;rw [hb]at this;simpa using this
theorem aSv {md:Region.Mode}{e:Edge}(h:Region.binds .any e=true) :Region.binds md e=true:=by
 unfold Region.binds at h ⊢;cases hg:e.ground<;>simp_all<;>exact absurd h (by decide)
def tX (l:List Oper)(i:Nat)(o:Oper) :Plan:={o,kd:=dF o.op,lo:=aIC ((bsOf l).getD i 0) (fX l 0) 0,hi:=zZ (bsOf l) i (fX l 0) 0}
theorem aDn (bs a:List Nat) :∀ (l:List Oper) (k i:Nat),(qP bs a l k)[i]?= (l[i]?).map fun o=>{o,kd:=dF o.op,lo:=aIC (bs.getD (k+i) 0) a 0,hi:=zZ bs (k+i) a 0}
 | [],k,i=>by simp [qP]
 | o::l,k,i=>by
  cases i with
  |zero=>simp [qP]
  |succ i=>simp only [qP,lS];rw [aDn bs a l];rw [show Nat.succ k+i=k+ (i+1)by omega]
theorem wY (bs a:List Nat) :∀ (l:List Oper) (k:Nat),(qP bs a l k).length=l.length
 | [],_=>rfl
 |_::l,k=>by simp [qP,wY bs a l]
inductive RC (P:Program) (call:bP) (l:List Oper) (p:Plan) (r r':RS) (a:AV) :Prop
 |unwE (hw:bU r.tm l p.o=some false) (ha:a= .undef) (hk:p.kd= .eff) (e:r'= {r with tm:=r'.tm,h:=aO r.h r.s r.pend,stages:=r.h::r.stages,s:=r.s+1})
 |unwF (hw:bU r.tm l p.o=some false) (ha:a= .undef) (hk:p.kd= .fresh) (e:r'= {r with tm:=r'.tm,next:=r.next+1})
 |unwQ (hw:bU r.tm l p.o=some false) (ha:a= .undef) (hk:p.kd= .pure∨p.kd= .read) (e:r'= {r with tm:=r'.tm})
 |pure (hx:Hp) (hw:bU r.tm l p.o=some true) (hk:p.kd= .pure) (h0:kL P r.h r.tm p.o=some (.val a hx)) (e:r'= {r with tm:=r'.tm})
 |read (hx:Hp) (hw:bU r.tm l p.o=some true) (hk:p.kd= .read) (h0:kL P r.h r.tm p.o=some (.val a hx)) (e:r'= {r with tm:=r'.tm,again:=bif beq p.lo p.hi then r.again else⟨p.o,r.tm,p.lo,p.hi,a⟩ ::r.again})
 |own (vs:List AV) (hw:bU r.tm l p.o=some true) (hk:p.kd= .read) (h0:sE P r.tm r.pend p.hi p.o=some vs) (h1:sD vs=some a) (e:r'= {r with tm:=r'.tm})
 |fresh (ob:AObj) (hw:bU r.tm l p.o=some true) (hk:p.kd= .fresh) (h0:oJ P r.tm r.next p.o=some (a,ob)) (e:r'= {r with tm:=r'.tm,next:=r.next+1,pend:= (p.hi,r.next,ob) ::r.pend})
 | eff (h2:Hp) (hw:bU r.tm l p.o=some true) (hk:p.kd= .eff)
   (h0:kL P (aO r.h r.s r.pend) r.tm p.o=some (.val a h2) ∨∃c,kL P (aO r.h r.s r.pend) r.tm p.o=some (.call c) ∧call r.s c (aO r.h r.s r.pend) =some (a,h2))
   (e:r'= {r with tm:=r'.tm,h:=h2,stages:=r.h::r.stages,s:=r.s+1})
theorem aDo {call:bP}{m:Nat}{l:List Oper}{p:Plan}{r h:RS}(b:lW P call m l p r=some h) :∃a,iR r.tm m p.o.dst a=some h.tm∧RC P call l p r h a:=by
 unfold lW at b;split at b
 ·cases b
 · rename_i f;split at b
   ·cases b
   · rename_i g d;split at b
     ·rename_i hk;cases b;exact⟨.undef,d,.unwE f rfl hk rfl⟩
     ·rename_i hk;cases b;exact⟨.undef,d,.unwF f rfl hk rfl⟩
     · rename_i q o;cases b;refine⟨.undef,d,.unwQ f rfl ?_ rfl⟩;cases hk:p.kd<;>simp_all
 · rename_i f;split at b
   · rename_i hk;split at b
     · rename_i v i e;split at b
       ·rename_i g d;cases b;exact⟨v,d,.pure i f hk e rfl⟩
       ·cases b
     ·cases b
   · rename_i hk;split at b
     · rename_i v i e;split at b
       ·rename_i g d;cases b;exact⟨v,d,.read i f hk e rfl⟩
       ·cases b
     · split at b
       · rename_i n j;split at b
         · rename_i v e;split at b
           ·rename_i g d;cases b;exact⟨v,d,.own n f hk j e rfl⟩
           ·cases b
         ·cases b
       ·cases b
   · rename_i hk;split at b
     · rename_i v ob e;split at b
       ·rename_i g d;cases b;exact⟨v,d,.fresh ob f hk e rfl⟩
       ·cases b
     ·cases b
   · rename_i hk;simp only at b;split at b
     · rename_i v k e;split at b
       ·rename_i g d;cases b;exact⟨v,d,.eff k f hk (.inl e) rfl⟩
       ·cases b
     · rename_i c e;split at b
       · rename_i v k hc;split at b
         ·rename_i g d;cases b;exact⟨v,d,.eff k f hk (.inr ⟨c,e,hc⟩) rfl⟩
         ·cases b
       ·cases b
     ·cases b
theorem aBv {call:bP}{f:Nat}{l:List Oper}:∀ {b:List Plan} {r c:RS},oK P call f l b r=some c →
  ∃R:Nat→RS,R 0=r∧R b.length=c∧∀i p,b[i]?=some p→lW P call f l p (R i) =some (R (i+1))
 | [],r,c,a=>by simp [oK]at a;subst a;exact⟨fun _=>r,rfl,rfl,fun i p h=>by simp at h⟩
 | p ::b,r,c,a=>by
  simp only [oK]at a;split at a
  · rename_i m e;obtain⟨R,j,k,g⟩ :=aBv a;refine⟨fun i=>match i with|0=>r|i+1=>R i,rfl,k,fun i q d=>?_⟩;cases i with
    |zero=>simp at d;subst d;show _=some (R 0);rw [j];exact e
    |succ i=>exact g i q (by simpa using d)
  ·cases a
theorem jA :∀ (l:List Oper) (k:Nat),(∀ (q e:Nat),(fX l k)[q]?=some e→k≤e∧e<k+l.length∧∃o,l[e-k]?=some o∧dF o.op= .eff) ∧
  (∀ (i:Nat) (o:Oper),l[i]?=some o→dF o.op= .eff→∃q:Nat,(fX l k)[q]?=some (k+i)) ∧List.Pairwise (· < ·) (fX l k)
 | [],k=>by simp [fX]
 | o ::l,k=>by
  obtain⟨j,n,h⟩ :=jA l (Nat.succ k)
  have d:∀ (q e:Nat),(fX l (Nat.succ k))[q]?=some e→k≤e∧e<k+ (o::l).length∧∃a,(o::l)[e-k]?=some a∧dF a.op= .eff:=fun q e he=>by
   obtain⟨r,s,a,p,m⟩ :=j q e he;refine⟨by omega,by simp;omega,a,?_,m⟩;rw [show e-k= (e-Nat.succ k) +1 by omega];simpa using p
  have c:∀ (i:Nat) (a:Oper),l[i]?=some a→dF a.op= .eff→∃q:Nat,(fX l (Nat.succ k))[q]?=some (k+ (i+1)) :=fun i a f hk=>by
   obtain⟨q,g⟩ :=n i a f hk;exact⟨q,by rw [g];congr 1;omega⟩
  cases hk:dF o.op with
  | eff=>
   simp only [fX,hk];refine⟨fun q e he=>?_,fun i a f b=>?_,?_⟩
   · cases q with
     |zero=>simp at he;subst he;exact⟨le_refl _,by simp,o,by simp,hk⟩
     |succ q=>exact d q e (by simpa using he)
   · cases i with
     |zero=>exact⟨0,by simp⟩
     | succ i=>
      obtain⟨q,g⟩ :=c i a (by simpa using f) b;exact⟨q+1,by simpa using g⟩
   · rw [List.pairwise_cons];refine⟨fun e he=>?_,h⟩;obtain⟨q,g,rfl⟩ :=List.getElem_of_mem he;have:= (j q _ (kR g)).1;omega
  | _=>
   simp only [fX,hk];refine⟨d,fun i a f b=>?_,h⟩;cases i with
   |zero=>simp at f;subst f;rw [hk]at b;cases b
   |succ i=>exact c i a (by simpa using f) b
theorem aQ9 (b j:Nat) :∀ (a:List Nat) (k:Nat),(∀ (q e:Nat),a[q]?=some e→testBit b e=true→k+q+1≤j) →aIC b a k≤j
 | [],k,_=>by simp [aIC]
 | e::a,k,h=>by
  have c:=aQ9 b j a (Nat.succ k) (fun q x d hb=>by have:=h (q+1) x (by simpa using d) hb;omega);simp only [aIC];cases hb:testBit b e with
  |true=>simp only [cond];have:=h 0 e rfl hb;omega
  |false=>simp only [cond];exact c
theorem aCC (bs:List Nat)(i:Nat) :∀ (a:List Nat) (k:Nat),k≤zZ bs i a k∧zZ bs i a k≤k+a.length ∧
  (∀ (q e:Nat),a[q]?=some e→k+q<zZ bs i a k→testBit (bs.getD e 0) i=false) ∧ (∀e:Nat,a[zZ bs i a k-k]?=some e→testBit (bs.getD e 0) i=true)
 | [],k=>by simp [zZ]
 | e ::a,k=>by
  obtain⟨c,g,f,d⟩ :=aCC bs i a (Nat.succ k);simp only [zZ];cases hb:testBit (bs.getD e 0) i with
  | true=>
   simp only [cond];refine⟨le_refl _,by simp,fun q x b h=>by omega,fun x b=>?_⟩;simp at b;subst b;exact hb
  | false=>
   simp only [cond];refine⟨by generalize zZ bs i a (Nat.succ k) =m at c;omega,by generalize zZ bs i a (Nat.succ k) =m at g;simp;omega,fun q x b h=>?_,fun x b=>?_⟩
   · cases q with
     |zero=>simp at b;subst b;exact hb
     |succ q=>exact f q x (by simpa using b) (by omega)
   · rw [show zZ bs i a (Nat.succ k) -k= (zZ bs i a (Nat.succ k) -Nat.succ k) +1 by generalize zZ bs i a (Nat.succ k) =m at c;omega]at b;exact d x (by simpa using b)
theorem aBw {bs:List Nat}:∀ {b:List Nat},chained bs b=true→∀ (q e f:Nat),b[q]?=some e→b[q+1]?=some f→testBit (bs.getD f 0) e=true
 | [],_,q,e,f,he,_=>by simp at he
 | [x],_,q,e,f,he,a=>by simp at a
 | x::y::b,h,q,e,f,he,a=>by
  simp only [chained,cP]at h;cases q with
  |zero=>simp at he a;subst he a;exact h.1
  |succ q=>exact aBw h.2 q e f (by simpa using he) (by simpa using a)
theorem oN {k:Nat}:∀ {b:List (Nat×Nat×AObj)} {x:Nat} {o:AObj},(aO h k b).look x=some o→ (k,x,o) ∈b∨h.look x=some o
 | [],x,o,e=>.inr e
 | (a,id,ob) ::b,x,o,e=>by
  simp only [aO,bM]at e;by_cases c:a=k
  · simp only [c,decide_true,cond]at e;rw [aZ]at e;split at e
    ·rename_i d;cases e;subst d c;exact .inl (cQ ..)
    ·exact(oN e).imp (cH _) (fun z=>z)
  · simp only [c,decide_false,cond]at e;exact(oN e).imp (cH _) (fun z=>z)
theorem eJ {k:Nat}:∀ {b:List (Nat×Nat×AObj)},(aO h k b).nb=h.nb
 | [] =>rfl
 | (a,id,ob) ::b=>by
  simp only [aO];cases beq a k with
  |true=>simp only [cond,jM];exact eJ
  |false=>simp only [cond];exact eJ
noncomputable def eN (tm0:T AV)(dst:Nat→Option Nat)(A:Nat→AV)(D:Nat→Prop)[DecidablePred D] :Nat→Nat→Option AV
 |0,t=>tm0.at t
 |n+1,t=>if D n∧dst n=some t then some (A n)else eN tm0 dst A D n t
section
variable {tm0 :T AV} {dst:Nat→Option Nat} {A:Nat→AV} {D D':Nat→Prop} [DecidablePred D] [DecidablePred D']
theorem tY {t:Nat}:∀ {n:Nat},(∀k,k<n→dst k=some t→ (D k↔D' k)) →eN tm0 dst A D n t=eN tm0 dst A D' n t
 |0,_=>rfl
 | n+1,h=>by
  simp only [eN];rw [tY (fun k hk=>h k (by omega))];by_cases a:dst n=some t
  · have:=h n (by omega) a;by_cases b:D n
    ·rw [if_pos ⟨b,a⟩,if_pos ⟨this.1 b,a⟩]
    ·rw [if_neg (fun e=>b e.1),if_neg (fun e=>b (this.2 e.1))]
  ·rw [if_neg (fun e=>a e.2),if_neg (fun e=>a e.2)]
theorem yT {t i:Nat}:∀ {n:Nat},i≤n→ (∀k,i≤k→k<n→dst k=some t→¬D k) →eN tm0 dst A D n t=eN tm0 dst A D i t
 |0,c,_=>by rw [show i=0 by omega]
 | n+1,c,h=>by
  by_cases e:i=n+1
  ·rw [e]
  · simp only [eN];rw [if_neg (fun⟨a,d⟩ =>h n (by omega) (by omega) d a)];exact yT (by omega) (fun k b f=>h k b (by omega))
end
inductive Legal (l:List Oper) : (Nat→Bool) →List Nat→Prop
 |nil {D}: (∀i,i<l.length→D i=true) →Legal l D []
 |cons {D i is o}:l[i]?=some o→D i=false→Met (D · =true) o→Legal l (fun k=>D k||k==i) is→Legal l D (i::is)
def unl :List Bool→Nat
 | [] =>0
 |true::l=>unl l
 |false::l=>unl l+1
theorem aIW :∀ {l:List Bool} {i:Nat},l[i]?=some false→unl (l.set i true) +1=unl l
 | [],i,h=>by simp at h
 |b::l,0,h=>by simp at h;subst h;simp [unl]
 |true::l,i+1,h=>by simp only [List.set_cons_succ,unl];exact aIW (by simpa using h)
 |false::l,i+1,h=>by simp only [List.set_cons_succ,unl];have:=aIW (l:=l) (i:=i) (by simpa using h);omega
theorem aLo :∀ {l:List Bool} {i:Nat},unl l=0→i<l.length→l[i]?=some true
 | [],i,_,h=>by simp at h
 |true::l,0,_,_=>rfl
 |true::l,i+1,h,h2=>by simp only [lS];exact aLo h (by simpa using h2)
 |false::l,i,h,_=>by simp [unl]at h
theorem aAm :∀n,unl (List.replicate n false) =n
 |0=>rfl
 |n+1=>by simp [List.replicate_succ,unl,aAm n]
theorem aVb {md:Region.Mode}{ops:Array Oper}{rk:List Nat}(hrk:tK md ops.size rk ops.toList 0=true) :∀ (fuel t:Nat) (listed:Array Bool),listed.size=ops.size→unl listed.toList≤fuel →
  Legal ops.toList (fun k=>listed.getD k false) (Region.linearise.go md ops fuel t listed []) :=by
 have gd:∀ {listed:Array Bool} {i:Nat},listed.size=ops.size→i<ops.size→∀b,listed.getD i b=listed.getD i false:=fun {listed i} hs hi b=>by
  rw [aAx,aAx,Array.getElem?_eq_getElem (by omega)];rfl
 intro fuel
 induction fuel with
 | zero=>
  intro t listed hs hu;simp only [Region.linearise.go,List.reverse_nil];refine .nil fun i hi=>?_;have:=aLo (l:=listed.toList) (i:=i) (by omega) (by simp only [Array.length_toList]at hi ⊢;omega);rw [aAx,←rO,this];rfl
 | succ fuel ih=>
  intro t listed hs hu;simp only [Region.linearise.go]
  change Legal _ _ (match(Region.ready md ops listed)[t % (Region.ready md ops listed).length]? with
   |some i=>Region.linearise.go md ops fuel (t / (Region.ready md ops listed).length) (listed.setIfInBounds i true) [i]
   |none=>[].reverse)
  cases hi: (Region.ready md ops listed)[t % (Region.ready md ops listed).length]? with
  | none=>
   have hnil:Region.ready md ops listed= [] :=by
    cases hr:Region.ready md ops listed with
    |nil=>rfl
    | cons x xs=>
     rw [hr]at hi;have hlt:t % (x::xs).length< (x::xs).length:=mod_lt _ (by simp);simp at hi;simp at hlt;omega
   simp only [List.reverse_nil];refine .nil fun i hi=>?_;have hi':i<ops.size:=by simpa using hi
   have:=ready_nil hrk hs hnil i hi';rw [gd hs hi']at this;exact this
  | some i=>
   simp only [];obtain⟨g1,g2,o,g3,g4⟩ :=aOb (kS hi);rw [gd hs g1]at g2;rw [linearise_go_acc,List.reverse_singleton,List.singleton_append];have hlf:listed.toList[i]?=some false:=by
    rw [aAx,Array.getElem?_eq_getElem (by omega)]at g2;rw [rO,Array.getElem?_eq_getElem (by omega)];simpa using g2
   have e: (fun k=> (listed.setIfInBounds i true).getD k false) = (fun k=>listed.getD k false||k==i) :=by
    funext k
    rw [aAx,aAx,Array.getElem?_setIfInBounds];by_cases hk:i=k
    ·subst hk;simp [hs,g1]
    · have: (k==i) =false:=by simp;omega
      simp [hk,this]
   refine .cons (by rw [rO];exact g3) g2 (fun x hx hb=>g4 x hx (aSv hb)) ?_
   have:=ih (t / (Region.ready md ops listed).length) (listed.setIfInBounds i true) (by simpa using hs) (by
    rw [Array.toList_setIfInBounds];have:=aIW hlf;omega)
   rw [e]at this;exact this
theorem aE8 {ops:Array Oper}(hok: (kM ops).ok=true)(mx:Bool)(t:Nat) :Legal ops.toList (fun _=>false) (Region.schedule mx ops t) :=by
 simp only [kM,cP]at hok;obtain⟨⟨⟨⟨h1,h2⟩,h3⟩,h4⟩,h5⟩ :=hok;have e: (fun k=> (Array.replicate ops.size false).getD k false) =fun _=>false:=by
  funext k
  rw [aAx,Array.getElem?_replicate];split<;>rfl
 have key:∀ {md rk} t,tK md ops.size rk ops.toList 0=true→Legal ops.toList (fun _=>false) (Region.linearise md ops t) :=fun t hr=>by
  have:=aVb hr ops.size t (Array.replicate ops.size false) (by simp) (by simp [aAm]);rw [e]at this;exact this
 unfold Region.schedule;split
 ·exact key t h3
 · split
   ·exact key _ h4
   ·exact key _ h5
def AOut.reh (h1:Hp) :AOut→AOut
 | .val v _=>.val v h1
 |o=>o
set_option maxHeartbeats 1000000 in
theorem aVc {tm:T AV}{o:Oper}(hk:dF o.op= .pure)(h1:Hp) :hQ P h1 tm o= (hQ P h tm o).map (AOut.reh h1) :=by
 unfold dF at hk;unfold hQ;cases hop:o.op<;>simp only [hop]at hk ⊢ <;>first| (cases hk;done) |skip
 case call c=>
  unfold pR;cases hc:c.callee with
  | builtin b=>
   rw [hc]at hk;cases hv:iG tm c.args.toList with
   |none=>rfl
   | some args=>
    simp only;cases b<;> (try simp only at hk) <;> (first| (cases hk;done) |skip) <;> (unfold fD; (try simp only);repeat' split) <;>simp_all [AOut.reh]
  |value f=>rw [hc]at hk;cases hk
  |invoke r n=>rw [hc]at hk;cases hk
 all_goals (try simp only [val,vQ,ev2,cond_eq_ite])
 all_goals (repeat' split)
 all_goals (first|rfl|simp_all [AOut.reh,val])
set_option maxHeartbeats 1000000 in
theorem aZL {tm:T AV}{o:Oper}(hk:dF o.op= .pure)(h1:Hp) :vop P h1 tm o= (vop P h tm o).map (AOut.reh h1) :=by
 unfold dF at hk;unfold vop;cases hop:o.op<;>simp only [hop]at hk ⊢ <;>first| (cases hk;done) |rfl|skip
 case call c=>
  cases hc:c.callee with
  | builtin b=>
   rw [hc]at hk;cases b<;> (try simp only at hk) <;> (first| (cases hk;done) |skip) <;> ((try simp only);repeat' split) <;>simp_all [AOut.reh]
  |value f=>rw [hc]at hk;cases hk
  |invoke r n=>rw [hc]at hk;cases hk
 all_goals (try simp only [val,vQ,ev2,cond_eq_ite])
 all_goals (repeat' split)
 all_goals (first|rfl|simp_all [AOut.reh,val])
theorem aZM {tm:T AV}{o:Oper}(hk:dF o.op= .pure)(h1:Hp) :kL P h1 tm o= (kL P h tm o).map (AOut.reh h1) :=by
 unfold kL;rw [aVc hk (h:=h),aZL hk (h:=h)];cases hQ P h tm o<;>rfl
theorem aVd {tm:T AV}{o:Oper}(hk:dF o.op= .pure){a:AV}{hx:Hp}(h0:kL P h tm o=some (.val a hx))(h1:Hp) :kL P h1 tm o=some (.val a h1) :=by
 rw [aZM hk (h:=h),h0];rfl
mutual
theorem AV.same_eq :∀ (a b:AV),same a b=true→a=b
 | .bool _,b,h=>by cases b<;>simp_all [same]
 | .int _ _,b,h=>by cases b<;>simp_all [same]
 | .str _ _,b,h=>by cases b<;>simp_all [same,bM]
 | .ptr _ _,b,h=>by cases b<;>simp_all [same,bM]
 | .nilp,b,h=>by cases b<;>simp_all [same]
 | .slice ..,b,h=>by cases b<;>simp_all [same,bM]
 | .nils,b,h=>by cases b<;>simp_all [same]
 | .map _,b,h=>by cases b<;>simp_all [same,bM]
 | .nilm,b,h=>by cases b<;>simp_all [same]
 | .func f fs cs,b,h=>by
  cases b with
  | func f' fs' cs'=>
   simp only [same,cP,bM,decide_eq_true_eq]at h;rw [h.1.1,AV.sameL_eq _ _ h.1.2,AV.sameL_eq _ _ h.2]
  |_=>simp [same]at h
 | .yield _,b,h=>by cases b<;>simp_all [same,bM]
 | .meth _ _,b,h=>by cases b<;>simp_all [same]
 | .via ..,b,h=>by cases b<;>simp_all [same]
 | .nilf,b,h=>by cases b<;>simp_all [same]
 | .iface t v,b,h=>by
  cases b with
  | iface t' v'=>
   simp only [same,cP,bM,decide_eq_true_eq]at h;rw [h.1,AV.same_eq _ _ h.2]
  |_=>simp [same]at h
 | .nili,b,h=>by cases b<;>simp_all [same]
 | .agg vs,b,h=>by
  cases b with
  |agg vs'=>simp only [same]at h;rw [AV.sameL_eq _ _ h]
  |_=>simp [same]at h
 | .tup vs,b,h=>by
  cases b with
  |tup vs'=>simp only [same]at h;rw [AV.sameL_eq _ _ h]
  |_=>simp [same]at h
 | .ilst e xs ex,b,h=>by
  cases b with
  | ilst e' xs' ex'=>
   simp only [same,cP,bM,decide_eq_true_eq,beq_iff_eq]at h;rw [h.1.1,AV.sameL_eq _ _ h.1.2,h.2]
  |_=>simp [same]at h
 | .iptr cs,b,h=>by
  cases b with
  |iptr cs'=>simp only [same]at h;rw [AV.sameL_eq _ _ h]
  |_=>simp [same]at h
 | .gl ..,b,h=>by cases b<;>simp_all [same,bM]
 | .ep ..,b,h=>by cases b<;>simp_all [same,bM]
 | .val _,b,h=>by cases b<;>simp_all [same]
theorem AV.sameL_eq :∀ (a b:List AV),sameL a b=true→a=b
 | [],b,h=>by cases b<;>simp_all [sameL]
 | a::aS,b,h=>by
  cases b with
  |nil=>simp [sameL]at h
  | cons b bs=>
   simp only [sameL,cP]at h;rw [AV.same_eq _ _ h.1,AV.sameL_eq _ _ h.2]
end
theorem aIX {a:Again}(h0:aD6 P a h=true) :∃hx,kL P h a.tm a.o=some (.val a.v hx) :=by
 unfold aD6 at h0;split at h0
 ·rename_i v hx hv;exact⟨hx,by rw [hv,AV.same_eq _ _ h0]⟩
 ·cases h0
theorem sL {a:Again}:∀ {hs:List Hp} {k x:Nat} {h:Hp},nZ P a hs k=true→hs[x]?=some h→x≤k→a.lo≤k-x→k-x≤a.hi→aD6 P a h=true
 | [],k,x,h,_,hx,_,_,_=>by simp at hx
 | y::ys,k,x,h,h0,hx,hk,h1,h2=>by
  simp only [nZ,cP]at h0;cases x with
  | zero=>
   simp at hx;subst hx;have:=h0.1;rw [sub_zero]at h1 h2;simp only [jF,h1,h2,decide_true,Bool.and_self,cond]at this;exact this
  |succ x=>exact sL (k:=k-1) (x:=x) h0.2 (by simpa using hx) (by omega) (by omega) (by omega)
theorem aAn {hs:List Hp}{k:Nat}:∀ {aS:List Again},sF P hs k aS=true→∀a∈aS,nZ P a hs k=true
 | [],_,a,ha=>by cases ha
 | x::xs,h0,a,ha=>by
  simp only [sF,cP]at h0;cases ha with
  |head=>exact h0.1
  |tail _ ha=>exact aAn h0.2 a ha
def yU (P:Program)(hs:List Hp)(k:Nat)(aS:List Again) :Prop:=
 ∀a∈aS,∀ (x:Nat) (h:Hp),hs[x]?=some h→x≤k→a.lo≤k-x→k-x≤a.hi→∃hx,kL P h a.tm a.o=some (.val a.v hx)
theorem aE9 {hs:List Hp}{k:Nat}{aS:List Again}(h0:sF P hs k aS=true) :yU P hs k aS:=
 fun a ha _ _ hx h1 h2 h3=>aIX (sL (aAn h0 a ha) hx h1 h2 h3)
theorem aCD {tm:T AV}{o:Oper}(c:Call)(hc:o.op= .defer c) :vop P h tm o=none:=by
 unfold vop;rw [hc]
theorem aAI {tm:T AV}{o:Oper}(c:Call)(hc:o.op= .defer c){out:AOut}(h0:hQ P h tm o=some out) :∃d,out= .defer d:=by
 unfold hQ at h0;rw [hc]at h0;simp only [cond_eq_ite]at h0
 repeat' split at h0
 all_goals first| (cases h0;done) | (cases h0;exact⟨_,rfl⟩)
theorem aHD {tm:T AV}{o:Oper}{v:AV}{h2:Hp}(h0:kL P h tm o=some (.val v h2)) :∀c,o.op≠ .defer c:=by
 intro c hc;unfold kL at h0;split at h0
 ·rename_i r hr;cases h0;obtain⟨d,e⟩ :=aAI c hc hr;cases e
 ·rw [aCD c hc]at h0;cases h0
theorem aFa {tm:T AV}{o:Oper}{c':AIn}(h0:kL P h tm o=some (.call c')) :∀c,o.op≠ .defer c:=by
 intro c hc;unfold kL at h0;split at h0
 ·rename_i r hr;cases h0;obtain⟨d,e⟩ :=aAI c hc hr;cases e
 ·rw [aCD c hc]at h0;cases h0
def sM (l:List Oper)(i:Nat) :Option Nat:= (l[i]?).bind (·.dst)
def wZ (l:List Oper)(i:Nat) :Nat:=zZ (bsOf l) i (fX l 0) 0
def bEv (l:List Oper)(i:Nat) :Nat:=aIC ((bsOf l).getD i 0) (fX l 0) 0
structure Trace (P:Program) (call:bP) (l:List Oper) (nt:Nat) (R:Nat→RS) (A:Nat→AV) :Prop where
 step:∀i o,l[i]?=some o→iR (R i).tm nt o.dst (A i) =some (R (i+1)).tm∧RC P call l (tX l i o) (R i) (R (i+1)) (A i)
 chain:chained (bsOf l) (fX l 0) =true
 wok:wOk (bsOf l) l l 0=true
 idOk:∀i o,l[i]?=some o→∀e∈o.after.toList,Region.binds .any e=true→e.on<i
 s0: (R 0).s=0
 st0: (R 0).stages= []
 p0: (R 0).pend= []
 a0: (R 0).again= []
 nx: (R l.length).next≤ (R 0).h.nb
 again:yU P ((R l.length).h:: (R l.length).stages) (R l.length).s (R l.length).again
def bR (l:List Oper)(R:Nat→RS)(k:Nat) :Hp:= (((R l.length).h:: (R l.length).stages)[(R l.length).s-k]?).getD (R 0).h
theorem RC.s {call:bP}{l:List Oper}{p:Plan}{r r':RS}{a:AV}(c:RC P call l p r r' a) :r'.s=if p.kd= .eff then r.s+1 else r.s:=by
 cases c with
 |unwE hw ha hk e=>rw [e,hk];rfl
 |unwF hw ha hk e=>rw [e,hk];rfl
 |unwQ hw ha hk e=>rw [e];rcases hk with hk|hk<;>rw [hk] <;>rfl
 |pure hx hw hk h0 e=>rw [e,hk];rfl
 |read hx hw hk h0 e=>rw [e,hk];rfl
 |own vs hw hk h0 h1 e=>rw [e,hk];rfl
 |fresh ob hw hk h0 e=>rw [e,hk];rfl
 |eff h2 hw hk h0 e=>rw [e,hk];rfl
theorem RC.list {call:bP}{l:List Oper}{p:Plan}{r r':RS}{a:AV}(c:RC P call l p r r' a) :
  (p.kd= .eff∧r'.stages=r.h::r.stages) ∨ (p.kd≠ .eff∧r'.h=r.h∧r'.stages=r.stages) :=by
 cases c with
 |unwE hw ha hk e=>left;rw [e,hk];exact⟨rfl,rfl⟩
 |unwF hw ha hk e=>right;rw [e,hk];exact⟨by decide,rfl,rfl⟩
 |unwQ hw ha hk e=>right;rw [e];rcases hk with hk|hk<;>rw [hk] <;>exact⟨by decide,rfl,rfl⟩
 |pure hx hw hk h0 e=>right;rw [e,hk];exact⟨by decide,rfl,rfl⟩
 |read hx hw hk h0 e=>right;rw [e,hk];exact⟨by decide,rfl,rfl⟩
 |own vs hw hk h0 h1 e=>right;rw [e,hk];exact⟨by decide,rfl,rfl⟩
 |fresh ob hw hk h0 e=>right;rw [e,hk];exact⟨by decide,rfl,rfl⟩
 |eff h2 hw hk h0 e=>left;rw [e,hk];exact⟨rfl,rfl⟩
theorem RC.next {call:bP}{l:List Oper}{p:Plan}{r r':RS}{a:AV}(c:RC P call l p r r' a) :r'.next=if p.kd= .fresh then r.next+1 else r.next:=by
 cases c with
 |unwE hw ha hk e=>rw [e,hk];rfl
 |unwF hw ha hk e=>rw [e,hk];rfl
 |unwQ hw ha hk e=>rw [e];rcases hk with hk|hk<;>rw [hk] <;>rfl
 |pure hx hw hk h0 e=>rw [e,hk];rfl
 |read hx hw hk h0 e=>rw [e,hk];rfl
 |own vs hw hk h0 h1 e=>rw [e,hk];rfl
 |fresh ob hw hk h0 e=>rw [e,hk];rfl
 |eff h2 hw hk h0 e=>rw [e,hk];rfl
theorem RC.pend {call:bP}{l:List Oper}{p:Plan}{r r':RS}{a:AV}(c:RC P call l p r r' a) :
  r'.pend=r.pend∨∃ob,p.kd= .fresh∧bU r.tm l p.o=some true∧oJ P r.tm r.next p.o=some (a,ob) ∧r'.pend= (p.hi,r.next,ob) ::r.pend:=by
 cases c with
 |unwE hw ha hk e=>left;rw [e]
 |unwF hw ha hk e=>left;rw [e]
 |unwQ hw ha hk e=>left;rw [e]
 |pure hx hw hk h0 e=>left;rw [e]
 |read hx hw hk h0 e=>left;rw [e]
 |own vs hw hk h0 h1 e=>left;rw [e]
 |fresh ob hw hk h0 e=>right;rw [e];exact⟨ob,hk,hw,h0,rfl⟩
 |eff h2 hw hk h0 e=>left;rw [e]
theorem RC.again {call:bP}{l:List Oper}{p:Plan}{r r':RS}{a:AV}(c:RC P call l p r r' a) :∀x∈r.again,x∈r'.again:=by
 cases c with
 | read hx hw hk h0 e=>
  rw [e];intro x hx;simp only;cases beq p.lo p.hi with
  |true=>exact hx
  |false=>exact cH _ hx
 |unwE hw ha hk e=>rw [e];exact fun _ h=>h
 |unwF hw ha hk e=>rw [e];exact fun _ h=>h
 |unwQ hw ha hk e=>rw [e];exact fun _ h=>h
 |pure hx hw hk h0 e=>rw [e];exact fun _ h=>h
 |own vs hw hk h0 h1 e=>rw [e];exact fun _ h=>h
 |fresh ob hw hk h0 e=>rw [e];exact fun _ h=>h
 |eff h2 hw hk h0 e=>rw [e];exact fun _ h=>h
section
variable {call :bP} {l:List Oper} {nt:Nat} {R:Nat→RS} {A:Nat→AV}
theorem tZ {i:Nat}{o:Oper}(h:l[i]?=some o) :i<l.length:= (zq0.1 h).1
theorem xA {i:Nat}(h:i<l.length) :∃o,l[i]?=some o:= ⟨_,kR h⟩
theorem aBx (l:List Oper){p q e f:Nat}(hp: (fX l 0)[p]?=some e)(hq: (fX l 0)[q]?=some f) : (p<q↔e<f) :=by
 obtain⟨_,_,h⟩ :=jA l 0;rw [List.pairwise_iff_getElem]at h;obtain⟨hp1,hp2⟩ :=zq0.1 hp;obtain⟨hq1,hq2⟩ :=zq0.1 hq;constructor
 ·intro g;have:=h p q hp1 hq1 g;rw [hp2,hq2]at this;exact this
 · intro g;rcases Nat.lt_trichotomy p q with k|k|k
   ·exact k
   ·subst k;rw [hp]at hq;cases hq;omega
   ·have:=h q p hq1 hp1 k;rw [hp2,hq2]at this;omega
theorem Trace.cnt (T:Trace P call l nt R A) :∀i,i≤l.length→ (R i).s≤ (fX l 0).length∧∀q e,(fX l 0)[q]?=some e→ (q< (R i).s↔e<i)
 |0,_=>by rw [T.s0];exact⟨zero_le _,fun q e _=>by omega⟩
 | i + 1,hi=>by
  obtain⟨h1,h2⟩ :=T.cnt i (by omega);obtain⟨o,ho⟩ :=xA (l:=l) (i:=i) (by omega);have hs:= (T.step i o ho).2.s;by_cases hk:dF o.op= .eff
  · rw [if_pos (show(tX l i o).kd= .eff from hk)]at hs;obtain⟨q,hq⟩ := (jA l 0).2.1 i o ho hk;rw [eM]at hq;have hql:= (zq0.1 hq).1;have hqs: (R i).s=q:=by
     rcases Nat.lt_trichotomy (R i).s q with k|k|k
     · obtain⟨e,he⟩ :∃e,(fX l 0)[(R i).s]?=some e:= ⟨_,kR (by omega)⟩;have:= (aBx l he hq).1 k;have:= (h2 _ _ he).2 this;omega
     ·exact k
     ·have:= (h2 _ _ hq).1 k;omega
    rw [hs,hqs];refine⟨by omega,fun q' e' he'=>?_⟩;have a1:=aBx l he' hq;have a2:=aBx l hq he';constructor
    · intro g;rcases lt_or_ge q' q with k|k
      ·have:=a1.1 k;omega
      · have:q'=q:=by omega
        subst this;rw [hq]at he';cases he';omega
    · intro g;rcases lt_or_ge q q' with k|k
      ·have:=a2.1 k;omega
      ·omega
  · rw [if_neg (show ¬ (tX l i o).kd= .eff from hk)]at hs;rw [hs];refine⟨h1,fun q' e' he'=>?_⟩;rw [h2 _ _ he'];obtain⟨_,_,o',ho',hk'⟩ := (jA l 0).1 q' e' he';have:e'≠i:=fun e=>by subst e;rw [sub_zero]at ho';rw [ho]at ho';cases ho';exact hk hk'
    omega
theorem Trace.sEff (T:Trace P call l nt R A){q e:Nat}(hq: (fX l 0)[q]?=some e) : (R e).s=q∧ (R (e+1)).s=q+1:=by
 obtain⟨_,h2,o,ho,hk⟩ := (jA l 0).1 q e hq;rw [sub_zero]at ho;have hs:= (T.step e o ho).2.s;rw [if_pos (show(tX l e o).kd= .eff from hk)]at hs;obtain⟨a1,a2⟩ :=T.cnt e (by omega);obtain⟨b1,b2⟩ :=T.cnt (e+1) (by omega);have:=a2 q e hq;have:=b2 q e hq;omega
theorem Trace.sEnd (T:Trace P call l nt R A) : (R l.length).s= (fX l 0).length:=by
 obtain⟨a1,a2⟩ :=T.cnt l.length (le_refl _);rcases lt_or_ge (R l.length).s (fX l 0).length with k|k
 · obtain⟨e,he⟩ :∃e,(fX l 0)[(R l.length).s]?=some e:= ⟨_,kR k⟩;obtain⟨_,h2,_⟩ := (jA l 0).1 _ e he;have:= (a2 _ _ he).2 (by omega);omega
 ·omega
theorem Trace.suffix (T:Trace P call l nt R A) :∀d i,i+d=l.length→ (R i).s≤ (R l.length).s∧∃pre,pre.length= (R l.length).s- (R i).s∧ (R l.length).h:: (R l.length).stages=pre++ ((R i).h:: (R i).stages)
 | 0,i,hi=>by
  rw [add_zero]at hi;subst hi;exact⟨le_refl _,[],by simp,rfl⟩
 | d +1,i,hi=>by
  obtain⟨h1,pre,h2,h3⟩ :=T.suffix d (i+1) (by omega);obtain⟨o,ho⟩ :=xA (l:=l) (i:=i) (by omega);have hs:= (T.step i o ho).2.s;rcases(T.step i o ho).2.list with⟨hk,e⟩ | ⟨hk,e1,e2⟩
  · rw [if_pos hk]at hs;refine⟨by omega,pre++ [(R (i+1)).h],by simp;omega,?_⟩;rw [h3,e];simp
  · rw [if_neg hk]at hs;refine⟨by omega,pre,by omega,?_⟩;rw [h3,e1,e2]
theorem Trace.stage (T:Trace P call l nt R A){i:Nat}(hi:i≤l.length) :bR l R (R i).s= (R i).h:=by
 obtain⟨h1,pre,h2,h3⟩ :=T.suffix (l.length-i) i (by omega);unfold bR;rw [h3,←h2,iQ (le_refl _)];simp
theorem Trace.stages_len (T:Trace P call l nt R A) :∀i,i≤l.length→ (R i).stages.length= (R i).s
 |0,_=>by rw [T.st0,T.s0];rfl
 | i+1,hi=>by
  have ih:=T.stages_len i (by omega);obtain⟨o,ho⟩ :=xA (l:=l) (i:=i) (by omega);have hs:= (T.step i o ho).2.s;rcases(T.step i o ho).2.list with⟨hk,e⟩ | ⟨hk,e1,e2⟩
  ·rw [if_pos hk]at hs;rw [e,hs];simp [ih]
  ·rw [if_neg hk]at hs;rw [e2,hs,ih]
theorem Trace.stage_get (T:Trace P call l nt R A){k:Nat}(hk:k≤ (R l.length).s) : ((R l.length).h:: (R l.length).stages)[(R l.length).s-k]?=some (bR l R k) :=by
 have:=T.stages_len _ (le_refl _);unfold bR;rw [kR (by simp;omega)];rfl
theorem Trace.next_mono (T:Trace P call l nt R A) :∀d i,i+d≤l.length→ (R i).next≤ (R (i+d)).next
 |0,i,_=>le_refl _
 | d+1,i,hi=>by
  have ih:=T.next_mono d i (by omega);obtain⟨o,ho⟩ :=xA (l:=l) (i:=i+d) (by omega);have hs:= (T.step _ o ho).2.next
  rw [show i+ (d+1) =i+d+1 by omega,hs];split<;>omega
theorem Trace.next_fresh (T:Trace P call l nt R A){f:Nat}{o:Oper}(ho:l[f]?=some o)(hk:dF o.op= .fresh) : (R (f+1)).next= (R f).next+1:=by
 have:= (T.step _ o ho).2.next
 rw [if_pos (show(tX l f o).kd= .fresh from hk)]at this;exact this
theorem Trace.id_ne (T:Trace P call l nt R A){f g:Nat}{o o':Oper}(ho:l[f]?=some o)(hk:dF o.op= .fresh)(ho':l[g]?=some o')(hk':dF o'.op= .fresh)(hne:f≠g) : (R f).next≠ (R g).next:=by
 have h1:=T.next_fresh ho hk;have h2:=T.next_fresh ho' hk';have hf:=tZ ho;have hg:=tZ ho';rcases lt_or_ge f g with k|k
 · have:=T.next_mono (g- (f+1)) (f+1) (by omega);rw [show f+1+ (g- (f+1)) =g by omega]at this;omega
 · have:=T.next_mono (f- (g+1)) (g+1) (by omega);rw [show g+1+ (f- (g+1)) =f by omega]at this;omega
theorem Trace.id_lt (T:Trace P call l nt R A){f:Nat}{o:Oper}(ho:l[f]?=some o)(hk:dF o.op= .fresh) : (R 0).next≤ (R f).next∧ (R f).next< (R 0).h.nb:=by
 have h1:=T.next_fresh ho hk;have hf:=tZ ho;have h2:=T.next_mono f 0 (by omega);rw [eM]at h2;have h3:=T.next_mono (l.length- (f+1)) (f+1) (by omega);rw [show f+1+ (l.length- (f+1)) =l.length by omega]at h3;have:=T.nx;omega
theorem Trace.pend_mem (T:Trace P call l nt R A) :∀i,i≤l.length→∀k x ob,(k,x,ob) ∈ (R i).pend →
  ∃f o,f<i∧l[f]?=some o∧dF o.op= .fresh∧bU (R f).tm l o=some true∧oJ P (R f).tm (R f).next o=some (A f,ob) ∧k=wZ l f∧x= (R f).next
 |0,_,k,x,ob,h=>by rw [T.p0]at h;cases h
 | i +1,hi,k,x,ob,h=>by
  have ih:=T.pend_mem i (by omega);obtain⟨o,ho⟩ :=xA (l:=l) (i:=i) (by omega)
  have old: (k,x,ob) ∈ (R i).pend→ (∃f o,f<i+1∧l[f]?=some o∧dF o.op= .fresh∧bU (R f).tm l o=some true∧oJ P (R f).tm (R f).next o=some (A f,ob) ∧k=wZ l f∧x= (R f).next) :=fun g=>by
   obtain⟨f,o,h1,h2⟩ :=ih k x ob g;exact⟨f,o,by omega,h2⟩
  rcases(T.step i o ho).2.pend with e| ⟨ob',hk,hw,hf,e⟩
  ·rw [e]at h;exact old h
  · rw [e]at h;cases h with
    |head=>exact⟨i,o,by omega,ho,hk,hw,hf,rfl,rfl⟩
    |tail _ h=>exact old h
theorem Trace.again_mem (T:Trace P call l nt R A) :∀d i,i+d≤l.length→∀x∈ (R i).again,x∈ (R (i+d)).again
 |0,i,_,x,hx=>hx
 | d+1,i,hi,x,hx=>by
  have ih:=T.again_mem d i (by omega) x hx;obtain⟨o,ho⟩ :=xA (l:=l) (i:=i+d) (by omega);exact(T.step _ o ho).2.again x ih
theorem Trace.view (T:Trace P call l nt R A)(t:Nat) :∀i,i≤l.length→ (R i).tm.at t=eN (R 0).tm (sM l) A (fun _=>True) i t
 |0,_=>rfl
 | i +1,hi=>by
  have ih:=T.view t i (by omega);obtain⟨o,ho⟩ :=xA (l:=l) (i:=i) (by omega);have hp:= (T.step _ o ho).1;have hd:sM l i=o.dst:=by simp [sM,ho]
  simp only [eN,hd,true_and];unfold iR at hp;split at hp
  ·rename_i h0;rw [←Option.some.inj hp,h0,if_neg (by simp)];exact ih
  · rename_i d h0;rw [h0];cases hb:blt d nt with
    |false=>rw [hb]at hp;cases hp
    | true=>
     rw [hb]at hp;simp only [cond,Option.some.injEq]at hp;rw [←hp,Go.Hb.T.at_put];by_cases ht:t=d
     ·subst ht;simp
     ·rw [if_neg ht,if_neg (by simpa using fun e=>ht e.symm)];exact ih
theorem Trace.nat_closed (T:Trace P call l nt R A)(i:Nat) :Closed l (· <i) :=fun k o ho hk e he hb=>Nat.lt_trans (T.idOk k o ho e he hb) hk
theorem Trace.window (T:Trace P call l nt R A){D:Nat→Prop}{j i:Nat}{o:Oper}(hD:Closed l D)(hlt:∀i,D i→i<l.length)(hE:∀q e,(fX l 0)[q]?=some e→ (D e↔q<j))(hj:j≤ (fX l 0).length)
  (ho:l[i]?=some o) (hi:¬D i) (hm:Met D o) :bEv l i≤j∧j≤wZ l i:=by
 refine⟨aQ9 _ _ _ _ fun q e he hb=>?_,?_⟩
 · have:=lM hD hlt (i+1) i (by omega) o ho hm e hb;have:= (hE q e he).1 this;omega
 · obtain⟨h1,h2,h3,h4⟩ :=aCC (bsOf l) i (fX l 0) 0;rcases lt_or_ge (wZ l i) j with k|k
   · exfalso;have hl:wZ l i< (fX l 0).length:=by omega
     have hx: (fX l 0)[wZ l i]?=some ((fX l 0)[wZ l i]) :=kR hl;have hb:=h4 _ hx;have hd:= (hE _ _ hx).2 k;obtain⟨oe,hoe⟩ :=xA (hlt _ hd);exact hi (lM hD hlt _ _ (Nat.lt_succ_self _) oe hoe (hD _ _ hoe hd) i hb)
   ·exact k
theorem aOc {f e:Nat}(he: (fX l 0)[wZ l f]?=some e) :testBit ((bsOf l).getD e 0) f=true:=
 (aCC (bsOf l) f (fX l 0) 0).2.2.2 _ he
theorem Trace.before (T:Trace P call l nt R A){q e f:Nat}(he: (fX l 0)[q]?=some e)(hf: (fX l 0)[q+1]?=some f) :testBit ((bsOf l).getD f 0) e=true:=aBw T.chain q e f he hf
theorem memN_spec {t:Nat}:∀ {l:List Nat},wC t l=true↔t∈l
 | [] =>by simp [wC]
 |x::xs=>by simp only [wC,or_eq_true,bM,decide_eq_true_eq,memN_spec (l:=xs),zq7];exact⟨fun h=>h.imp Eq.symm id,fun h=>h.imp Eq.symm id⟩
theorem aFb {bs:List Nat}{i:Nat}{names:List Nat}:∀ {l:List Oper} {k:Nat},aLb bs i names l k=true→∀x o d,l[x]?=some o→o.dst=some d→d∈names →
  k+x=i∨ (k+x<i∧testBit (bs.getD i 0) (k+x) =true) ∨ (i<k+x∧testBit (bs.getD (k+x) 0) i=true)
 | [],k,_,x,o,d,ho,_,_=>by simp at ho
 | y::ys,k,h,x,o,d,ho,hd,hn=>by
  simp only [aLb,cP]at h;cases x with
  | zero=>
   simp at ho;subst ho;have:=h.1;rw [hd]at this;simp only [or_eq_true,not_eq_true',bM,cY,decide_eq_true_eq,cP]at this;rcases this with((g|g) |g) |g
   ·rw [memN_spec.2 hn]at g;cases g
   ·exact .inl g
   ·exact .inr (.inl g)
   ·exact .inr (.inr g)
  | succ x=>
   have:=aFb h.2 x o d (by simpa using ho) hd hn;rwa [show Nat.succ k+x=k+ (x+1)by omega]at this
theorem aLp {bs:List Nat}{ops:List Oper}:∀ {l:List Oper} {k:Nat},wOk bs ops l k=true→∀i o,l[i]?=some o→aLb bs (k+i) (nL ops o) ops 0=true
 | [],k,_,i,o,ho=>by simp at ho
 | y::ys,k,h,i,o,ho=>by
  simp only [wOk,cP]at h;cases i with
  |zero=>simp at ho;subst ho;exact h.1
  | succ i=>
   have:=aLp h.2 i o (by simpa using ho);rwa [show Nat.succ k+i=k+ (i+1)by omega]at this
theorem Trace.writers (T:Trace P call l nt R A){D:Nat→Prop}{i:Nat}{o:Oper}(hD:Closed l D)(hlt:∀i,D i→i<l.length)(ho:l[i]?=some o)(hi:¬D i)(hm:Met D o){t k:Nat}(ht:t∈nL l o)(hk:sM l k=some t) :
  k=i∨ (k<i∧D k) ∨ (i<k∧¬D k) :=by
 unfold sM at hk;cases hok:l[k]? with
 |none=>rw [hok]at hk;cases hk
 | some ok=>
  rw [hok]at hk;have:=aLp T.wok i o ho;rw [eM]at this;have:=aFb this k ok t hok hk ht;rw [eM]at this;rcases this with h1| ⟨h1,h2⟩ | ⟨h1,h2⟩
  ·exact .inl h1
  ·exact .inr (.inl ⟨h1,lM hD hlt (i+1) i (by omega) o ho hm k h2⟩)
  ·refine .inr (.inr ⟨h1,fun hd=>hi (lM hD hlt (k+1) k (by omega) ok hok (hD _ _ hok hd) i h2)⟩)
section
variable {D :Nat→Prop} [DecidablePred D] {i:Nat} {o:Oper}
theorem Trace.view_ready (T:Trace P call l nt R A)(hD:Closed l D)(hlt:∀i,D i→i<l.length)(ho:l[i]?=some o)(hi:¬D i)(hm:Met D o){t:Nat}(ht:t∈nL l o) :
  eN (R 0).tm (sM l) A D l.length t= (R i).tm.at t:=by
 have hil:=tZ ho;rw [T.view t i (by omega),yT (i:=i) (n:=l.length) (by omega) (fun k h1 h2 hk=>?_)]
 · refine tY fun k hk hd=> ⟨fun _=>trivial,fun _=>?_⟩;rcases T.writers hD hlt ho hi hm ht hd with g|g|g
   ·omega
   ·exact g.2
   ·omega
 · rcases T.writers hD hlt ho hi hm ht hk with g|g|g
   ·subst g;exact hi
   ·omega
   ·exact g.2
theorem Trace.view_done (T:Trace P call l nt R A)(hD:Closed l D)(hlt:∀i,D i→i<l.length)(ho:l[i]?=some o)(hi:¬D i)(hm:Met D o)(t:Nat){D':Nat→Prop}[DecidablePred D'](hD':∀k,D' k↔ (D k∨k=i)) :
  eN (R 0).tm (sM l) A D' l.length t=if o.dst=some t then some (A i)else eN (R 0).tm (sM l) A D l.length t:=by
 have hil:=tZ ho;have hd0:sM l i=o.dst:=by simp [sM,ho]
 split
 · rename_i hd;have hn:t∈nL l o:=by simp [nL,hd]
   rw [yT (i:=i+1) (n:=l.length) (by omega) (fun k h1 h2 hk=>?_)]
   · simp only [eN];rw [if_pos ⟨(hD' i).2 (.inr rfl),by rw [hd0];exact hd⟩]
   · rw [hD']
     rintro(g|g)
     · rcases T.writers hD hlt ho hi hm hn hk with g'|g'|g'
       ·omega
       ·omega
       ·exact g'.2 g
     ·omega
 · rename_i hd;refine tY fun k hk hdk=>?_;rw [hD'];constructor
   · rintro(g|g)
     ·exact g
     ·subst g;rw [hd0]at hdk;exact absurd hdk hd
   ·exact .inl
end
end
end
end
end Go.Hb
