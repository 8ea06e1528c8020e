/- A machine on abstract values, its soundness, ways, plain laws. -/
import Derived.Test.YtnljmgihoioocaaGreatHD
set_option linter.defProp false
set_option linter.unusedVariables false
set_option linter.unusedSimpArgs false
set_option linter.unusedSectionVars false
set_option maxRecDepth 100000
namespace Go.Hb
open AV (frzL frzOk keyless keylessL)
open Bool (and_eq_true or_eq_true)
open List (length_cons map_cons mem_append_left mem_append_right mem_cons_of_mem mem_cons_self mem_singleton mem_singleton_self replicate)
open Nat (beq beq_refl ble blt eq_of_beq_eq_true le_refl lt_or_ge)
noncomputable section
section
variable {P :Program}
theorem Rel.reobj {E:Emb}{h:Hp}{H:Array Obj}(r:Rel E h H){k:Nat}{o o':AObj}(hk:h.look k=some o)(hu:jK o=false)(ho:∀L,E k=some L→OR E H L o')
  (h1:bQ o'=bQ o) (h2:hU o'=hU o) (h3:nOf o'=nOf o) (h4:∀L i,Own o' L i→Own o L i:=by exact fun _ _ h=>h) :Rel E (h.set k o') H:=by
 have un:∀ {x ox},(h.set k o').look x=some ox→∃o0,h.look x=some o0∧bQ ox=bQ o0∧hU ox=hU o0∧nOf ox=nOf o0∧∀L i,Own ox L i→Own o0 L i:=fun {x ox} e=>by
  rw [aX]at e;split at e
  ·rename_i hx;cases e;subst hx;exact⟨o,hk,h1,h2,h3,h4⟩
  ·exact⟨ox,e,rfl,rfl,rfl,fun _ _ h=>h⟩
 refine⟨fun x ox e=>?_,fun x y ox oy Lx Ly ex ey kx ky hbl hne=>?_,fun x hx=>r.fresh x hx,r.imm,fun x ox L e kx i hi=>?_,fun x ox e=>?_⟩
 · rw [aX]at e;split at e
   · rename_i hx;cases e;subst hx;obtain⟨L,g1,_⟩ :=r.obj _ _ hk hu;exact .inr ⟨L,g1,ho L g1⟩
   ·exact r.obj0 x ox e
 · obtain⟨o1,a1,a2,a3,a4,a5⟩ :=un ex;obtain⟨o2,b1,b2,b3,b4,b5⟩ :=un ey;obtain⟨i,i1,i2⟩ :=hbl;have:=r.kin x y o1 o2 Lx Ly a1 b1 kx ky ⟨i,a5 _ _ i1,b5 _ _ i2⟩ hne;unfold Kin at this ⊢;rw [a2,a3,a4,b2,b3,b4];exact this
 ·obtain⟨o1,a1,_,_,_,a5⟩ :=un e;exact r.apart x o1 L a1 kx i (a5 _ _ hi)
 ·obtain⟨o1,a1,_⟩ :=un e;exact r.keys x o1 a1
theorem iV {m:Nat}{E E':Emb}{h h1:Hp}{w w':World}(x:ExtM m E h w E' h1 w'){k:Nat}{o o':AObj}(hk:h1.look k=some o)(h4:∀L i,Own o' L i→Own o L i:=by exact fun _ _ h=>h) :ExtM m E h w E' (h1.set k o') w':=by
 have un:∀ {x ox},(h1.set k o').look x=some ox→∃o0,h1.look x=some o0∧∀L i,Own ox L i→Own o0 L i:=fun {x ox} e=>by
  rw [aX]at e;split at e
  ·rename_i hx;cases e;subst hx;exact⟨o,hk,h4⟩
  ·exact⟨ox,e,fun _ _ h=>h⟩
 exact⟨x.low,x.imm,x.size,x.keep,fun b' o' L' e kb i hi hlt=>by obtain⟨o1,a1,a2⟩ :=un e;exact x.own b' o1 L' a1 kb i (a2 _ _ hi) hlt,x.nb,x.os,x.tape,x.output,x.froz,x.immo,fun b o e hb=>by obtain⟨o1,a1,_⟩ :=un e;exact x.keys b o1 a1 hb⟩
theorem iE {m:Nat}{fr:AFrame}{cs:List AFrame}{h h1:Hp}{k o n:Nat}{t:T AV}{ol:List Nat}{sup:Bool}{v v':AV}(hk:h.look k=some (.cells t n ol sup))(hk1:h1.look k=some (.cells t n ol sup))(hv:t.at o=some v)(ht:m≤h.nb→kY m h h1 v v') :
  LeadsM P m ⟨fr,cs,h⟩ ⟨fr,cs,h1.set k (.cells (t.put o v') n ol sup)⟩ :=fun hm E cf ccs w base f fs r=>by
 obtain⟨E',hle,r',x',hvv⟩ :=ht hm E w r;have hr:Rel E' (h1.set k (.cells (t.put o v') n ol sup)) w.heap:=by
  refine r'.reobj hk1 rfl (fun L hL=>?_) rfl rfl rfl;obtain⟨L0,hE,C,el,o1,o2,o3⟩ :=r.obj _ _ hk;have:=hle.1 _ _ hE;rw [hL]at this;cases this;refine⟨C,el,o1,o2,fun i a ha=>?_⟩;rw [T.at_put]at ha;split at ha
  · rename_i hi;cases ha;subst hi;obtain⟨g1,cv,g2,g3⟩ :=o3 _ _ hv;exact⟨g1,cv,g2,hvv cv g3⟩
  · obtain⟨g1,cv,g2,g3⟩ :=o3 i a ha;exact⟨g1,cv,g2,g3.mono hle⟩
 exact⟨E',cf,ccs,w,Steps.refl _ _,f.mono hle,fs.mono hle,hr,iV x' hk1⟩
theorem wY {m:Nat}{h:Hp}{b n c e k:Nat}{x g:Bool}{t:T AV}{cs:List AV}(hb:h.look b=some (.cells t k [] false))(hg:getCells t 0 (n*e) =some cs)(h1:cJ cs=true)(he:g=false→e=1) :
  m≤h.nb→kY m h (h.set b (.lst e (uJ g e n cs))) (.slice b 0 n c e x) (.gl b e 0 n (x&&beq c n)) :=fun hm E w r=>by
 obtain⟨L,hE,C,el,o1,o2,o3⟩ :=r.obj _ _ hb;obtain⟨hcl,hcg⟩ :=mL hg
 have hc:∀j,j<n*e→∃v,C[L.sh+j]?=some v∧∀a,cs[j]?=some a→VR E a v:=fun j hj=>by
  have e1:=hcg j hj;have e2:cs[j]?=some (cs[j]'(by omega)) :=by simp
  rw [e2,Nat.zero_add]at e1;obtain⟨_,v,k1,k2⟩ :=o3 _ _ e1;exact⟨v,k1,fun a ha=>by rw [e2]at ha;cases ha;exact k2⟩
 have hsz:L.sh+n*e≤C.size∨n*e=0:=by
  by_cases h0:n*e=0
  ·exact .inr h0
  · obtain⟨v,k1,_⟩ :=hc (n*e-1) (by omega);have:= (Array.getElem?_eq_some_iff.1 k1).1;exact .inl (by omega)
 let us:= (C.extract L.sh (L.sh+n*e)).toList
 have hul:us.length=n*e:=by simp [us];omega
 have hug:∀j,j<n*e→us[j]?=C[L.sh+j]?:=fun j hj=>by
  simp only [us];rw [Array.getElem?_toList,Array.getElem?_extract,if_pos (by rcases hsz with h|h<;>omega)]
 have hvs:VRs E cs us:=VRs.of_get (by omega) fun i a ha=>by
  have hi:i<n*e:=by have:= (List.getElem?_eq_some_iff.1 ha).1;omega
  obtain⟨v,k1,k2⟩ :=hc i hi;exact⟨v,by rw [hug i hi];exact k1,k2 a ha⟩
 obtain⟨vs,q1,q2,q3,q4⟩ :=vB g he n hvs hul (hvs.ones h1)
 have hob:OR E w.heap L (.lst e (uJ g e n cs)) := ⟨C,el,vs,o1,o2,q1,q4,fun j hj=>by
  rw [q3]at hj;rw [q2,hug j hj]⟩
 obtain⟨s1,s2⟩ :=r.setObj (o':=.lst e (uJ g e n cs)) (.cells C el (0,0)) hb hE rfl rfl (fun H' hH=> ⟨C,el,vs,hH,o2,q1,q4,fun j hj=>by
  rw [q3]at hj;rw [q2,hug j hj]⟩)
 have hp: ({w with heap:=w.heap.setIfInBounds L.blk (.cells C el (0,0))}:World) =w:=pP o1;have hp2:w.heap.setIfInBounds L.blk (.cells C el (0,0)) =w.heap:=congrArg World.heap hp;rw [hp2]at s1;rw [hp]at s2;refine⟨E,Emb.le.refl E,s1,s2.toM hm,fun cv hv=>?_⟩;simp only [VR]at hv ⊢;obtain⟨L',off,cap,hE',rfl,g1,g2,g3,g4,g5⟩ :=hv;rw [hE]at hE';cases hE';refine .inr ⟨L,off,cap,hE,rfl,by omega,fun he=>?_,fun hc0=> ⟨by rw [g4 hc0];omega,g5⟩⟩;simp only [and_eq_true]at he;have:=eq_of_beq_eq_true he.2;have:=g3 he.1;omega
mutual
def AV.ren (τ:Nat→Nat) :AV→AV
 | .ptr b o=>.ptr (τ b) o
 | .slice b o l c e x=>.slice (τ b) o l c e x
 | .map r=>.map (τ r)
 | .func f fs cs=>.func f (AV.renL τ fs) (AV.renL τ cs)
 | .yield l=>.yield (τ l)
 | .meth n r=>.meth n (AV.ren τ r)
 | .via t f p r=>.via t f p (AV.ren τ r)
 | .iface t v=>.iface t (AV.ren τ v)
 | .agg vs=>.agg (AV.renL τ vs)
 | .tup vs=>.tup (AV.renL τ vs)
 | .gl b e o l x=>.gl (τ b) e o l x
 | .ep b e i o=>.ep (τ b) e i o
 |v=>v
def AV.renL (τ:Nat→Nat) :List AV→List AV
 | [] =>[]
 |a::aS=>AV.ren τ a::AV.renL τ aS
end
def Emb.ren (τ:Nat→Nat)(E:Emb) :Emb:= ⟨fun b=>E (τ b),E.imm⟩
mutual
theorem eC (τ:Nat→Nat)(E:Emb) :∀ (v:AV) (cv:Value),VR E (AV.ren τ v) cv↔VR (E.ren τ) v cv
 | .bool _,_=>by simp [AV.ren,VR]
 | .int _ _,_=>by simp [AV.ren,VR]
 | .str _ _,_=>by simp [AV.ren,VR]
 | .ptr _ _,_=>by simp [AV.ren,VR,Emb.ren]
 | .nilp,_=>by simp [AV.ren,VR]
 | .slice ..,_=>by simp [AV.ren,VR,Emb.ren]
 | .nils,_=>by simp [AV.ren,VR]
 | .map _,_=>by simp [AV.ren,VR,Emb.ren]
 | .nilm,_=>by simp [AV.ren,VR]
 | .func f fs cs,_=>by simp only [AV.ren,VR,mM τ E fs,mM τ E cs]
 | .yield _,_=>by simp [AV.ren,VR,Emb.ren]
 | .meth n r,_=>by simp only [AV.ren,VR,eC τ E r]
 | .via _ _ _ r,_=>by simp only [AV.ren,VR,eC τ E r]
 | .nilf,_=>by simp [AV.ren,VR]
 | .iface _ v,_=>by simp only [AV.ren,VR,eC τ E v]
 | .nili,_=>by simp [AV.ren,VR]
 | .agg vs,_=>by simp only [AV.ren,VR,mM τ E vs]
 | .tup vs,_=>by simp only [AV.ren,VR,mM τ E vs]
 | .ilst ..,_=>by simp only [AV.ren,VR];exact Iff.rfl
 | .iptr _,_=>by simp only [AV.ren,VR];exact Iff.rfl
 | .gl ..,_=>by simp [AV.ren,VR,Emb.ren]
 | .ep ..,_=>by simp [AV.ren,VR,Emb.ren]
 | .val _,_=>by simp [AV.ren,VR]
theorem mM (τ:Nat→Nat)(E:Emb) :∀ (vs:List AV) (cvs:List Value),VRs E (AV.renL τ vs) cvs↔VRs (E.ren τ) vs cvs
 | [],_=>by simp [AV.renL,VRs]
 |a::aS,_=>by simp only [AV.renL,VRs,eC τ E a,mM τ E aS]
end
theorem aCE (τ:Nat→Nat) :∀ (xs ys:List AV),AV.renL τ (xs++ys) =AV.renL τ xs++AV.renL τ ys
 | [],_=>rfl
 |x::xs,ys=>by simp [AV.renL,aCE τ xs ys]
theorem aG {α:Type}(f:α→AV)(hf:∀a,keyless (f a) =true) :∀ (l:List α),keylessL (l.map f) =true
 | [] =>rfl
 |a::aS=>by simp [keylessL,hf a,aG f hf aS]
theorem keylessL_mem :∀ {xs:List AV},keylessL xs=true↔∀x∈xs,keyless x=true
 | [] =>by simp [keylessL]
 |x::xs=>by simp [keylessL,keylessL_mem (xs:=xs)]
end
section
variable {P :Program}
theorem mem1 {p:Prop}{ps:List Prop}(h:∀q∈p::ps,q) :p:=h p (mem_cons_self ..)
theorem cM {h:Hp}{tm:T AV}{o:Oper}{out:AOut}(h0:fK P h tm o=none)(h1:vop P h tm o=some out) :jH P h tm o=some out:=by unfold jH;rw [h0];exact h1
theorem sQ {k:IntKind}{n:Int}{len:Nat}(h0:0≤n)(h1:n<len) :gU (.int k n) len=some n.toNat:=by simp [gU,h0,h1]
inductive Ans where
 |idx (y:AV)
 |ix
 |ev (v:AV)
 |look (r:Option (Nat×AV))
 |len (n:Int)
def aHH (z:AV)(ok:Bool)(r:Option (Nat×AV)) :AV:=match r with
 |some (_,v) =>bif ok then .tup [v,.bool true]else v
 |none=>bif ok then .tup [z,.bool false]else z
def qO (P:Program)(h:Hp)(tm:T AV)(o:Oper)(a:Ans) :Option (AV×List Prop) :=
 match a with
 | .idx y=>match o.op with
  | .indexAddr t x i=>match bI tm x,bI tm i with
   |some (.ilst e xs _),some (.int _ n) =>bif yL P t e then some (.iptr y.cells,[0≤n,xs[n.toNat]?=some y])else none
   |_,_=>none
  | .load t a=>match bI tm a with
   | some (.ep b e i k) =>match h.look b with
    | some (.lst e' xs) =>bif beq e' e then match aJM P t (y.cells.drop k)with
     |some v=>some (v,[xs[i]?=some y])
     |none=>none else none
    |_=>none
   |_=>none
  |_=>none
 | .ix=>match o.op with
  | .indexAddr t x i=>match bI tm x,bI tm i with
   |some (.gl b e off len _),some (.int _ n) =>bif yL P t e then some (.ep b e (off+n.toNat) 0,[0≤n,n<len])else none
   |_,_=>none
  |_=>none
 | .ev v=>match o.op with
  | .slice t x lo hi mx=>match bI tm x,oI tm lo,oI tm hi,oI tm mx with
   |some a,some lo,some hi,some mx=>some (v,[∃l u m,fG lo=some l∧fG hi=some u∧fG mx=some m∧ (rV P t a l u m=some v∨ (rV P t a l u m=none∧aBG P t a l u m=some v))])
   |_,_,_,_=>none
  | .binOp op t x y _=>match bI tm x,bI tm y with
   |some a,some b=>some (v,[aYO P op t a b (isLit x) (isLit y) =some v])
   |_,_=>none
  | .index t x i=>match bI tm x,bI tm i with
   | some (.str l n),some (.int _ k) =>match P.underlying t with
    |some .string=>some (v,[0≤k,k<l,.int .u8 (Nat.mod (Nat.div n (Nat.pow 256 k.toNat)) 256) =v])
    |_=>none
   |_,_=>none
  | .convert sr d x=>match bI tm x with
   | some (.slice b off len _ _ _) =>match P.underlying sr,P.underlying d,h.loadN b off len with
    | some (.slice e),some .string,some vs=>match P.underlying e with
     |some (.int .u8) =>some (v,[qW vs=some v])
     |_=>none
    |_,_,_=>none
   |_=>none
  |_=>none
 | .look r=>match o.op with
  | .lookup t x k ok=>match bI tm x,bI tm k with
   | some (.map b),some k=>match P.underlying t,h.look b with
    | some (.map kt et),some (.map es _) =>match P.underlying kt,zeroOf P et with
     |some kd,some z=>bif plainKey kd k then some (aHH z ok r,[oG k es 0=some r])else none
     |_,_=>none
    |_,_=>none
   |_,_=>none
  |_=>none
 | .len n=>match o.op with
  | .call c=>match c.callee,fS tm c.args.toList,c.argTypes[0]? with
   | .builtin .len,some [.ilst _ xs _],some t=>match P.underlying t with
    |some (.slice _) =>some (.int .i64 n,[(xs.length:Int) =n])
    |_=>none
   |_,_,_=>none
  |_=>none
theorem nL {h:Hp}{tm:T AV}{o:Oper}{a:Ans}{v:AV}{ps:List Prop}(h0:qO P h tm o a=some (v,ps))(hp:∀p∈ps,p) :jH P h tm o=some (.val v h) :=by
 cases a with
 | idx y =>
  simp only [qO]at h0;split at h0
  · rename_i t x i hop;split at h0
    · rename_i e xs ex k n hx hi;cases hc:yL P t e
      case false=>rw [hc]at h0;cases h0
      rw [hc]at h0;simp only [cond]at h0;cases h0;have q0:=hp _ (mem_cons_self ..);have q1:=hp _ (mem_cons_of_mem _ (mem_cons_self ..));have hlt:= (List.getElem?_eq_some_iff.1 q1).1;refine cM ?_ ?_
      ·simp only [fK,hop,yU,hx,hi];split<;>simp_all
      ·simp only [vop,hop,yU,hx,hi,hc,cond,sQ q0 (show n< (xs.length:Int)by omega),q1]
    ·cases h0
  · rename_i t a hop;split at h0
    · rename_i b e i k ha;split at h0
      · rename_i e' xs hb;cases hc:beq e' e
        case false=>rw [hc]at h0;cases h0
        rw [hc]at h0;simp only [cond]at h0;split at h0
        · rename_i v' hv;cases h0;have q1:=mem1 hp;refine cM ?_ ?_
          ·simp only [fK,hop,uI,ha]
          ·simp only [vop,hop,uI,ha,hb,hc,cond,q1,val,hv]
        ·cases h0
      ·cases h0
    ·cases h0
  ·cases h0
 | ix =>
  simp only [qO]at h0;split at h0
  · rename_i t x i hop;split at h0
    · rename_i b e off len ex k n hx hi;cases hc:yL P t e
      case false=>rw [hc]at h0;cases h0
      rw [hc]at h0;simp only [cond]at h0;cases h0;have q0:=hp _ (mem_cons_self ..);have q1:=hp _ (mem_cons_of_mem _ (mem_cons_self ..));refine cM ?_ ?_
      ·simp only [fK,hop,yU,hx,hi];split<;>simp_all
      ·simp only [vop,hop,yU,hx,hi,hc,cond,sQ q0 q1]
    ·cases h0
  ·cases h0
 | ev v0 =>
  simp only [qO]at h0;split at h0
  · rename_i t x lo hi mx hop;split at h0
    · rename_i a l1 l2 l3 hx e1 e2 e3;cases h0;obtain⟨l,u,m',d1,d2,d3,d4| ⟨d4,d5⟩⟩ :=mem1 hp
      ·unfold jH;simp only [fK,hop,uI,hx,e1,e2,e3,d1,d2,d3,d4,val]
      · refine cM ?_ ?_
        ·simp only [fK,hop,uI,hx,e1,e2,e3,d1,d2,d3,d4,val]
        ·simp only [vop,hop,uI,hx,e1,e2,e3,d1,d2,d3,d5,val]
    ·cases h0
  · rename_i op t x y yt hop;split at h0
    · rename_i a b hx hy;cases h0;have q:=mem1 hp;unfold jH;simp only [fK,hop,yU,hx,hy,q,val]
    ·cases h0
  · rename_i t x i hop;split at h0
    · rename_i l n kk k hx hi;split at h0
      · rename_i hu;cases h0;have q1:=hp _ (mem_cons_self ..);have q2:=hp _ (mem_cons_of_mem _ (mem_cons_self ..));have q3:=hp _ (mem_cons_of_mem _ (mem_cons_of_mem _ (mem_cons_self ..)));unfold jH;simp only [fK,hop,yU,hx,hi,hu,sQ q1 q2,q3]
      ·cases h0
    ·cases h0
  · rename_i sr d x hop;split at h0
    · rename_i b off len cp ez ex hx;split at h0
      · rename_i e vs hs hd hl;split at h0
        · rename_i hu;cases h0;have q:=mem1 hp;unfold jH;simp only [fK,hop,uI,hx,uM,hs,hd,hl,hu,q,val]
        ·cases h0
      ·cases h0
    ·cases h0
  ·cases h0
 | look r =>
  simp only [qO]at h0;split at h0
  · rename_i t x k ok hop;split at h0
    · rename_i b kv hx hk;split at h0
      · rename_i kt et es clock hu hb;split at h0
        · rename_i kd z hkd hz;cases hc:plainKey kd kv
          case false=>rw [hc]at h0;cases h0
          rw [hc]at h0;simp only [cond]at h0;cases h0;have q:=mem1 hp;unfold jH;simp only [fK,hop,yU,hx,hk,aC9,hu,hkd,hz,hc,cond,hb,q];cases r with
          |none=>cases ok<;>simp [val,aHH]
          |some p=>obtain⟨i,v⟩ :=p;cases ok<;>simp [val,aHH]
        ·cases h0
      ·cases h0
    ·cases h0
  ·cases h0
 | len n =>
  simp only [qO]at h0;split at h0
  · rename_i c hop;split at h0
    · rename_i e xs ex t hcal hargs ht;split at h0
      · rename_i el hu;cases h0;have q:=mem1 hp;subst q;refine cM ?_ ?_
        ·simp only [fK,hop,oK,hargs,hcal,eI,ht,aYP,hu]
        ·simp only [vop,hop,hcal,hargs,ht,hu]
      ·cases h0
    ·cases h0
  ·cases h0
inductive RIns where
 |d
 |b (j:Nat) (v:Bool)
 |pure (v:AV)
 |ans (a:Ans)
 |call (v:AV) (h':Hp)
 |st (y y':AV)
 |app (zs:List AV) (n:Nat)
 |mput (es:List (AV×AV×Nat)) (clock:Nat)
 |mval (v:AV) (es:List (AV×AV×Nat)) (clock:Nat)
 |own (v:AV)
def aHI (P:Program)(h:Hp)(tm:T AV)(o:Oper)(zs:List AV)(n:Nat) :Option (AV×Hp×List Prop) :=
 match o.op with
 | .call c=>match c.callee,fS tm c.args.toList,c.argTypes[0]?,c.argTypes[1]? with
  | .builtin .append,some [d,.ilst e1 ys ex],some st,some xt=>match P.underlying st,P.underlying xt with
   | some (.slice el),some (.slice _) =>match aW P el,P.info? el,zeroOf P el,P.underlying el with
    | some e,some inf,some z,some _=>bif (beq z.cells.length e&&ble e 40&&ble inf.bytes 1000&&ble 1 inf.bytes&&ble 1 e) &&beq e1 e then
      match d with
      | .nils=>some (.gl h.nb e 0 n false,h.new (.lst e zs),[n≤1000000,ys=zs,ys.length=n])
      | .gl b e' off len _=>match h.look b with
       | some (.lst e2 xs) =>bif beq e' e&&beq e2 e then
         some (.gl h.nb e 0 n false,(h.del b).new (.lst e zs),[off+len≤xs.length,n≤1000000,(xs.drop off).take len++ys=zs,len+ys.length=n])else none
       |_=>none
      | .ilst e2 (y::xs) true=>bif beq e2 e then some (.ilst e zs false,h,[keylessL ys=true,(y::xs).length+ys.length≤1000000,y::xs++ys=zs])else none
      |_=>none
      else none
    |_,_,_,_=>none
   |_,_=>none
  |_,_,_,_=>none
 |_=>none
def aHJ (P:Program)(h:Hp)(tm:T AV)(o:Oper)(zs:List AV)(n:Nat) :Option (AV×Hp×List Prop) :=
 match o.op with
 | .call c=>match c.callee,fS tm c.args.toList,c.argTypes[0]?,c.argTypes[1]? with
  | .builtin .append,some [.gl b e' off len _,x],some st,some xt=>match P.underlying st,P.underlying xt with
   | some (.slice el),some (.slice _) =>match aW P el,P.info? el,zeroOf P el with
    | some e,some inf,some z=>bif beq z.cells.length e&&ble e 40&&ble inf.bytes 1000&&ble 1 inf.bytes&&ble 1 e then
      match h.look b,kP P h el e x with
      | some (.lst e2 xs),some ys=>bif beq e' e&&beq e2 e then
         some (.gl h.nb e 0 n false,(h.del b).new (.lst e zs),[off+len≤xs.length,n≤1000000,(xs.drop off).take len++ys=zs,len+ys.length=n])else none
      |_,_=>none
      else none
    |_,_,_=>none
   |_,_=>none
  |_,_,_,_=>none
 |_=>none
def aHK (P:Program)(h:Hp)(tm:T AV)(o:Oper)(zs:List AV)(n:Nat) :Option (AV×Hp×List Prop) :=
 match o.op with
 | .call c=>match c.callee,fS tm c.args.toList,c.argTypes[0]?,c.argTypes[1]? with
  | .builtin .append,some [d,.gl b2 e1 off2 len2 _],some st,some xt=>match P.underlying st,P.underlying xt with
   | some (.slice el),some (.slice _) =>match aW P el,P.info? el,zeroOf P el,P.underlying el,h.look b2 with
    | some e,some inf,some z,some _,some (.lst e3 ys) =>bif (beq z.cells.length e&&ble e 40&&ble inf.bytes 1000&&ble 1 inf.bytes&&ble 1 e) && (beq e1 e&&beq e3 e)then
      match d with
      | .nils=>some (.gl h.nb e 0 n false,h.new (.lst e zs),[off2+len2≤ys.length,n≤1000000,(ys.drop off2).take len2=zs,len2=n])
      | .gl b e' off len _=>match h.look b with
       | some (.lst e2 xs) =>bif beq e' e&&beq e2 e then
         some (.gl h.nb e 0 n false,(h.del b).new (.lst e zs),[off2+len2≤ys.length,off+len≤xs.length,n≤1000000,(xs.drop off).take len++ (ys.drop off2).take len2=zs,len+len2=n])else none
       |_=>none
      |_=>none
      else none
    |_,_,_,_,_=>none
   |_,_=>none
  |_,_,_,_=>none
 |_=>none
def aHL (P:Program)(h:Hp)(tm:T AV)(o:Oper)(zs:List AV)(n:Nat) :Option (AV×Hp×List Prop) :=
 match o.op with
 | .call c=>match c.callee,fS tm c.args.toList,c.argTypes[0]?,c.argTypes[1]? with
  | .builtin .append,some [.nils,.int .i64 k],some st,some xt=>match P.underlying st,P.underlying xt with
   | some (.slice el),some (.int _) =>match aW P el,P.info? el,zeroOf P el with
    | some e,some inf,some z=>bif beq z.cells.length e&&ble e 40&&ble inf.bytes 1000&&ble 1 inf.bytes&&ble 1 e then
      some (.slice h.nb 0 n n e false,h.newCells zs,[k= (n:Int),0<n,n<100000,kO z.cells n=zs,cJ zs=true])else none
    |_,_,_=>none
   |_,_=>none
  |_,_,_,_=>none
 |_=>none
def aHM (P:Program)(h:Hp)(tm:T AV)(o:Oper)(zs:List AV)(n:Nat) :Option (AV×Hp×List Prop) :=
 match aHI P h tm o zs n with
 |some r=>some r
 | none=>match aHK P h tm o zs n with
  |some r=>some r
  | none=>match aHJ P h tm o zs n with
   |some r=>some r
   |none=>aHL P h tm o zs n
theorem aTA {h:Hp}{ats:Array TypeId}{e:TypeId}{sz:Nat}{b e1 off len:Nat}{ex:Bool}:aAx P h ats e sz (.gl b e1 off len ex) =none:=by
 unfold aAx;split
 ·rfl
 ·split<;>simp_all
theorem vT {h:Hp}{ats:Array TypeId}{s:AV}{b e1 off len:Nat}{ex:Bool}:aappend P h ats s (.gl b e1 off len ex) =none:=by
 unfold aappend;simp only [aTA]
 repeat' split
 all_goals first|rfl| (simp_all;done)
theorem aFW {h:Hp}{ats:Array TypeId}{b e off len:Nat}{ex:Bool}{x:AV}:aappend P h ats (.gl b e off len ex) x=none:=by
 unfold aappend;simp only [cond_eq_ite]
 repeat' split
 all_goals first|rfl| (split<;>rfl)
theorem aMZ {h:Hp}{ats:Array TypeId}{e:TypeId}{sz e1:Nat}{ys:List AV}{ex:Bool}:aAx P h ats e sz (.ilst e1 ys ex) =none:=by
 unfold aAx;split
 ·rfl
 ·split<;>simp_all
theorem nE {h:Hp}{ats:Array TypeId}{s:AV}{e1:Nat}{ys:List AV}{ex:Bool}:aappend P h ats s (.ilst e1 ys ex) =none:=by
 unfold aappend;simp only [aMZ]
 repeat' split
 all_goals first|rfl| (simp_all;done)
theorem aFX {h h':Hp}{tm:T AV}{o:Oper}{zs:List AV}{n:Nat}{v:AV}{ps:List Prop}(h0:aHI P h tm o zs n=some (v,h',ps))(hp:∀p∈ps,p) :jH P h tm o=some (.val v h') :=by
 unfold aHI at h0;split at h0
 · rename_i c hop;split at h0
   · rename_i d e1 ys ex st xt hcal hargs hst hxt;split at h0
     · rename_i el el' hu hu';split at h0
       · rename_i e inf z dd hsz hinf hz hd;cases hc: (beq z.cells.length e&&ble e 40&&ble inf.bytes 1000&&ble 1 inf.bytes&&ble 1 e)
         case false=>rw [hc]at h0;cases h0
         cases he:beq e1 e
         case false=>rw [hc,he]at h0;cases h0
         rw [hc,he]at h0;simp only [Bool.and_true,cond]at h0;have hadd:kP P h el e (.ilst e1 ys ex) =some ys:=by
          simp only [kP,hd,he,cond]
         split at h0
         · cases h0;have q0:=hp _ (mem_cons_self ..);have q1:=hp _ (mem_cons_of_mem _ (mem_cons_self ..));have q2:=hp _ (mem_cons_of_mem _ (mem_cons_of_mem _ (mem_cons_self ..)));subst q1;subst q2;refine cM ?_ ?_
           ·simp only [fK,hop,oK,hargs,hcal,eI,nE]
           · simp only [vop,hop,hcal,hargs,jO,hst,hxt,hu,hu',hsz,hinf,hz,hadd,hc,cond,zO];rw [if_pos q0]
         · rename_i b e' off len ex';split at h0
           · rename_i e2 xs hb;cases hc2: (beq e' e&&beq e2 e)
             case false=>rw [hc2]at h0;cases h0
             rw [hc2]at h0;simp only at h0;cases h0;simp only [and_eq_true]at hc2;have ee1:=eq_of_beq_eq_true hc2.1;have ee2:=eq_of_beq_eq_true hc2.2;have y2:=hp _ (mem_cons_self ..);have y3:=hp _ (mem_cons_of_mem _ (mem_cons_self ..));have y4:=hp _ (mem_cons_of_mem _ (mem_cons_of_mem _ (mem_cons_self ..)));have y5:=hp _ (mem_cons_of_mem _ (mem_cons_of_mem _ (mem_cons_of_mem _ (mem_cons_self ..))));subst y4 y5;refine cM ?_ ?_
             ·simp only [fK,hop,oK,hargs,hcal,eI,nE]
             · simp only [vop,hop,hcal,hargs,jO,hst,hxt,hu,hu',hsz,hinf,hz,hadd,hc,cond,hb,zO];rw [if_pos ⟨ee1,ee2,y2,y3⟩]
           ·cases h0
         · rename_i e2 y xs;cases he2:beq e2 e
           case false=>rw [he2]at h0;cases h0
           rw [he2]at h0;simp only [cond]at h0;cases h0;have q0:=hp _ (mem_cons_self ..);have q1:=hp _ (mem_cons_of_mem _ (mem_cons_self ..));have q2:=hp _ (mem_cons_of_mem _ (mem_cons_of_mem _ (mem_cons_self ..)));subst q2;refine cM ?_ ?_
           ·simp only [fK,hop,oK,hargs,hcal,eI,nE]
           · simp only [vop,hop,hcal,hargs,jO,hst,hxt,hu,hu',hsz,hinf,hz,hadd,hc,cond,zO];rw [if_pos ⟨eq_of_beq_eq_true he2,q0,q1⟩]
         ·cases h0
       ·cases h0
     ·cases h0
   ·cases h0
 ·cases h0
theorem aFY {h h':Hp}{tm:T AV}{o:Oper}{zs:List AV}{n:Nat}{v:AV}{ps:List Prop}(h0:aHJ P h tm o zs n=some (v,h',ps))(hp:∀p∈ps,p) :jH P h tm o=some (.val v h') :=by
 unfold aHJ at h0;split at h0
 · rename_i c hop;split at h0
   · rename_i b e' off len ex x st xt hcal hargs hst hxt;split at h0
     · rename_i el el' hu hu';split at h0
       · rename_i e inf z hsz hinf hz;cases hc: (beq z.cells.length e&&ble e 40&&ble inf.bytes 1000&&ble 1 inf.bytes&&ble 1 e)
         case false=>rw [hc]at h0;cases h0
         rw [hc]at h0;simp only [cond]at h0;split at h0
         · rename_i e2 xs ys hb hadd;cases hc2: (beq e' e&&beq e2 e)
           case false=>rw [hc2]at h0;cases h0
           rw [hc2]at h0;simp only at h0;cases h0;simp only [and_eq_true]at hc2;have ee1:=eq_of_beq_eq_true hc2.1;have ee2:=eq_of_beq_eq_true hc2.2;have y2:=hp _ (mem_cons_self ..);have y3:=hp _ (mem_cons_of_mem _ (mem_cons_self ..));have y4:=hp _ (mem_cons_of_mem _ (mem_cons_of_mem _ (mem_cons_self ..)));have y5:=hp _ (mem_cons_of_mem _ (mem_cons_of_mem _ (mem_cons_of_mem _ (mem_cons_self ..))));subst y4 y5;refine cM ?_ ?_
           ·simp only [fK,hop,oK,hargs,hcal,eI,aFW]
           · simp only [vop,hop,hcal,hargs,jO,hst,hxt,hu,hu',hsz,hinf,hz,hadd,hc,cond,hb,zO];rw [if_pos ⟨ee1,ee2,y2,y3⟩]
         ·cases h0
       ·cases h0
     ·cases h0
   ·cases h0
 ·cases h0
theorem aFZ {h h':Hp}{tm:T AV}{o:Oper}{zs:List AV}{n:Nat}{v:AV}{ps:List Prop}(h0:aHK P h tm o zs n=some (v,h',ps))(hp:∀p∈ps,p) :jH P h tm o=some (.val v h') :=by
 unfold aHK at h0;split at h0
 · rename_i c hop;split at h0
   · rename_i d b2 e1 off2 len2 ex st xt hcal hargs hst hxt;split at h0
     · rename_i el el' hu hu';split at h0
       · rename_i e inf z dd e3 ys hsz hinf hz hd hb2;cases hc: (beq z.cells.length e&&ble e 40&&ble inf.bytes 1000&&ble 1 inf.bytes&&ble 1 e)
         case false=>rw [hc]at h0;cases h0
         cases hc1: (beq e1 e&&beq e3 e)
         case false=>rw [hc,hc1]at h0;cases h0
         rw [hc,hc1]at h0;simp only [Bool.and_self,cond]at h0;simp only [and_eq_true]at hc1;have f1:=eq_of_beq_eq_true hc1.1;have f2:=eq_of_beq_eq_true hc1.2;split at h0
         · cases h0;have y1:=hp _ (mem_cons_self ..);have y2:=hp _ (mem_cons_of_mem _ (mem_cons_self ..));have y3:=hp _ (mem_cons_of_mem _ (mem_cons_of_mem _ (mem_cons_self ..)));have y4:=hp _ (mem_cons_of_mem _ (mem_cons_of_mem _ (mem_cons_of_mem _ (mem_cons_self ..))));have y5: ((ys.drop off2).take len2).length=n:=by simp;omega
           subst y3;refine cM ?_ ?_
           ·simp only [fK,hop,oK,hargs,hcal,eI,vT]
           · have ha:kP P h el e (.gl b2 e1 off2 len2 ex) =some ((ys.drop off2).take len2) :=by
              unfold kP;subst f1 f2;simp only [hd,hb2,beq_refl,cond];rw [if_pos ⟨trivial,y1⟩]
             simp only [vop,hop,hcal,hargs,jO,hst,hxt,hu,hu',hsz,hinf,hz,ha,hc,cond,zO];rw [if_pos (by omega),y5]
         · rename_i b e' off len ex2;split at h0
           · rename_i e2 xs hb;cases hc2: (beq e' e&&beq e2 e)
             case false=>rw [hc2]at h0;cases h0
             rw [hc2]at h0;simp only at h0;cases h0;simp only [and_eq_true]at hc2;have ee1:=eq_of_beq_eq_true hc2.1;have ee2:=eq_of_beq_eq_true hc2.2;have y1:=hp _ (mem_cons_self ..);have y2:=hp _ (mem_cons_of_mem _ (mem_cons_self ..));have y3:=hp _ (mem_cons_of_mem _ (mem_cons_of_mem _ (mem_cons_self ..)));have y4:=hp _ (mem_cons_of_mem _ (mem_cons_of_mem _ (mem_cons_of_mem _ (mem_cons_self ..))));have y5:=hp _ (mem_cons_of_mem _ (mem_cons_of_mem _ (mem_cons_of_mem _ (mem_cons_of_mem _ (mem_cons_self ..)))));have y6: ((ys.drop off2).take len2).length=len2:=by simp;omega
             subst y4;refine cM ?_ ?_
             ·simp only [fK,hop,oK,hargs,hcal,eI,vT]
             · have ha:kP P h el e (.gl b2 e1 off2 len2 ex) =some ((ys.drop off2).take len2) :=by
                unfold kP;subst f1 f2;simp only [hd,hb2,beq_refl,cond];rw [if_pos ⟨trivial,y1⟩]
               simp only [vop,hop,hcal,hargs,jO,hst,hxt,hu,hu',hsz,hinf,hz,ha,hc,cond,hb,zO];rw [if_pos ⟨ee1,ee2,y2,by omega⟩,y6,y5]
           ·cases h0
         ·cases h0
       ·cases h0
     ·cases h0
   ·cases h0
 ·cases h0
theorem aF0 {h h':Hp}{tm:T AV}{o:Oper}{zs:List AV}{n:Nat}{v:AV}{ps:List Prop}(h0:aHL P h tm o zs n=some (v,h',ps))(hp:∀p∈ps,p) :jH P h tm o=some (.val v h') :=by
 unfold aHL at h0;split at h0
 · rename_i c hop;split at h0
   · rename_i k st xt hcal hargs hst hxt;split at h0
     · rename_i el kk hu hu';split at h0
       · rename_i e inf z hsz hinf hz;cases hc: (beq z.cells.length e&&ble e 40&&ble inf.bytes 1000&&ble 1 inf.bytes&&ble 1 e)
         case false=>rw [hc]at h0;cases h0
         rw [hc]at h0;simp only [cond]at h0;cases h0;have y1:=hp _ (mem_cons_self ..);have y2:=hp _ (mem_cons_of_mem _ (mem_cons_self ..));have y3:=hp _ (mem_cons_of_mem _ (mem_cons_of_mem _ (mem_cons_self ..)));have y4:=hp _ (mem_cons_of_mem _ (mem_cons_of_mem _ (mem_cons_of_mem _ (mem_cons_self ..))));have y5:=hp _ (mem_cons_of_mem _ (mem_cons_of_mem _ (mem_cons_of_mem _ (mem_cons_of_mem _ (mem_cons_self ..)))));subst y1 y4;have hc':=hc;simp only [and_eq_true]at hc';obtain⟨⟨⟨⟨c1,c2⟩,c3⟩,c4⟩,c5⟩ :=hc';have he:beq e 0=false:=by
          have:=Nat.le_of_ble_eq_true c5;cases q:beq e 0
          case false=>rfl
          have:=eq_of_beq_eq_true q;omega
         have hadd:aAx P h c.argTypes el e (.int .i64 (n:Int)) =some (kO z.cells n,n) :=by
          unfold aAx;rw [hxt];simp only [hu',hz];rw [if_pos ⟨by omega,by omega⟩];simp only [c1,he,Bool.not_false,Bool.and_true,cond,Int.toNat_natCast]
         have hn:beq n 0=false:=by
          cases q:beq n 0
          case false=>rfl
          have:=eq_of_beq_eq_true q;omega
         have hb:ble n 1000000=true:=Nat.ble_eq_true_of_le (by omega);unfold jH;have:fK P h tm o=some (.val (.slice h.nb 0 n n e false) (h.newCells (kO z.cells n))) :=by
          simp only [fK,hop,oK,hargs,hcal,eI,aappend,hst,hu,hsz,hinf,hz,hadd,c1,c2,c3,c4,c5,y5,hb,hn,Bool.and_self,cond]
         rw [this]
       ·cases h0
     ·cases h0
   ·cases h0
 ·cases h0
theorem aAS {h h':Hp}{tm:T AV}{o:Oper}{zs:List AV}{n:Nat}{v:AV}{ps:List Prop}(h0:aHM P h tm o zs n=some (v,h',ps))(hp:∀p∈ps,p) :jH P h tm o=some (.val v h') :=by
 unfold aHM at h0;split at h0
 ·rename_i r hr;cases h0;exact aFX hr hp
 · split at h0
   ·rename_i r hr;cases h0;exact aFZ hr hp
   · split at h0
     ·rename_i r hr;cases h0;exact aFY hr hp
     ·exact aF0 h0 hp
def zX (es:List (AV×AV×Nat))(clock:Nat)(k v:AV) :Option (List (AV×AV×Nat) ×Nat) :=
 match oG k es 0 with
 |some (some (i,_)) =>some (setE k v es i,clock)
 |some none=>some (es++ [(k,v,clock)],Nat.succ clock)
 |none=>none
def aM0 (P:Program)(h:Hp)(tm:T AV)(o:Oper)(es':List (AV×AV×Nat))(clock':Nat) :Option (Hp×List Prop) :=
 match o.op with
 | .mapUpdate t m k x=>match bI tm m,bI tm k,bI tm x with
  | some (.map r),some kv,some v=>match P.underlying t,h.look r with
   | some (.map kt _),some (.map es clock) =>match P.underlying kt with
    |some kd=>bif plainKey kd kv then some (h.set r (.map es' clock'),[zX es clock kv v=some (es',clock')])else none
    |none=>none
   |_,_=>none
  |_,_,_=>none
 |_=>none
theorem aHN {h h':Hp}{tm:T AV}{o:Oper}{es':List (AV×AV×Nat)}{clock':Nat}{ps:List Prop}(h0:aM0 P h tm o es' clock'=some (h',ps))(hp:∀p∈ps,p) :jH P h tm o=some (.val .undef h') :=by
 unfold aM0 at h0;split at h0
 · rename_i t m k x hop;split at h0
   · rename_i r kv v hm hk hx;split at h0
     · rename_i kt et es clock hu hb;split at h0
       · rename_i kd hkd;cases hc:plainKey kd kv
         case false=>rw [hc]at h0;cases h0
         rw [hc]at h0;simp only [cond]at h0;cases h0;have q:=hp _ (mem_cons_self ..);unfold zX at q;unfold jH;simp only [fK,hop,yU,uI,hm,hk,hx,oH,hu,hkd,hb,hc,cond];split at q
         · rename_i i w hfk;cases q;simp only [hfk,yT]
         · rename_i hfk;cases q;simp only [hfk,yT]
         ·cases q
       ·cases h0
     ·cases h0
   ·cases h0
 ·cases h0
def aTB (es:List (AV×AV×Nat))(clock:Nat)(k z:AV) :Option (AV×List (AV×AV×Nat) ×Nat) :=
 match oG k es 0 with
 |some (some (i,v)) =>some (.tup [v,.int .i64 (aDQ es i)],setE k v es i,clock)
 |some none=>some (.tup [z,.int .i64 clock],es++ [(k,z,clock)],Nat.succ clock)
 |none=>none
def aM1 (P:Program)(h:Hp)(tm:T AV)(o:Oper)(v:AV)(es':List (AV×AV×Nat))(clock':Nat) :Option (Hp×List Prop) :=
 match o.op with
 | .mapEntry t m k=>match bI tm m,bI tm k with
  | some (.map r),some kv=>match P.underlying t,h.look r with
   | some (.map kt et),some (.map es clock) =>match P.underlying kt,zeroOf P et with
    |some kd,some z=>bif plainKey kd kv then some (h.set r (.map es' clock'),[aTB es clock kv z=some (v,es',clock')])else none
    |_,_=>none
   |_,_=>none
  |_,_=>none
 | .entryStore _ m s x=>match bI tm m,bI tm s,bI tm x with
  | some (.map r),some (.int _ n),some xv=>match h.look r with
   |some (.map es clock) =>some (h.set r (.map es' clock'),[0≤n,wP xv n.toNat es=some es',clock=clock',v= .undef])
   |_=>none
  |_,_,_=>none
 |_=>none
theorem aHO {h h':Hp}{tm:T AV}{o:Oper}{v:AV}{es':List (AV×AV×Nat)}{clock':Nat}{ps:List Prop}(h0:aM1 P h tm o v es' clock'=some (h',ps))(hp:∀p∈ps,p) :jH P h tm o=some (.val v h') :=by
 unfold aM1 at h0;split at h0
 · rename_i t m k hop;split at h0
   · rename_i r kv hm hk;split at h0
     · rename_i kt et es clock hu hb;split at h0
       · rename_i kd z hkd hz;cases hc:plainKey kd kv
         case false=>rw [hc]at h0;cases h0
         rw [hc]at h0;simp only [cond]at h0;cases h0;have q:=hp _ (mem_cons_self ..);unfold aTB at q;unfold jH;simp only [fK,hop,yU,uI,hm,hk,wQ,hu,hkd,hb,hz,hc,cond];split at q
         · rename_i i w hfk;cases q;simp only [hfk,zO]
         · rename_i hfk;cases q;simp only [hfk,zO]
         ·cases q
       ·cases h0
     ·cases h0
   ·cases h0
 · rename_i t m s x hop;split at h0
   · rename_i r kk n xv hm hs hx;split at h0
     · rename_i es clock hb;cases h0;have q0:=hp _ (mem_cons_self ..);have q1:=hp _ (mem_cons_of_mem _ (mem_cons_self ..));have q2:=hp _ (mem_cons_of_mem _ (mem_cons_of_mem _ (mem_cons_self ..)));have q3:=hp _ (mem_cons_of_mem _ (mem_cons_of_mem _ (mem_cons_of_mem _ (mem_cons_self ..))));subst q2 q3;unfold jH;simp only [fK,hop,yU,uI,hm,hs,hx,pN];rw [if_pos q0];simp only [hb,q1,yT]
     ·cases h0
   ·cases h0
 ·cases h0
def aTC (P:Program)(h:Hp)(tm:T AV)(o:Oper)(y y':AV) :Option (Hp×List Prop) :=
 match o.op with
 | .store t a x=>match bI tm a,bI tm x with
  | some (.ep b e i k),some v=>match h.look b,aW P t with
   | some (.lst e' xs),some n=>bif beq e' e&&beq v.cells.length n&&ble (k+n) e&&cJ v.cells then
     some (h.set b (.lst e (xs.set i y')),[xs[i]?=some y,jM y k v.cells=some y'])else none
   |_,_=>none
  |_,_=>none
 |_=>none
theorem aJ3 {h h':Hp}{tm:T AV}{o:Oper}{y y':AV}{ps:List Prop}(h0:aTC P h tm o y y'=some (h',ps))(hp:∀p∈ps,p) :jH P h tm o=some (.val .undef h') :=by
 unfold aTC at h0;split at h0
 · rename_i t a x hop;split at h0
   · rename_i b e i k v ha hx;split at h0
     · rename_i e' xs n hb hn;cases hc: (beq e' e&&beq v.cells.length n&&ble (k+n) e&&cJ v.cells)
       case false=>rw [hc]at h0;cases h0
       rw [hc]at h0;simp only [cond]at h0;cases h0;have q0:=hp _ (mem_cons_self ..);have q1:=hp _ (mem_cons_of_mem _ (mem_cons_self ..));refine cM ?_ ?_
       ·simp only [fK,hop,yU,ha,hx]
       ·simp only [vop,hop,yU,ha,hx,hb,hn,hc,cond,q0,q1]
     ·cases h0
   ·cases h0
 ·cases h0
abbrev Rec :=Nat×AIn×Hp×AV×Hp
theorem sR {α:Type}{v:α}:∀ (f k:Nat) (t:T α),1≤k→k<2 ^ f→t.get k=some v→T.setF (some v) f k t=t
 |0,k,t,h1,h2,_=>by simp at h2;omega
 |f+1,k,.leaf,_,_,h=>by cases h
 | f +1,k,.node l u r,h1,h2,h=>by
  rw [T.setF_node];rw [T.get_node]at h;have h2':k / 2<2 ^ f:=by rw [Nat.pow_succ]at h2;omega
  by_cases hk:k=1
  ·rw [if_pos hk]at h ⊢;rw [h]
  · rw [if_neg hk]at h ⊢;by_cases hm:k % 2=0
    ·rw [if_pos hm]at h ⊢;rw [sR f (k / 2) l (by omega) h2' h]
    ·rw [if_neg hm]at h ⊢;rw [sR f (k / 2) r (by omega) h2' h]
theorem put_eq {α:Type}{t:T α}{k:Nat}{v:α}(h:t.at k=some v) :t.put k v=t:=
 sR _ _ t (by simp) (by have:=zR (k+1);simpa using this) h
def eQ (P:Program)(nt:Nat)(ops:List Oper)(p:Plan)(i:RIns)(r:RS) :Option (RS×List Prop×List Rec) :=
 match i with
 | .d=>match kS P oQ nt ops p r with
  |some r'=>some (r',[],[])
  |none=>none
 | .b _ _=>none
 | .pure v=>match bP r.tm ops p.o,p.kd with
  | some true,.eff=>
   match jH P (aM r.h r.s r.pend) r.tm p.o with
   | some (.call (.enter f args)) =>match gG r.tm nt p.o.dst v with
    |some tm=>some ({r with tm,h:=aM r.h r.s r.pend,stages:=r.h::r.stages,s:=Nat.succ r.s},[aJ P f args v],[(r.s,.enter f args,aM r.h r.s r.pend,v,aM r.h r.s r.pend)])
    |none=>none
   |_=>none
  |_,_=>none
 | .ans a=>match bP r.tm ops p.o,p.kd with
  | some true,.pure=>match qO P r.h r.tm p.o a with
   | some (v,ps) =>match gG r.tm nt p.o.dst v with
    |some tm=>some ({r with tm},ps,[])
    |none=>none
   |none=>none
  | some true,.read=>match qO P r.h r.tm p.o a with
   | some (v,ps) =>match gG r.tm nt p.o.dst v with
    |some tm=>some ({r with tm,again:=bif beq p.lo p.hi then r.again else⟨p.o,r.tm,p.lo,p.hi,v⟩ ::r.again},ps,[])
    |none=>none
   |none=>none
  |_,_=>none
 | .call v h'=>match bP r.tm ops p.o,p.kd with
  | some true,.eff=>
   match jH P (aM r.h r.s r.pend) r.tm p.o with
   | some (.call c) =>match gG r.tm nt p.o.dst v with
    |some tm=>some ({r with tm,h:=h',stages:=r.h::r.stages,s:=Nat.succ r.s},[Spec P c (aM r.h r.s r.pend) (.ret v) h'],[(r.s,c,aM r.h r.s r.pend,v,h')])
    |none=>none
   |_=>none
  |_,_=>none
 | .st y y'=>match bP r.tm ops p.o,p.kd with
  | some true,.eff=>
   match aTC P (aM r.h r.s r.pend) r.tm p.o y y' with
   | some (h',ps) =>match gG r.tm nt p.o.dst .undef with
    |some tm=>some ({r with tm,h:=h',stages:=r.h::r.stages,s:=Nat.succ r.s},ps,[])
    |none=>none
   |none=>none
  |_,_=>none
 | .mput es c=>match bP r.tm ops p.o,p.kd with
  | some true,.eff=>
   match aM0 P (aM r.h r.s r.pend) r.tm p.o es c with
   | some (h',ps) =>match gG r.tm nt p.o.dst .undef with
    |some tm=>some ({r with tm,h:=h',stages:=r.h::r.stages,s:=Nat.succ r.s},ps,[])
    |none=>none
   |none=>none
  |_,_=>none
 | .mval v es c=>match bP r.tm ops p.o,p.kd with
  | some true,.eff=>
   match aM1 P (aM r.h r.s r.pend) r.tm p.o v es c with
   | some (h',ps) =>match gG r.tm nt p.o.dst v with
    |some tm=>some ({r with tm,h:=h',stages:=r.h::r.stages,s:=Nat.succ r.s},ps,[])
    |none=>none
   |none=>none
  |_,_=>none
 | .app zs n=>match bP r.tm ops p.o,p.kd with
  | some true,.eff=>
   match aHM P (aM r.h r.s r.pend) r.tm p.o zs n with
   | some (v,h',ps) =>match gG r.tm nt p.o.dst v with
    |some tm=>some ({r with tm,h:=h',stages:=r.h::r.stages,s:=Nat.succ r.s},ps,[])
    |none=>none
   |none=>none
  |_,_=>none
 | .own v=>match bP r.tm ops p.o,p.kd with
  | some true,.read=>
   match jH P r.h r.tm p.o,qX P r.tm r.pend p.hi p.o with
   | none,some vs=>match gG r.tm nt p.o.dst v with
    |some tm=>some ({r with tm},[qW vs=some v],[])
    |none=>none
   |_,_=>none
  |_,_=>none
def fW (P:Program)(nt:Nat)(ops:List Oper) :List RIns→List Plan→RS→Option (RS×List Prop×List Rec)
 | [],[],r=>some (r,[],[])
 | .b j v::is,ps,r=>match r.tm.at j with
  | some (.bool b) =>match fW P nt ops is ps {r with tm:=r.tm.put j (.bool v)} with
   |some (r',qs,rs) =>some (r',(b=v) ::qs,rs)
   |none=>none
  |_=>none
 | i::is,p::ps,r=>match eQ P nt ops p i r with
  |none=>none
  | some (r1,qs,rs) =>match fW P nt ops is ps r1 with
   |none=>none
   |some (r2,qs2,rs2) =>some (r2,qs++qs2,rs++rs2)
 |_,_,_=>none
def keysOf :List Rec→List Nat
 | [] =>[]
 |r::rs=>r.1::keysOf rs
def aEi :List Nat→Bool
 | [] =>true
 |k::ks=> !(yN k ks) &&aEi ks
def aHP (P:Program)(a:Again)(h:Hp) :Option Ans→List Prop
 | none=>[match jH P h a.tm a.o with
  |some (.val v _) =>v=a.v
  |_=>False]
 | some an=>match qO P h a.tm a.o an with
  |some (v,ps) => (v=a.v) ::ps
  |none=>[False]
def kM (P:Program)(a:Again)(oa:Option Ans) :List Hp→Nat→List Prop
 | [],_=>[]
 | h::hs,k=>bif ble a.lo k&&ble k a.hi then aHP P a h oa++kM P a oa hs (k-1)
  else kM P a oa hs (k-1)
def wZ (P:Program)(hs:List Hp)(k:Nat) :List Again→List (Option Ans) →List Prop
 | [],_=>[]
 |a::aS,[] =>kM P a none hs k++wZ P hs k aS []
 |a::aS,oa::os=>kM P a oa hs k++wZ P hs k aS os
theorem aHQ {a:Again}{h:Hp}{oa:Option Ans}(h0:∀p∈aHP P a h oa,p) :∃hx,jH P h a.tm a.o=some (.val a.v hx) :=by
 cases oa with
 | none=>
  have:=h0 _ (mem_singleton_self _);split at this
  ·rename_i v hx hv;exact⟨hx,by rw [hv,this]⟩
  ·exact this.elim
 | some an=>
  simp only [aHP]at h0;split at h0
  · rename_i v ps hv;have e:v=a.v:=h0 _ (mem_cons_self ..);subst e;exact⟨h,nL hv (fun p hp=>h0 p (mem_cons_of_mem _ hp))⟩
  ·exact(h0 _ (mem_singleton_self _)).elim
theorem lU {a:Again}{oa:Option Ans}:∀ {hs:List Hp} {k:Nat},(∀p∈kM P a oa hs k,p) →∀ (x:Nat) (h:Hp),hs[x]?=some h→x≤k→a.lo≤k-x→k-x≤a.hi→∃hx,jH P h a.tm a.o=some (.val a.v hx)
 | [],k,_,x,h,hx,_,_,_=>by simp at hx
 | y::ys,k,h0,x,h,hx,hk,h1,h2=>by
  simp only [kM]at h0;cases x with
  | zero=>
   simp at hx;subst hx;rw [Nat.sub_zero]at h1 h2;simp only [iO,h1,h2,decide_true,Bool.and_self,cond]at h0;exact aHQ (fun p hp=>h0 p (mem_append_left _ hp))
  | succ x=>
   have hx':ys[x]?=some h:=by simpa using hx
   refine lU (oa:=oa) (k:=k-1) (fun p hp=>h0 p ?_) x h hx' (by omega) (by omega) (by omega);cases (ble a.lo k&&ble k a.hi)
   case true=>exact mem_append_right _ hp
   exact hp
theorem sS {hs:List Hp}{k:Nat}:∀ {aS:List Again} {os:List (Option Ans)},(∀p∈wZ P hs k aS os,p) →wX P hs k aS
 | [],_,_=>fun a ha=>by cases ha
 | b::aS,[],h0=>fun a ha=>by
  simp only [wZ]at h0;cases ha with
  |head=>exact lU (fun p hp=>h0 p (mem_append_left _ hp))
  |tail _ ha=>exact sS (os:=[]) (fun p hp=>h0 p (mem_append_right _ hp)) a ha
 | b::aS,oa::os,h0=>fun a ha=>by
  simp only [wZ]at h0;cases ha with
  |head=>exact lU (fun p hp=>h0 p (mem_append_left _ hp))
  |tail _ ha=>exact sS (os:=os) (fun p hp=>h0 p (mem_append_right _ hp)) a ha
def aDd (P:Program)(nt:Nat)(ops:Array Oper)(tm:T AV)(h:Hp)(is:List RIns)(os:List (Option Ans)) :Option (T AV×Hp×List Prop) :=
 let pl:=jJ ops
 bif pl.ok then
  match fW P nt pl.ops is pl.plans {tm,h:={h with nb:=h.nb+pl.fresh},stages:=[],s:=0,pend:=[],next:=h.nb,again:=[]} with
  | some (r,ps,rs) =>bif aEi (keysOf rs)then
    some (r.tm,aM r.h r.s r.pend,ps++wZ P (r.h::r.stages) r.s r.again os)else none
  |none=>none
 else none
open Classical in
def aJ4 (rs:List Rec) :bK:=fun k c h=>match rs.find? (fun r=>beq r.1 k)with
 |some r=>if r.2.1=c∧r.2.2.1=h then some r.2.2.2 else none
 |none=>none
theorem aGn :∀ {rs:List Rec},aEi (keysOf rs) =true→∀r∈rs,aJ4 rs r.1 r.2.1 r.2.2.1=some r.2.2.2
 | r0 ::rs,hn,r,hr=>by
  simp only [keysOf,aEi,and_eq_true,Bool.not_eq_true']at hn;unfold aJ4;rw [List.find?_cons];rcases List.mem_cons.1 hr with rfl|hr'
  ·simp
  · have hne:beq r0.1 r.1=false:=by
     cases hb:beq r0.1 r.1
     case false=>rfl
     have e:=eq_of_beq_eq_true hb;exfalso;have:yN r0.1 (keysOf rs) =true:=by
      rw [e];clear hn hr hb e
      induction rs with
      |nil=>cases hr'
      | cons x xs ih=>
       simp only [keysOf,yN,or_eq_true];rcases List.mem_cons.1 hr' with rfl|h
       ·exact .inl (by simp)
       ·exact .inr (ih h)
     rw [this]at hn;cases hn.1
    rw [hne];exact aGn hn.2 r hr'
theorem aJ5 {rs:List Rec}(h0:∀r∈rs,Spec P r.2.1 r.2.2.1 (.ret r.2.2.2.1) r.2.2.2.2) :dT P (aJ4 rs) :=fun k c h v h' e=>by
 unfold aJ4 at e;split at e
 · rename_i r hr;split at e
   · rename_i hc;obtain⟨rfl,rfl⟩ :=hc;have:=h0 r (List.mem_of_find?_eq_some hr);simp only [Option.some.injEq]at e;rw [e]at this;exact this.sound
   ·cases e
 ·cases e
theorem aHR {call:bK}{nt:Nat}{ops:List Oper}{p:Plan}{r r':RS}(h0:kS P oQ nt ops p r=some r') :kS P call nt ops p r=some r':=by
 unfold kS at h0 ⊢;split at h0
 ·cases h0
 ·rename_i hw;exact h0
 · rename_i hw;split at h0
   ·exact h0
   ·exact h0
   ·exact h0
   · simp only at h0 ⊢;split at h0
     ·exact h0
     · rename_i c hv;simp only [oQ]at h0;cases h0
     ·cases h0
theorem aHS {call:bK}{nt:Nat}{ops:List Oper}{p:Plan}{i:RIns}{r r':RS}{ps:List Prop}{rs:List Rec}(h0:eQ P nt ops p i r=some (r',ps,rs))(hp:∀q∈ps,q)(hc:∀x∈rs,call x.1 x.2.1 x.2.2.1=some x.2.2.2) :kS P call nt ops p r=some r':=by
 cases i with
 | d=>
  simp only [eQ]at h0;split at h0
  ·rename_i r1 h1;cases h0;exact aHR h1
  ·cases h0
 |b j v=>cases h0
 | pure v=>
  simp only [eQ]at h0;split at h0
  · rename_i hw hk;split at h0
    · rename_i f args ha;split at h0
      · rename_i tm htm;cases h0;have:=hc _ (mem_singleton_self _);simp only at this;simp only [kS,hw,hk,ha,this,htm]
      ·cases h0
    ·cases h0
  ·cases h0
 | ans a =>
  simp only [eQ]at h0;split at h0
  · rename_i hw hk;split at h0
    · rename_i v qs hv;split at h0
      · rename_i tm htm;cases h0;simp only [kS,hw,hk,nL hv hp,htm]
      ·cases h0
    ·cases h0
  · rename_i hw hk;split at h0
    · rename_i v qs hv;split at h0
      · rename_i tm htm;cases h0;simp only [kS,hw,hk,nL hv hp,htm]
      ·cases h0
    ·cases h0
  ·cases h0
 | call v h'=>
  simp only [eQ]at h0;split at h0
  · rename_i hw hk;split at h0
    · rename_i c ha;split at h0
      · rename_i tm htm;cases h0;have:=hc _ (mem_singleton_self _);simp only at this;simp only [kS,hw,hk,ha,this,htm]
      ·cases h0
    ·cases h0
  ·cases h0
 | st y y'=>
  simp only [eQ]at h0;split at h0
  · rename_i hw hk;split at h0
    · rename_i h' qs hv;split at h0
      · rename_i tm htm;cases h0;simp only [kS,hw,hk,aJ3 hv hp,htm]
      ·cases h0
    ·cases h0
  ·cases h0
 | mput es c=>
  simp only [eQ]at h0;split at h0
  · rename_i hw hk;split at h0
    · rename_i h' qs hv;split at h0
      · rename_i tm htm;cases h0;simp only [kS,hw,hk,aHN hv hp,htm]
      ·cases h0
    ·cases h0
  ·cases h0
 | mval v es c=>
  simp only [eQ]at h0;split at h0
  · rename_i hw hk;split at h0
    · rename_i h' qs hv;split at h0
      · rename_i tm htm;cases h0;simp only [kS,hw,hk,aHO hv hp,htm]
      ·cases h0
    ·cases h0
  ·cases h0
 | app zs n=>
  simp only [eQ]at h0;split at h0
  · rename_i hw hk;split at h0
    · rename_i v h' qs hv;split at h0
      · rename_i tm htm;cases h0;simp only [kS,hw,hk,aAS hv hp,htm]
      ·cases h0
    ·cases h0
  ·cases h0
 | own v =>
  simp only [eQ]at h0;split at h0
  · rename_i hw hk;split at h0
    · rename_i vs ha hvs;split at h0
      · rename_i tm htm;cases h0;simp only [kS,hw,hk,ha,hvs,mem1 hp,htm]
      ·cases h0
    ·cases h0
  ·cases h0
theorem qP {call:bK}{nt:Nat}{ops:List Oper}:∀ {is:List RIns} {pl:List Plan} {r r':RS} {ps:List Prop} {rs:List Rec},fW P nt ops is pl r=some (r',ps,rs) → (∀q∈ps,q) → (∀x∈rs,call x.1 x.2.1 x.2.2.1=some x.2.2.2) →nB P call nt ops pl r=some r'
 | [],[],r,r',ps,rs,h0,_,_=>by simp only [fW]at h0;cases h0;rfl
 | [],_::_,_,_,_,_,h0,_,_=>by simp [fW]at h0
 | i :: is,pl,r,r',ps,rs,h0,hp,hc=>by
  by_cases hb:∃j v,i= .b j v
  · obtain⟨j,v,rfl⟩ :=hb;simp only [fW]at h0;split at h0
    · rename_i b hj;split at h0
      · rename_i r1 qs rs1 h1;cases h0;have:=mem1 hp;subst this;rw [put_eq hj]at h1;exact qP h1 (fun q hq=>hp q (mem_cons_of_mem _ hq)) hc
      ·cases h0
    ·cases h0
  · cases pl with
    |nil=>cases i<;>simp [fW]at h0<;>exact absurd ⟨_,_,rfl⟩ hb
    | cons p pl=>
     have h0': (match eQ P nt ops p i r with
      |none=>none
      | some (r1,qs,rs) =>match fW P nt ops is pl r1 with
       |none=>none
       |some (r2,qs2,rs2) =>some (r2,qs++qs2,rs++rs2)) =some (r',ps,rs) :=by
      cases i<;>first|exact h0|exact absurd ⟨_,_,rfl⟩ hb
     split at h0'
     ·cases h0'
     · rename_i r1 qs rs1 h1;split at h0'
       ·cases h0'
       · rename_i r2 qs2 rs2 h2;cases h0';simp only [nB,aHS (call:=call) h1 (fun q hq=>hp q (mem_append_left _ hq)) (fun x hx=>hc x (mem_append_left _ hx))];exact qP h2 (fun q hq=>hp q (mem_append_right _ hq)) (fun x hx=>hc x (mem_append_right _ hx))
theorem sT {nt:Nat}{ops:List Oper}:∀ {is:List RIns} {pl:List Plan} {r r':RS} {ps:List Prop} {rs:List Rec},fW P nt ops is pl r=some (r',ps,rs) → (∀q∈ps,q) →∀x∈rs,Spec P x.2.1 x.2.2.1 (.ret x.2.2.2.1) x.2.2.2.2
 | [],[],r,r',ps,rs,h0,_=>by simp only [fW]at h0;cases h0;intro x hx;cases hx
 | [],_::_,_,_,_,_,h0,_=>by simp [fW]at h0
 | i :: is, pl, r, r',ps,rs,h0,hp=>by
  by_cases hb:∃j v,i= .b j v
  · obtain⟨j,v,rfl⟩ :=hb;simp only [fW]at h0;split at h0
    · split at h0
      · rename_i r1 qs rs1 h1;cases h0;exact sT h1 (fun q hq=>hp q (mem_cons_of_mem _ hq))
      ·cases h0
    ·cases h0
  · cases pl with
    |nil=>cases i<;>simp [fW]at h0<;>exact absurd ⟨_,_,rfl⟩ hb
    | cons p pl =>
     have h0': (match eQ P nt ops p i r with
      |none=>none
      | some (r1,qs,rs) =>match fW P nt ops is pl r1 with
       |none=>none
       |some (r2,qs2,rs2) =>some (r2,qs++qs2,rs++rs2)) =some (r',ps,rs) :=by
      cases i<;>first|exact h0|exact absurd ⟨_,_,rfl⟩ hb
     split at h0'
     ·cases h0'
     · rename_i r1 qs rs1 h1;split at h0'
       ·cases h0'
       · rename_i r2 qs2 rs2 h2;cases h0';intro x hx;rcases List.mem_append.1 hx with g|g
         · cases i with
           | d=>
            simp only [eQ]at h1;split at h1
            ·cases h1;cases g
            ·cases h1
           |b j v=>cases h1
           | pure v=>
            simp only [eQ]at h1;split at h1
            · split at h1
              · rename_i f args ha;split at h1
                · cases h1;rw [mem_singleton]at g;subst g;exact hp _ (mem_append_left _ (mem_singleton_self _)) _
                ·cases h1
              ·cases h1
            ·cases h1
           | ans a=>
            simp only [eQ]at h1;split at h1
            · split at h1
              · split at h1
                ·cases h1;cases g
                ·cases h1
              ·cases h1
            · split at h1
              · split at h1
                ·cases h1;cases g
                ·cases h1
              ·cases h1
            ·cases h1
           | call v h'=>
            simp only [eQ]at h1;split at h1
            · split at h1
              · rename_i c ha;split at h1
                · cases h1;rw [mem_singleton]at g;subst g;exact hp _ (mem_append_left _ (mem_singleton_self _))
                ·cases h1
              ·cases h1
            ·cases h1
           | app zs n=>
            simp only [eQ]at h1;split at h1
            · split at h1
              · split at h1
                ·cases h1;cases g
                ·cases h1
              ·cases h1
            ·cases h1
           | mval v es c=>
            simp only [eQ]at h1;split at h1
            · split at h1
              · split at h1
                ·cases h1;cases g
                ·cases h1
              ·cases h1
            ·cases h1
           | mput es c=>
            simp only [eQ]at h1;split at h1
            · split at h1
              · split at h1
                ·cases h1;cases g
                ·cases h1
              ·cases h1
            ·cases h1
           | own v=>
            simp only [eQ]at h1;split at h1
            · split at h1
              · split at h1
                ·cases h1;cases g
                ·cases h1
              ·cases h1
            ·cases h1
           | st y y'=>
            simp only [eQ]at h1;split at h1
            · split at h1
              · split at h1
                ·cases h1;cases g
                ·cases h1
              ·cases h1
            ·cases h1
         ·exact sT h2 (fun q hq=>hp q (mem_append_right _ hq)) x g
theorem aAT {m:Nat}{s:AS}{id:Nat}{ops:Array Oper}{k:List AItem}(hm:s.fr.mode= .run)(htd:s.fr.todo= .code (.region id ops true) ::k){is:List RIns}{os:List (Option Ans)}{tm:T AV}{h':Hp}{ps:List Prop}(h0:aDd P s.fr.nt ops s.fr.tm s.h is os=some (tm,h',ps))(hp:∀p∈ps,p) :
  LeadsM P m s ⟨{s.fr with tm,todo:=k},s.cs,h'⟩ :=by
 unfold aDd at h0;simp only at h0;cases hok: (jJ ops).ok
 case false=>rw [hok]at h0;cases h0
 rw [hok]at h0;simp only [cond]at h0;split at h0
 · rename_i r qs rs hr;cases hn:aEi (keysOf rs)
   case false=>rw [hn]at h0;cases h0
   rw [hn]at h0;simp only at h0;cases h0;have hq:∀q∈qs,q:=fun q hq=>hp q (mem_append_left _ hq);have hst:=qP (call:=aJ4 rs) hr hq (aGn hn);have hck:wX P (r.h::r.stages) r.s r.again:=sS (fun q hq=>hp q (mem_append_right _ hq));intro hm0 E fr ccs w base f fs rl;obtain⟨afr,cs,h⟩ :=s;simp only at hm htd hr hst f fs rl ⊢;have e:=f.run hm;generalize fr.fn=fn at e;generalize fr.tmps=tmps at e;generalize fr.todo=todo at e;generalize fr.defers=ds at e;generalize fr.kind=kd at e;generalize fr.roundOf=ro at e;subst e;have ft:=f.todo;simp only [htd]at ft;obtain⟨i,ck,e1,i1,i2⟩ :=ft.cons_inv;subst e1;simp only [IR]at i1;subst i1;obtain⟨E',w',tmps',s1,t1,r1,x1⟩ :=zE (aJ5 (sT hr hq)) hok hst hck rl f.tm id fn ds kd ro ck (ccs++base);exact⟨E',_,ccs,w',s1,⟨f.fn,t1,i2.mono x1.le,f.defers.mono x1.le,by simp only [hm];exact rfl,f.kind,f.round.mono x1.le⟩,fs.mono x1.le,r1,x1.toM hm0⟩
 ·cases h0
theorem aAU :∀ (l:List AV) (t:T AV) (i:Nat),(∀j,j<l.length→t.at (i+j) =l[j]?) →getCells t i l.length=some l
 | [],_,_,_=>rfl
 | a::aS,t,i,h=>by
  have h0:=h 0 (by simp);simp only [Nat.add_zero,List.getElem?_cons_zero]at h0;simp only [length_cons,getCells,h0]
  rw [aAU aS t (Nat.succ i) (fun j hj=>by
   have:=h (j+1) (by simp;omega);rw [show Nat.succ i+j=i+ (j+1)by omega,this];simp)]
theorem aEj (g:Bool){zc:List AV}{e:Nat}(he:zc.length=e) :∀n,uJ g e n (kO zc n) =replicate n (bif g then .agg zc else zc.headD .undef)
 |0=>rfl
 | n+1=>by
  have h1: (zc++kO zc n).take e=zc:=by rw [←he,List.take_left]
  have h2: (zc++kO zc n).drop e=kO zc n:=by rw [←he,List.drop_left]
  rw [kO,uJ,h1,h2,aEj g he n,List.replicate_succ];congr 1;cases g
  case true=>rfl
  have rn:∀n,kO ([] :List AV) n= [] :=fun n=>by
   induction n with
   |zero=>rfl
   |succ n ih=>simpa [kO]using ih
  cases zc with
  |nil=>simp [rn]
  |cons z zs=>rfl
theorem aCF {zc:List AV}(h:cJ zc=true) :∀n,cJ (kO zc n) =true
 |0=>rfl
 | n +1=>by
  have app:∀ (xs ys:List AV),cJ xs=true→cJ ys=true→cJ (xs++ys) =true:=by
   intro xs
   induction xs with
   |nil=>intro ys _ h;exact h
   | cons x xs ih=>
    intro ys h1 h2;simp only [cJ,and_eq_true]at h1;simp only [List.cons_append,cJ,and_eq_true];exact⟨h1.1,ih ys h1.2 h2⟩
  exact app _ _ h (aCF h n)
end
section
variable {P :Program}
theorem aPI {E:Emb}{h:Hp}{H:Array Obj}(r:Rel E h H){b e:Nat}{u:Value}{xs:List AV}(hb:h.look b=some (.lstv u e xs)) :VR E (.gl b e 0 xs.length false) u:=by
 obtain⟨L,hE,C,el,vs,o1,o2,o3,o4,o5,a,cap,q1,q2,q3⟩ :=r.obj b _ hb;simp only [VR];exact .inr ⟨L,a,cap,hE,q1,q2,fun e=> (by cases e),fun hc=>by have:=q3 hc;exact⟨by omega,this.2⟩⟩
theorem Rel.unview {E:Emb}{h:Hp}{H:Array Obj}(r:Rel E h H){b e:Nat}{u:Value}{xs:List AV}(hb:h.look b=some (.lstv u e xs)) :Rel E (h.set b (.lst e xs)) H:=
 r.reobj hb rfl (fun L hL=>by
  obtain⟨C,el,vs,o1,o2,o3,o4,o5,_⟩ :=r.objL hb hL;exact⟨C,el,vs,o1,o2,o3,o4,o5⟩) rfl rfl rfl
theorem aEk {m:Nat}{h:Hp}{b e o l:Nat}:m≤h.nb→kY m h h (.gl b e o l true) (.gl b e o l false) :=fun hm E w r=>
 ⟨E,Emb.le.refl E,r,ExtM.refl hm,fun cv hv=>by
  simp only [VR]at hv ⊢;rcases hv with h1| ⟨L,a,cap,h1,h2,h3,_,h5⟩
  ·exact .inl h1
  ·exact .inr ⟨L,a,cap,h1,h2,h3,(fun e=>by cases e),h5⟩⟩
theorem aJ6 {m:Nat}{h:Hp}{e:Nat}{xs:List AV}:m≤h.nb→kY m h h (.ilst e xs true) (.ilst e xs false) :=fun hm E w r=>
 ⟨E,Emb.le.refl E,r,ExtM.refl hm,fun cv hv=>by
  simp only [VR]at hv ⊢;obtain⟨us,h1,h2,h3⟩ :=hv;refine⟨us,h1,h2,?_⟩;rcases h3 with⟨q1,a,n,q2,q3,q4⟩ | ⟨k,o,cap,C,q1,q2,q3,q4,q5⟩
  ·exact .inl ⟨q1,a,n,q2,q3,(fun e=>by cases e)⟩
  ·exact .inr ⟨k,o,cap,C,q1,q2,q3,(fun e=>by cases e),q5⟩⟩
theorem aAV {m:Nat}{h:Hp}{b e:Nat}{u:Value}{xs:List AV}(hb:h.look b=some (.lstv u e xs)) :m≤h.nb→kY m h (h.set b (.lst e xs)) (.val u) (.gl b e 0 xs.length false) :=fun hm E w r=>
 ⟨E,Emb.le.refl E,r.unview hb,iV (ExtM.refl hm) hb,fun cv hv=>by
  simp only [VR]at hv;subst hv;exact aPI r hb⟩
theorem aTD {m:Nat}{E E':Emb}{h h1 h2:Hp}{w w':World}(x:ExtM m E h w E' h1 w')(hs:∀b o,h2.look b=some o→h1.look b=some o)(hn:h2.nb=h1.nb) :ExtM m E h w E' h2 w':=
 ⟨x.low,x.imm,x.size,x.keep,fun b' o' L' e k hlt=>x.own b' o' L' (hs _ _ e) k hlt,by rw [hn];exact x.nb,x.os,x.tape,x.output,x.froz,x.immo,fun b o e hb=>x.keys b o (hs _ _ e) hb⟩
theorem aM2 {m:Nat}{fr:AFrame}{cs:List AFrame}{h:Hp}{b e o eo:Nat}{u:Value}{xs zs ys:List AV}(hb:h.look b=some (.lstv u e xs))(ho:h.look o=some (.lst eo zs))(hne:o≠b)(hz:zs≠ [])(hk:keylessL xs=true)
  (hq:∀ (E:Emb) (vs:List Value),VR E (.ilst e xs false) u→VRs E zs vs→VRs E ys vs) :LeadsM P m ⟨fr,cs,h⟩ ⟨fr,cs,(h.del b).set o (.lst eo ys)⟩ :=fun hm E cf ccs w base f fs r=>by
 have r1:=r.unview hb;have hb1: (h.set b (.lst e xs)).look b=some (.lst e xs) :=by rw [aX,if_pos rfl]
 have hok:frzOk b e xs xs (.gl b e 0 xs.length false) :=by
  simp only [frzOk];intro _;simp
 obtain⟨E',hle,r2,x2,hv⟩ :=kL (m:=m) hb1 hk hok hm E w r1;have hu:VR E' (.ilst e xs false) u:=by
  have:=hv u (by
   have:=aPI r hb;exact this)
  simpa [AV.frz]using this
 have same:∀x ob,(h.del b).look x=some ob→ ((h.set b (.lst e xs)).del b).look x=some ob:=fun x ob e=>by
  rw [kV]at e ⊢;split at e
  ·cases e
  ·rename_i hx;rw [if_neg hx,aX,if_neg hx];exact e
 have r3:Rel E' (h.del b) w.heap:=r2.sub same (le_refl _);have x3:ExtM m E h w E' (h.del b) w:=aTD ((iV (ExtM.refl hm) hb).trans x2) same rfl;have ho3: (h.del b).look o=some (.lst eo zs) :=by rw [kV,if_neg hne];exact ho
 have hun:jK (.lst eo zs) =false:=by
  cases zs with
  |nil=>exact absurd rfl hz
  |cons _ _=>rfl
 refine⟨E',cf,ccs,w,Steps.refl _ _,f.mono hle,fs.mono hle,r3.reobj ho3 hun (fun L hL=>?_) rfl rfl rfl,iV x3 ho3⟩;obtain⟨C,el,vs,o1,o2,o3,o4,o5⟩ :=r3.objL ho3 hL;exact⟨C,el,vs,o1,o2,hq E' vs hu o3,o4,o5⟩
theorem aTE {m:Nat}{fr:AFrame}{cs:List AFrame}{h:Hp}{b e:Nat}{xs ys:List AV}(hb:h.look b=some (.lst e xs))(hz:xs≠ [])
  (hq:∀ (E:Emb) (vs:List Value),VRs E xs vs→VRs E ys vs) :LeadsM P m ⟨fr,cs,h⟩ ⟨fr,cs,h.set b (.lst e ys)⟩ :=fun hm E cf ccs w base f fs r=>by
 have hun:jK (.lst e xs) =false:=by
  cases xs with
  |nil=>exact absurd rfl hz
  |cons _ _=>rfl
 refine⟨E,cf,ccs,w,Steps.refl _ _,f,fs,r.reobj hb hun (fun L hL=>?_) rfl rfl rfl,iV (ExtM.refl hm) hb⟩;obtain⟨C,el,vs,o1,o2,o3,o4,o5⟩ :=r.objL hb hL;exact⟨C,el,vs,o1,o2,hq E vs o3,o4,o5⟩
theorem aQV {m:Nat}{fr:AFrame}{cs:List AFrame}{h:Hp}{j b e n:Nat}{ex:Bool}{xs:List AV}{res:Res}{h':Hp}(hj:fr.tm.at j=some (.gl b e 0 n ex))(hb:h.look b=some (.lst e xs))(hn:xs.length=n)(h0:0<n)
  (hk:∀ua un uc,Ends P m ⟨{fr with tm:=fr.tm.put j (.val (Value.slice ua un uc))},cs,h.set b (.lstv (Value.slice ua un uc) e xs)⟩ res h') :Ends P m ⟨fr,cs,h⟩ res h':=fun hm E cf ccs w f fs r cl base=>by
 obtain⟨cv,g1,g2⟩ :=f.tm.2 _ _ hj;simp only [VR]at g2;rcases g2 with⟨z,_⟩ | ⟨L,a,cap,hE,rfl,h1,_,h3⟩
 ·omega
 · have hun:jK (.lst e xs) =false:=by
    cases xs with
    |nil=>simp at hn;omega
    |cons _ _=>rfl
   have f':FR E {fr with tm:=fr.tm.put j (.val (.slice (some ⟨L.blk,a,none⟩) n cap))} cf:=by
    refine⟨f.fn,⟨f.tm.1,fun t v e=>?_⟩,f.todo,f.defers,f.mode,f.kind,f.round⟩;rw [T.at_put]at e;split at e
    · rename_i ht;cases e;subst ht;exact⟨_,g1,by simp only [VR]⟩
    ·exact f.tm.2 t v e
   have r':Rel E (h.set b (.lstv (.slice (some ⟨L.blk,a,none⟩) n cap) e xs)) w.heap:=r.reobj hb hun (fun L' hL'=>by
    obtain⟨C,el,vs,o1,o2,o3,o4,o5⟩ :=r.objL hb hL';rw [hE]at hL';cases hL';exact⟨C,el,vs,o1,o2,o3,o4,o5,a,cap,by rw [hn],by omega,fun hc=>by have:=h3 hc;exact⟨by omega,this.2⟩⟩) rfl rfl rfl
   obtain⟨cl',w',E',s1,g,r2,x2⟩ :=hk _ _ _ hm E cf ccs w f' fs r' cl base;exact⟨cl',w',E',s1,g,r2,(iV (ExtM.refl hm) hb).trans x2⟩
theorem aTF {m:Nat}{fr:AFrame}{cs:List AFrame}{h:Hp}{j e:Nat}{ex:Bool}{xs:List AV}{res:Res}{h':Hp}(hj:fr.tm.at j=some (.ilst e xs ex))
  (h1:xs= [] →Ends P m ⟨{fr with tm:=fr.tm.put j .nils},cs,h⟩ res h')
  (h2:∀a n c,Ends P m ⟨{fr with tm:=fr.tm.put j (.val (.slice (some a) n c))},cs,h⟩ res h') :Ends P m ⟨fr,cs,h⟩ res h':=fun hm E cf ccs w f fs r cl base=>by
 obtain⟨cv,g1,g2⟩ :=f.tm.2 _ _ hj
 have put:∀ {v:AV},VR E v cv→FR E {fr with tm:=fr.tm.put j v} cf:=fun {v} hv=>by
  refine⟨f.fn,⟨f.tm.1,fun t v' e=>?_⟩,f.todo,f.defers,f.mode,f.kind,f.round⟩;rw [T.at_put]at e;split at e
  · rename_i ht;cases e;subst ht;exact⟨_,g1,hv⟩
  ·exact f.tm.2 t v' e
 simp only [VR]at g2;obtain⟨vs,q1,q2⟩ :=g2;rcases q2.2 with⟨rfl,a,cap,rfl,h3,_⟩ | ⟨k,a,cap,C,rfl,_⟩
 · have hx:xs= [] :=by
    cases xs with
    |nil=>rfl
    |cons x xs=>simp [VRs]at q1
   cases a with
   | none=>
    have:=h3 rfl;subst this;exact h1 hx hm E cf ccs w (put (by simp only [VR])) fs r cl base
   |some a=>exact h2 a 0 cap hm E cf ccs w (put (by simp only [VR])) fs r cl base
 ·exact h2 ⟨k,a,none⟩ vs.length cap hm E cf ccs w (put (by simp only [VR])) fs r cl base
def KL (es:List (AV×AV×Nat)) :Prop:=∀e∈es,keyless e.1=true∧keyless e.2.1=true
theorem aTG {E E':Emb}(he:E.imm=E'.imm) :∀ {es:List (AV×AV×Nat)} {us:List MapEntry},KL es→ERs E es us→ERs E' es us
 | [],_,_,r=>by simpa [ERs]using r
 | e::es,_,hk,r=>by
  simp only [ERs]at r ⊢;obtain⟨u,us',h1,h2,h3,h4,h5⟩ :=r;have e2:E.p=E'.p:=by simp [Emb.p,he]
  have k:=hk e (mem_cons_self ..);have q1:=dW k.1 h2;have q2:=dW k.2 h3;rw [e2]at q1 q2;exact⟨u,us',h1,VR.of_p q1,VR.of_p q2,h4,aTG he (fun x hx=>hk x (mem_cons_of_mem _ hx)) h5⟩
theorem aHT {m:Nat}{fr:AFrame}{cs:List AFrame}{h:Hp}{b c c':Nat}{es es':List (AV×AV×Nat)}{k v:AV}(hb:h.look b=some (.map es' c'))(he:es'=es++ [(k,v,c)])(hc:c'=Nat.succ c)(hk:KL es) :
  LeadsM P m ⟨fr,cs,h⟩ ⟨fr,cs,h.set b (.mapx es c k v)⟩ :=fun hm E cf ccs w base f fs r=>by
 refine⟨E,cf,ccs,w,Steps.refl _ _,f,fs,r.reobj hb rfl (fun L hL=>?_) rfl rfl rfl,iV (ExtM.refl hm) hb⟩;obtain⟨ES,o1,o2⟩ :=r.objL hb hL;subst he hc;exact⟨ES,o1,o2,fun E1 E2 us e=>aTG e hk⟩
theorem aM3 {m:Nat}{fr:AFrame}{cs:List AFrame}{h h1:Hp}{b c:Nat}{es:List (AV×AV×Nat)}{k v v':AV}(hb:h.look b=some (.mapx es c k v))(hb1:h1.look b=some (.mapx es c k v))(ht:m≤h.nb→kY m h h1 v v')(hkk:keyless k=true) :
  LeadsM P m ⟨fr,cs,h⟩ ⟨fr,cs,h1.set b (.map (es++ [(k,v',c)]) (Nat.succ c))⟩ :=fun hm E cf ccs w base f fs r=>by
 obtain⟨E',hle,r',x',hvv⟩ :=ht hm E w r;refine⟨E',cf,ccs,w,Steps.refl _ _,f.mono hle,fs.mono hle,r'.reobj hb1 rfl (fun L hL=>?_) rfl rfl rfl,iV x' hb1⟩;obtain⟨L0,hE,ES,o1,o2,o3⟩ :=r.obj _ _ hb rfl;have:=hle.1 _ _ hE;rw [hL]at this;cases this;refine⟨ES,o1,?_⟩;obtain⟨us,ws,e1,e2,e3⟩ :=ERs.split o2;rw [e1];refine ERs.join (e2.mono hle) ?_;simp only [ERs]at e3 ⊢;obtain⟨u,us',q1,q2,q3,q4,q5⟩ :=e3;exact⟨u,us',q1,q2.mono hle,hvv _ q3,q4,q5⟩
theorem aM4 {m:Nat}{fr:AFrame}{cs:List AFrame}{h h1:Hp}{k e:Nat}{xs ys:List AV}(hb:h.look k=some (.lst e xs))(hb1:h1.look k=some (.lst e xs))(hz:xs≠ [])(ht:m≤h.nb→kY m h h1 (.tup xs) (.tup ys)) :
  LeadsM P m ⟨fr,cs,h⟩ ⟨fr,cs,h1.set k (.lst e ys)⟩ :=fun hm E cf ccs w base f fs r=>by
 obtain⟨E',hle,r',x',hvv⟩ :=ht hm E w r;have hun:jK (.lst e xs) =false:=by
  cases xs with
  |nil=>exact absurd rfl hz
  |cons _ _=>rfl
 refine⟨E',cf,ccs,w,Steps.refl _ _,f.mono hle,fs.mono hle,r'.reobj hb1 hun (fun L hL=>?_) rfl rfl rfl,iV x' hb1⟩;obtain⟨L0,hE,C,el,vs,o1,o2,o3,o4,o5⟩ :=r.obj _ _ hb hun;have:=hle.1 _ _ hE;rw [hL]at this;cases this;refine⟨C,el,vs,o1,o2,?_,o4,o5⟩;have:=hvv (.tuple ⟨vs⟩) (by simp only [VR];exact⟨vs,rfl,o3⟩);simp only [VR]at this;obtain⟨us,e1,e2⟩ :=this;cases e1;exact e2
section
variable (P :Program)
inductive Ins where
 |run (n:Nat)
 |b (j:Nat) (v:Bool)
 |set (j:Nat) (v:AV)
 |call (v:AV) (h':Hp)
 |callP (ch:List (AV×Bool)) (h':Hp)
 |ans (a:Ans)
 |st (y y':AV)
 |app (zs:List AV) (n:Nat)
 |nilL (j e:Nat)
 |nilI (j e:Nat)
 |frz (j b:Nat) (ys:List AV)
 |cnil (k o e:Nat)
 |cnilI (k o e:Nat)
 |cfrz (k o b:Nat) (ys:List AV)
 |toL (j:Nat) (g:Bool) (cs:List AV)
 |cset (k o:Nat) (v:AV)
 |ctoL (k o:Nat) (g:Bool) (cs:List AV)
 |lset (b:Nat) (xs:List AV)
 |pure (v:AV)
 |throws (ch:List (AV×Bool))
 |mk (n:Nat)
 |reg (is:List RIns)
 |regA (is:List RIns) (os:List (Option Ans))
 |nxt (c d:Nat)
 |nxtE
 |mput (es:List (AV×AV×Nat)) (clock:Nat)
 |mset (b:Nat) (es:List (AV×AV×Nat)) (clock:Nat)
 |lkeep (b:Nat) (js:List Nat)
 |unname (j b:Nat)
 |weak (j:Nat)
 |cweak (k o:Nat)
 |vfrz (b o:Nat) (ys:List AV)
 |lw (b:Nat) (ys:List AV)
 |lfrz (k b:Nat) (ys:List AV)
 |mclose (b:Nat) (es:List (AV×AV×Nat)) (c:Nat) (k v:AV)
 |mfrz (b n:Nat) (ys:List AV)
 |appN (zs:List AV) (n:Nat)
def VQ (u:Value)(e:Nat)(xs zs ys:List AV) :Prop:=∀ (E:Emb) (vs:List Value),VR E (.ilst e xs false) u→VRs E zs vs→VRs E ys vs
def VW (xs ys:List AV) :Prop:=∀ (E:Emb) (vs:List Value),VRs E xs vs→VRs E ys vs
def lL (s:AS) :Option Oper:=
 match s.fr.mode,s.fr.todo with
 | .run,.ops all _ (o::_) ::_=>match bP s.fr.tm all.toList o with
  |some true=>some o
  |_=>none
 |_,_=>none
def aBU (s:AS)(v:AV)(h':Hp)(obl:List Prop) :Option (AS×List Prop) :=
 match s.fr.finish v with
 |some fr=>some (⟨fr,s.cs,h'⟩,obl)
 |none=>none
def aEl {α:Type}(t:T α) :List Nat→List (Nat×α)
 | [] =>[]
 | j::js=>match t.at j with
  |some v=> (j,v) ::aEl t js
  |none=>aEl t js
def aHU {α:Type}:List (Nat×α) →T α
 | [] =>.leaf
 |p::r=> (aHU r).put p.1 p.2
def xstep (P :Program)(i:Ins)(s:AS) :Option (AS×List Prop) :=
 match i with
 | .run n=>match mK P oQ n s with
  |some s'=>some (s',[])
  |none=>none
 | .b j v=>match s.fr.tm.at j with
  |some (.bool b) =>some (⟨{s.fr with tm:=s.fr.tm.put j (.bool v)},s.cs,s.h⟩,[b=v])
  |_=>none
 | .set j v=>match s.fr.tm.at j with
  |some u=>some (⟨{s.fr with tm:=s.fr.tm.put j v},s.cs,s.h⟩,[u=v])
  |none=>none
 | .cset k o v=>match s.h.look k with
  | some (.cells t n ol sup) =>match t.at o with
   |some u=>some (⟨s.fr,s.cs,s.h.set k (.cells (t.put o v) n ol sup)⟩,[u=v])
   |none=>none
  |_=>none
 | .lset b xs=>match s.h.look b with
  |some (.lst e ys) =>some (⟨s.fr,s.cs,s.h.set b (.lst e xs)⟩,[ys=xs])
  |_=>none
 | .call v h'=>match lL s with
  | some o=>match jH P s.h s.fr.tm o with
   |some (.call c) =>aBU s v h' [Spec P c s.h (.ret v) h']
   |_=>none
  |none=>none
 | .callP ch h'=>match lL s with
  | some o=>match jH P s.h s.fr.tm o with
   |some (.call c) =>some (⟨s.fr.raise ch,s.cs,h'⟩,[Spec P c s.h (.pan ch) h'])
   |_=>none
  |none=>none
 | .ans a=>match lL s with
  | some o=>match qO P s.h s.fr.tm o a with
   |some (v,ps) =>aBU s v s.h ps
   |none=>none
  |none=>none
 | .pure v=>match lL s with
  | some o=>match jH P s.h s.fr.tm o with
   |some (.call (.enter f args)) =>aBU s v s.h [aJ P f args v]
   |_=>none
  |none=>none
 | .throws ch=>match lL s with
  | some o=>match jH P s.h s.fr.tm o with
   |some (.call (.enter f args)) =>some (⟨s.fr.raise ch,s.cs,s.h⟩,[bC5 P f args ch])
   |_=>none
  |none=>none
 | .mk n =>match lL s with
  | some o=>match o.op,o.dst with
   | .makeSlice t l c,some d=>match bI s.fr.tm l,bI s.fr.tm c with
    | some (.int _ l),some (.int _ c) =>match P.underlying t with
     | some (.slice el) =>match aW P el,zeroOf P el,P.info? el,P.underlying el with
      | some e,some z,some inf,some ed=>bif ble e 40&&ble 1 e&&beq z.cells.length e&&ble inf.bytes 1000&&cJ z.cells&& (isAggD ed||beq e 1)then
        match s.fr.finish (.gl s.h.nb e 0 n true)with
        |some fr=>some (⟨fr,s.cs,s.h.new (.lst e (replicate n (bif isAggD ed then .agg z.cells else z.cells.headD .undef)))⟩,[l= (n:Int),c= (n:Int),n<100000])
        |none=>none else none
      |_,_,_,_=>none
     |_=>none
    |_,_=>none
   |_,_=>none
  |none=>none
 | .reg is=>match s.fr.mode,s.fr.todo with
  | .run,.code (.region _ ops true) ::k=>match aDd P s.fr.nt ops s.fr.tm s.h is []with
   |some (tm,h',ps) =>some (⟨{s.fr with tm,todo:=k},s.cs,h'⟩,ps)
   |none=>none
  |_,_=>none
 | .regA is os=>match s.fr.mode,s.fr.todo with
  | .run,.code (.region _ ops true) ::k=>match aDd P s.fr.nt ops s.fr.tm s.h is os with
   |some (tm,h',ps) =>some (⟨{s.fr with tm,todo:=k},s.cs,h'⟩,ps)
   |none=>none
  |_,_=>none
 | .nxt c d=>match lL s with
  | some o=>match o.op with
   | .next it true=>match bI s.fr.tm it with
    | some (.ptr r 0) =>match s.h.look r with
     |some (.siter l n pos) =>aBU s (.tup [.bool true,.int .i64 pos,.int .i32 c]) (s.h.set r (.siter l n (Nat.add pos d))) [pos<l,aMF l n pos=some (c,d)]
     |_=>none
    |_=>none
   |_=>none
  |none=>none
 | .nxtE=>match lL s with
  | some o=>match o.op with
   | .next it true=>match bI s.fr.tm it with
    | some (.ptr r 0) =>match s.h.look r with
     |some (.siter l n pos) =>aBU s (.tup [.bool false]) s.h [l≤pos]
     |_=>none
    |_=>none
   |_=>none
  |none=>none
 | .mput es' clock'=>match lL s with
  | some o=>match o.op with
   | .mapUpdate t m k x=>match bI s.fr.tm m,bI s.fr.tm k,bI s.fr.tm x with
    | some (.map r),some k,some v=>match P.underlying t,s.h.look r with
     | some (.map kt _),some (.map es clock) =>match P.underlying kt with
      |some kd=>bif plainKey kd k then aBU s .undef (s.h.set r (.map es' clock')) [zX es clock k v=some (es',clock')]else none
      |none=>none
     |_,_=>none
    |_,_,_=>none
   |_=>none
  |none=>none
 | .mset b es' clock'=>match s.h.look b with
  |some (.map es clock) =>some (⟨s.fr,s.cs,s.h.set b (.map es' clock')⟩,[es=es',clock=clock'])
  |_=>none
 | .st y y'=>match lL s with
  | some o=>match o.op with
   | .store t a x=>match bI s.fr.tm a,bI s.fr.tm x with
    | some (.ep b e i k),some v=>match s.h.look b,aW P t with
     | some (.lst e' xs),some n=>bif beq e' e&&beq v.cells.length n&&ble (k+n) e&&cJ v.cells then
       match s.fr.finish .undef with
       |some fr=>some (⟨fr,s.cs,s.h.set b (.lst e (xs.set i y'))⟩,[xs[i]?=some y,jM y k v.cells=some y'])
       |none=>none else none
     |_,_=>none
    |_,_=>none
   |_=>none
  |none=>none
 | .app zs n =>match lL s with
  | some o => match o.op with
   | .call c =>match c.callee,fS s.fr.tm c.args.toList,c.argTypes[0]?,c.argTypes[1]? with
    | .builtin .append,some [d,x],some st,some xt=>match P.underlying st,P.underlying xt with
     | some (.slice el),some (.slice _) =>match aW P el,P.info? el,zeroOf P el with
      | some e,some inf,some z=>bif beq z.cells.length e&&ble e 40&&ble inf.bytes 1000&&ble 1 inf.bytes&&ble 1 e then
       match d with
       | .gl b e' off len _=>match s.h.look b with
        | some (.lst e2 xs) =>bif beq e' e&&beq e2 e then
          match x with
          | .gl b2 e1 off2 len2 _=>match s.h.look b2,P.underlying el with
           | some (.lst e3 ys),some _=>bif beq e1 e&&beq e3 e then
             aBU s (.gl s.h.nb e 0 n false) ((s.h.del b).new (.lst e zs)) [off2+len2≤ys.length,off+len≤xs.length,n≤1000000,(xs.drop off).take len++ (ys.drop off2).take len2=zs,len+len2=n]else none
           |_,_=>none
          | x=>match kP P s.h el e x with
           |some ys=>aBU s (.gl s.h.nb e 0 n false) ((s.h.del b).new (.lst e zs)) [off+len≤xs.length,n≤1000000,(xs.drop off).take len++ys=zs,len+ys.length=n]
           |none=>none
          else none
        |_=>none
       | .ilst e' [] true=>bif beq e' e then match kP P s.h el e x with
        |some ys=>aBU s (.gl s.h.nb e 0 n false) (s.h.new (.lst e zs)) [n≤1000000,ys=zs,ys.length=n]
        |none=>none
        else none
       |_=>none
       else none
      |_,_,_=>none
     |_,_=>none
    |_,_,_,_=>none
   |_=>none
  |none=>none
 | .nilL j e=>match s.fr.tm.at j with
  |some .nils=>some (⟨{s.fr with tm:=s.fr.tm.put j (.gl s.h.nb e 0 0 false)},s.cs,s.h.new (.lst e [])⟩,[])
  |_=>none
 | .nilI j e=>match s.fr.tm.at j with
  |some .nils=>some (⟨{s.fr with tm:=s.fr.tm.put j (.ilst e [] true)},s.cs,s.h⟩,[])
  |_=>none
 | .frz j b ys=>match s.fr.tm.at j,s.h.look b with
  |some v,some (.lst e xs) =>some (⟨{s.fr with tm:=s.fr.tm.put j (AV.frz b ys v)},s.cs,s.h.del b⟩,[keylessL xs=true,frzOk b e xs ys v])
  |_,_=>none
 | .cnil k o e=>match s.h.look k with
  | some (.cells t n ol sup) =>match t.at o with
   |some .nils=>bif blt k s.h.nb then some (⟨s.fr,s.cs,(s.h.new (.lst e [])).set k (.cells (t.put o (.gl s.h.nb e 0 0 false)) n ol sup)⟩,[])else none
   |_=>none
  |_=>none
 | .cnilI k o e=>match s.h.look k with
  | some (.cells t n ol sup) =>match t.at o with
   |some .nils=>some (⟨s.fr,s.cs,s.h.set k (.cells (t.put o (.ilst e [] true)) n ol sup)⟩,[])
   |_=>none
  |_=>none
 | .cfrz k o b ys=>bif beq k b then none else match s.h.look k,s.h.look b with
  | some (.cells t n ol sup),some (.lst e xs) =>match t.at o with
   |some v=>some (⟨s.fr,s.cs,(s.h.del b).set k (.cells (t.put o (AV.frz b ys v)) n ol sup)⟩,[keylessL xs=true,frzOk b e xs ys v])
   |none=>none
  |_,_=>none
 | .lkeep b js=>match s.h.look b with
  |some (.loop st pe fn tm nt ps aS bd df) =>some (⟨s.fr,s.cs,s.h.set b (.loop st pe fn (aHU (aEl tm js)) nt ps aS bd df)⟩,[])
  |_=>none
 | .cweak k o=>match s.h.look k with
  | some (.cells t n ol sup) =>match t.at o with
   |some (.gl b e off l true) =>some (⟨s.fr,s.cs,s.h.set k (.cells (t.put o (.gl b e off l false)) n ol sup)⟩,[])
   |some (.ilst e xs true) =>some (⟨s.fr,s.cs,s.h.set k (.cells (t.put o (.ilst e xs false)) n ol sup)⟩,[])
   |_=>none
  |_=>none
 | .weak j=>match s.fr.tm.at j with
  |some (.gl b e o l true) =>some (⟨{s.fr with tm:=s.fr.tm.put j (.gl b e o l false)},s.cs,s.h⟩,[])
  |_=>none
 | .unname j b=>match s.fr.tm.at j,s.h.look b with
  |some (.val u),some (.lstv u' e xs) =>some (⟨{s.fr with tm:=s.fr.tm.put j (.gl b e 0 xs.length false)},s.cs,s.h.set b (.lst e xs)⟩,[u=u'])
  |_,_=>none
 | .vfrz b o ys=>match s.h.look b,s.h.look o with
  |some (.lstv u e xs),some (.lst eo zs) =>bif beq o b then none else some (⟨s.fr,s.cs,(s.h.del b).set o (.lst eo ys)⟩,[zs≠ [],keylessL xs=true,VQ u e xs zs ys])
  |_,_=>none
 | .mclose b es c k v=>match s.h.look b with
  |some (.map es' c') =>some (⟨s.fr,s.cs,s.h.set b (.mapx es c k v)⟩,[es'=es++ [(k,v,c)],c'=Nat.succ c,KL es])
  |_=>none
 | .mfrz b n ys=>bif beq b n then none else match s.h.look b,s.h.look n with
  |some (.mapx es c k v),some (.lst e xs) =>some (⟨s.fr,s.cs,(s.h.del n).set b (.map (es++ [(k,AV.frz n ys v,c)]) (Nat.succ c))⟩,[keyless k=true,keylessL xs=true,frzOk n e xs ys v])
  |_,_=>none
 | .appN zs n=>match lL s with
  | some o=>match aHM P s.h s.fr.tm o zs n with
   |some (v,h',ps) =>aBU s v h' ps
   |none=>none
  |none=>none
 | .lfrz k b ys=>bif beq k b then none else match s.h.look k,s.h.look b with
  |some (.lst e xs),some (.lst e1 zs) =>some (⟨s.fr,s.cs,(s.h.del b).set k (.lst e (frzL b ys xs))⟩,[xs≠ [],keylessL zs=true,AV.frzOkL b e1 zs ys xs])
  |_,_=>none
 | .lw b ys=>match s.h.look b with
  |some (.lst e xs) =>some (⟨s.fr,s.cs,s.h.set b (.lst e ys)⟩,[xs≠ [],VW xs ys])
  |_=>none
 | .toL j g cs=>match s.fr.tm.at j with
  | some (.slice b 0 n c e x) =>match s.h.look b with
   | some (.cells t _ [] false) =>bif g||beq e 1 then
     some (⟨{s.fr with tm:=s.fr.tm.put j (.gl b e 0 n (x&&beq c n))},s.cs,s.h.set b (.lst e (uJ g e n cs))⟩,[getCells t 0 (n*e) =some cs,cJ cs=true])else none
   |_=>none
  |_=>none
 | .ctoL k o g cs=>match s.h.look k with
  | some (.cells t n ol sup) =>match t.at o with
   | some (.slice b 0 n2 c e x) =>bif beq k b then none else match s.h.look b with
    | some (.cells t2 _ [] false) =>bif g||beq e 1 then
      some (⟨s.fr,s.cs,(s.h.set b (.lst e (uJ g e n2 cs))).set k (.cells (t.put o (.gl b e 0 n2 (x&&beq c n2))) n ol sup)⟩,[getCells t2 0 (n2*e) =some cs,cJ cs=true])else none
    |_=>none
   |_=>none
  |_=>none
def pX (P:Program) :List Ins→AS→Option (AS×List Prop)
 | [],s=>some (s,[])
 | i::is,s=>match xstep P i s with
  |none=>none
  | some (s',ps) =>match pX P is s' with
   |none=>none
   |some (s'',qs) =>some (s'',ps++qs)
end
def AllP :List Prop→Prop
 | [] =>True
 | [p] =>p
 |p::ps=>p∧AllP ps
theorem AllP.mem :∀ {ps:List Prop},AllP ps→∀p∈ps,p
 | [p],h,q,hq=>by rw [mem_singleton]at hq;rw [hq];exact h
 | p::p'::ps,h,q,hq=>by
  rcases List.mem_cons.1 hq with rfl|hq
  ·exact h.1
  ·exact AllP.mem h.2 q hq
theorem hI {call:bK}{s:AS}{o:Oper}(ho:lL s=some o){v:AV}{h':Hp}(hv:jH P s.h s.fr.tm o=some (.val v h')){fr:AFrame}(hf:s.fr.finish v=some fr) :kU P call s=some ⟨fr,s.cs,h'⟩ :=by
 obtain⟨afr,cs,h⟩ :=s;obtain⟨fn,tm,nt,todo,defers,mode,kind,ro⟩ :=afr;simp only at hv hf ⊢;unfold lL at ho;simp only at ho;split at ho
 · rename_i all i o' rest k;split at ho
   · rename_i hw;cases ho;simp only [AFrame.finish]at hf;split at hf
     · rename_i tm' htm;cases hf;simp only [kU,hw,hv,htm]
     ·cases hf
   ·cases ho
 ·cases ho
theorem sU {call:bK}{s:AS}{o:Oper}(ho:lL s=some o){c:AIn}(hv:jH P s.h s.fr.tm o=some (.call c)){g:AFrame}(hg:dB P s.h c=some g) :kU P call s=some ⟨g,s.fr::s.cs,s.h⟩ :=by
 obtain⟨afr,cs,h⟩ :=s;obtain⟨fn,tm,nt,todo,defers,mode,kind,ro⟩ :=afr;simp only at hv hg ⊢;unfold lL at ho;simp only at ho;split at ho
 · rename_i all i o' rest k;split at ho
   · rename_i hw;cases ho;simp only [kU,hw,hv,qJ,hg]
   ·cases ho
 ·cases ho
theorem iW {s s':AS}{v:AV}{h':Hp}{obl ps:List Prop}(hg:aBU s v h' obl=some (s',ps)) :∃fr,s.fr.finish v=some fr∧s'= ⟨fr,s.cs,h'⟩ ∧ps=obl:=by
 unfold aBU at hg;split at hg
 ·rename_i fr hf;cases hg;exact⟨fr,hf,rfl,rfl⟩
 ·cases hg
theorem put_same {α:Type}{t:T α}{k:Nat}{v:α}(h:t.at k=some v) :∀j,(t.put k v).at j=t.at j:=fun j=>by
 rw [T.at_put];split
 ·rename_i e;rw [e,h]
 ·rfl
theorem aYY {E:Emb}{fr:AFrame}{c:Frame}(f:FR E fr c){j:Nat}{v:AV}(h:fr.tm.at j=some v) :FR E {fr with tm:=fr.tm.put j v} c:=
 ⟨f.fn,⟨f.tm.1,fun t a e=>f.tm.2 t a (by rw [←put_same h t];exact e)⟩,f.todo,f.defers,f.mode,f.kind,f.round⟩
theorem aEm {m:Nat}{fr:AFrame}{cs:List AFrame}{h:Hp}{j:Nat}{v:AV}(hj:fr.tm.at j=some v) :LeadsM P m ⟨fr,cs,h⟩ ⟨{fr with tm:=fr.tm.put j v},cs,h⟩ :=
 fun hm E cf ccs w _ f fs r=> ⟨E,cf,ccs,w,Steps.refl _ _,aYY f hj,fs,r,ExtM.refl hm⟩
theorem zI {h:Hp}{b:Nat}{o:AObj}(hb:h.look b=some o) :∀x,(h.set b o).look x=h.look x:=fun x=>by
 rw [aX];split
 ·rename_i e;rw [e,hb]
 ·rfl
theorem zY {m:Nat}{fr:AFrame}{cs:List AFrame}{h h':Hp}(hl:∀x o,h'.look x=some o→h.look x=some o)(hn:h'.nb=h.nb) :LeadsM P m ⟨fr,cs,h⟩ ⟨fr,cs,h'⟩ :=
 fun hm E cf ccs w _ f fs r=> ⟨E,cf,ccs,w,Steps.refl _ _,f,fs,r.sub hl (Nat.le_of_eq hn.symm),⟨fun _ _=>rfl,fun _ _ e=>e,le_refl _,fun _ _ _=>rfl,fun b o L e k i hi _=> ⟨b,o,L,hl b o e,k,hi⟩,by rw [hn];exact hm,rfl,rfl,rfl,fun _ _=>rfl,fun _ _ e _=>.inl e,fun b o e _=> ⟨o,hl b o e⟩⟩⟩
theorem aTH {m:Nat}{fr:AFrame}{cs:List AFrame}{h:Hp}{tm':T AV}(ht:∀t a,tm'.at t=some a→fr.tm.at t=some a) :LeadsM P m ⟨fr,cs,h⟩ ⟨{fr with tm:=tm'},cs,h⟩ :=
 fun hm E cf ccs w _ f fs r=> ⟨E,cf,ccs,w,Steps.refl _ _,⟨f.fn,⟨f.tm.1,fun t a e=>f.tm.2 t a (ht t a e)⟩,f.todo,f.defers,f.mode,f.kind,f.round⟩,fs,r,ExtM.refl hm⟩
theorem aTI {m n:Nat}{s:AS}{o:Oper}(ho:lL s=some o){t:TypeId}{l c:Operand}{d:Nat}(hop:o.op= .makeSlice t l c)(hdst:o.dst=some d){k1 k2:IntKind}(hl:bI s.fr.tm l=some (.int k1 n))(hc:bI s.fr.tm c=some (.int k2 n)){el:TypeId}(hu:P.underlying t=some (.slice el))
  {e:Nat} (hsz:aW P el=some e) {z:AV} (hz:zeroOf P el=some z) {inf:TypeInfo} (hinf:P.info? el=some inf) {ed:TypeDesc} (_hed:P.underlying el=some ed) (hcd: (ble e 40&&ble 1 e&&beq z.cells.length e&&ble inf.bytes 1000) =true) (h1:cJ z.cells=true) (hg:isAggD ed=true∨beq e 1=true) (hn:n<100000)
  {fr:AFrame} (hf:s.fr.finish (.gl s.h.nb e 0 n true) =some fr) :LeadsM P m s ⟨fr,s.cs,s.h.new (.lst e (replicate n (bif isAggD ed then .agg z.cells else z.cells.headD .undef)))⟩ :=by
 have hzl:z.cells.length=e:=by simp only [and_eq_true]at hcd;exact eq_of_beq_eq_true hcd.1.2
 have hv:jH P s.h s.fr.tm o=some (.val (.slice s.h.nb 0 n n e true) (s.h.newCells (kO z.cells n))) :=by
  unfold jH;have hcd': (ble e 40&&ble 1 e&&beq z.cells.length e&&ble inf.bytes 1000) =true:=hcd;simp only [fK,hop,yU,hl,hc,hu,hsz,hz,hinf,hcd',cond];rw [if_pos ⟨by omega,Int.le_refl _,by omega⟩];rfl
 obtain⟨fr0,hf0,hfr⟩ :∃fr0,s.fr.finish (.slice s.h.nb 0 n n e true) =some fr0∧∃tm0,d<s.fr.nt∧tm0=s.fr.tm∧fr0.tm=tm0.put d (.slice s.h.nb 0 n n e true) ∧fr= {fr0 with tm:=tm0.put d (.gl s.h.nb e 0 n true)}:=by
  unfold lL at ho;split at ho
  · rename_i all i o' rest k hm htd;split at ho
    · cases ho;unfold AFrame.finish at hf ⊢;rw [htd]at hf ⊢;simp only [hdst,gG]at hf ⊢;cases hb:blt d s.fr.nt
      case false=>rw [hb]at hf;cases hf
      rw [hb]at hf;simp only [cond]at hf ⊢;cases hf;exact⟨_,rfl,s.fr.tm,by rw [cO]at hb;exact of_decide_eq_true hb,rfl,rfl,rfl⟩
    ·cases ho
  ·cases ho
 obtain⟨tm0,hd,_,e1,e2⟩ :=hfr;have hrl: (kO z.cells n).length=n*e:=by rw [mV,hzl]
 have hlook: (s.h.newCells (kO z.cells n)).look s.h.nb=some (.cells (putCells .leaf 0 (kO z.cells n)) (kO z.cells n).length [] false) :=by
  unfold Hp.newCells;rw [cC,if_pos rfl]
 have hget:getCells (putCells .leaf 0 (kO z.cells n)) 0 (n*e) =some (kO z.cells n) :=by
  rw [←hrl];exact aAU _ _ _ (fun j hj=>by rw [Nat.zero_add,aY,if_pos hj])
 have step1:=cV (P:=P) (m:=m) bR (hI (call:=oQ) ho hv hf0)
 have step2:=iD (P:=P) (m:=m) (fr:=fr0) (cs:=s.cs) (h:=s.h.newCells (kO z.cells n)) (j:=d) (by rw [e1,T.at_put,if_pos rfl]) (wY (m:=m) (c:=n) (x:=true) (g:=isAggD ed) hlook hget (aCF h1 n) (fun hgf=>by
  rcases hg with g|g
  ·rw [hgf]at g;cases g
  ·exact eq_of_beq_eq_true g))
 refine(step1.trans step2).trans ?_;rw [aEj (isAggD ed) hzl n];have hbeq: (true&&beq n n) =true:=by simp
 rw [hbeq]
 have a:=zY (P:=P) (m:=m) (fr:={fr0 with tm:=fr0.tm.put d (.gl s.h.nb e 0 n true)}) (cs:=s.cs) (h:= (s.h.newCells (kO z.cells n)).set s.h.nb (.lst e (replicate n (bif isAggD ed then .agg z.cells else z.cells.headD .undef)))) (h':=s.h.new (.lst e (replicate n (bif isAggD ed then .agg z.cells else z.cells.headD .undef)))) (fun x ox ex=>by
  rw [cC]at ex;rw [aX];unfold Hp.newCells;rw [cC];by_cases hx:x=s.h.nb
  ·rw [if_pos hx]at ex ⊢;exact ex
  ·rw [if_neg hx]at ex ⊢;rw [if_neg hx];exact ex) rfl
 refine a.trans ?_;rw [e2]
 exact aTH (P:=P) (fr:={fr0 with tm:=fr0.tm.put d (.gl s.h.nb e 0 n true)}) (tm':=tm0.put d (.gl s.h.nb e 0 n true)) (fun t a ha=>by
  show(fr0.tm.put d (.gl s.h.nb e 0 n true)).at t=some a;rw [e1,T.at_put];rw [T.at_put]at ha;split at ha
  ·rename_i ht;rw [if_pos ht];exact ha
  ·rename_i ht;rw [if_neg ht,T.at_put,if_neg ht];exact ha)
theorem aEn {h:Hp}{ats:Array TypeId}{b e off len:Nat}{ex:Bool}{x:AV}:aappend P h ats (.gl b e off len ex) x=none:=by
 unfold aappend;simp only [cond_eq_ite]
 repeat' split
 all_goals first|rfl| (split<;>rfl)
theorem aHV {h:Hp}{ats:Array TypeId}{e:Nat}{xs:List AV}{ex:Bool}{x:AV}:aappend P h ats (.ilst e xs ex) x=none:=by
 unfold aappend;simp only [cond_eq_ite]
 repeat' split
 all_goals first|rfl| (split<;>rfl)
set_option maxHeartbeats 2000000 in
theorem aDe {α:Type}:∀ {l:List (Nat×α)} {k:Nat} {v:α},(aHU l).at k=some v→ (k,v) ∈l
 | [],k,v,h=>by rw [aHU,T.at_leaf]at h;cases h
 | (j,u) ::r,k,v,h=>by
  rw [aHU,T.at_put]at h;split at h
  ·rename_i hk;cases h;subst hk;exact mem_cons_self ..
  ·exact mem_cons_of_mem _ (aDe h)
theorem rF {α:Type}{t:T α}:∀ {js:List Nat} {k:Nat} {v:α},(k,v) ∈aEl t js→t.at k=some v
 | [],_,_,h=>by cases h
 | j ::js,k,v,h=>by
  simp only [aEl]at h;split at h
  · rename_i u hu;rcases List.mem_cons.1 h with e|h
    ·cases e;exact hu
    ·exact rF h
  ·exact rF h
theorem xstep_sound {i:Ins}{s s':AS}{ps:List Prop}{m:Nat}(h0:xstep P i s=some (s',ps))(hp:∀p∈ps,p) :LeadsM P m s s':=by
 cases i with
 | run n=>
  simp only [xstep]at h0;split at h0
  · rename_i s1 h1;cases h0;rw [sP]at h1;exact(pW bR h1).toM
  ·cases h0
 | cweak k o=>
  simp only [xstep]at h0;split at h0
  · rename_i t n ol sup hk;split at h0
    ·rename_i hv;cases h0;exact iE hk hk hv aEk
    ·rename_i hv;cases h0;exact iE hk hk hv aJ6
    ·cases h0
  ·cases h0
 | weak j=>
  simp only [xstep]at h0;split at h0
  · rename_i b e o l hj;cases h0;exact iD hj aEk
  ·cases h0
 | unname j b=>
  simp only [xstep]at h0;split at h0
  · rename_i u u' e xs hj hb;cases h0;have q0:=mem1 hp;subst q0;exact iD hj (aAV hb)
  ·cases h0
 | vfrz b o ys=>
  simp only [xstep]at h0;split at h0
  · rename_i u e xs eo zs hb ho;cases hne:beq o b
    case true=>rw [hne]at h0;cases h0
    rw [hne]at h0;simp only [cond]at h0;cases h0;have q0:=hp _ (mem_cons_self ..);have q1:=hp _ (mem_cons_of_mem _ (mem_cons_self ..));have q2:=hp _ (mem_cons_of_mem _ (mem_cons_of_mem _ (mem_cons_self ..)));refine aM2 hb ho (fun e=>?_) q0 q1 q2;rw [e,beq_refl]at hne;cases hne
  ·cases h0
 | appN zs n=>
  simp only [xstep]at h0;split at h0
  · rename_i o ho;split at h0
    · rename_i v h' qs hv;obtain⟨fr,hf,rfl,rfl⟩ :=iW h0;exact cV bR (hI ho (aAS hv hp) hf)
    ·cases h0
  ·cases h0
 | mclose b es c k v=>
  simp only [xstep]at h0;split at h0
  · rename_i es' c' hb;cases h0;exact aHT hb (hp _ (mem_cons_self ..)) (hp _ (mem_cons_of_mem _ (mem_cons_self ..))) (hp _ (mem_cons_of_mem _ (mem_cons_of_mem _ (mem_cons_self ..))))
  ·cases h0
 | mfrz b n ys=>
  simp only [xstep]at h0;cases hc:beq b n
  case true=>rw [hc]at h0;cases h0
  rw [hc]at h0;simp only [cond]at h0;have hne:b≠n:=fun e=>by subst e;simp at hc
  split at h0
  · rename_i es c k v e xs hb hn;cases h0;exact aM3 hb (by rw [kV,if_neg hne];exact hb) (kL hn (hp _ (mem_cons_of_mem _ (mem_cons_self ..))) (hp _ (mem_cons_of_mem _ (mem_cons_of_mem _ (mem_cons_self ..))))) (hp _ (mem_cons_self ..))
  ·cases h0
 | lfrz k b ys=>
  simp only [xstep]at h0;cases hc:beq k b
  case true=>rw [hc]at h0;cases h0
  rw [hc]at h0;simp only [cond]at h0;have hne:k≠b:=fun e=>by subst e;simp at hc
  split at h0
  · rename_i e xs e1 zs hk hb;cases h0;have q0:=hp _ (mem_cons_self ..);have q1:=hp _ (mem_cons_of_mem _ (mem_cons_self ..));have q2:=hp _ (mem_cons_of_mem _ (mem_cons_of_mem _ (mem_cons_self ..)));have e2:AV.frz b ys (.tup xs) = .tup (frzL b ys xs) :=by simp only [AV.frz]
    exact aM4 hk (by rw [kV,if_neg hne];exact hk) q0 (fun hm=>e2 ▸ kL hb q1 (by simp only [frzOk];exact q2) hm)
  ·cases h0
 | lw b ys=>
  simp only [xstep]at h0;split at h0
  · rename_i e xs hb;cases h0;have q0:=hp _ (mem_cons_self ..);have q1:=hp _ (mem_cons_of_mem _ (mem_cons_self ..));exact aTE hb q0 q1
  ·cases h0
 | lkeep b js=>
  simp only [xstep]at h0;split at h0
  · rename_i st pe fn tm nt ps aS bd df hb;cases h0;intro hm E cf ccs w base f fs r;refine⟨E,cf,ccs,w,Steps.refl _ _,f,fs,r.reobj hb rfl (fun L hL=>?_) rfl rfl rfl,iV (ExtM.refl hm) hb⟩;obtain⟨tmps,Ld,h1,h2,h3⟩ :=r.objL hb hL;exact⟨tmps,Ld,h1,h2,h3.1,fun t a e=>h3.2 t a (rF (aDe e))⟩
  ·cases h0
 | b j v=>
  simp only [xstep]at h0;split at h0
  · rename_i b hb;cases h0;have:=mem1 hp;subst this;exact aEm hb
  ·cases h0
 | set j v=>
  simp only [xstep]at h0;split at h0
  · rename_i u hu;cases h0;have:=mem1 hp;subst this;exact aEm hu
  ·cases h0
 | cset k o v=>
  simp only [xstep]at h0;split at h0
  · rename_i t n ol sup hk;split at h0
    · rename_i u hu;cases h0;have:=mem1 hp;subst this;exact iE hk hk hu (aGm fun _ _ h=>h)
    ·cases h0
  ·cases h0
 | lset b xs=>
  simp only [xstep]at h0;split at h0
  · rename_i e ys hb;cases h0;have:=mem1 hp;subst this;exact zY (fun x o e=>by rw [zI hb]at e;exact e) rfl
  ·cases h0
 | call v h'=>
  simp only [xstep]at h0;split at h0
  · rename_i o ho;split at h0
    · rename_i c hc;unfold aBU at h0;split at h0
      · rename_i fr hf;cases h0;obtain⟨g,hg,he⟩ :=mem1 hp;exact zH (cV bR (sU ho hc hg)) he hf
      ·cases h0
    ·cases h0
  ·cases h0
 | callP ch h'=>
  simp only [xstep]at h0;split at h0
  · rename_i o ho;split at h0
    · rename_i c hc;cases h0;obtain⟨g,hg,he⟩ :=mem1 hp;exact vS (cV bR (sU ho hc hg)) he
    ·cases h0
  ·cases h0
 | ans a=>
  simp only [xstep]at h0;split at h0
  · rename_i o ho;split at h0
    · rename_i v qs hv;obtain⟨fr,hf,rfl,rfl⟩ :=iW h0;exact cV bR (hI ho (nL hv hp) hf)
    ·cases h0
  ·cases h0
 | pure v=>
  simp only [xstep]at h0;split at h0
  · rename_i o ho;split at h0
    · rename_i f args hc;obtain⟨fr,hf,rfl,rfl⟩ :=iW h0;obtain⟨g,hg,he⟩ :=mem1 hp s.h;exact zH (cV bR (sU ho hc hg)) he hf
    ·cases h0
  ·cases h0
 | throws ch=>
  simp only [xstep]at h0;split at h0
  · rename_i o ho;split at h0
    · rename_i f args hc;cases h0;obtain⟨g,hg,he⟩ :=mem1 hp s.h;exact vS (cV bR (sU ho hc hg)) he
    ·cases h0
  ·cases h0
 | mk n =>
  simp only [xstep]at h0;split at h0
  · rename_i o ho;split at h0
    · rename_i t l c d hop hdst;split at h0
      · rename_i k1 l' k2 c' hl hc;split at h0
        · rename_i el hu;split at h0
          · rename_i e z inf ed hsz hz hinf hed;cases hcd: (ble e 40&&ble 1 e&&beq z.cells.length e&&ble inf.bytes 1000&&cJ z.cells&& (isAggD ed||beq e 1))
            case false=>rw [hcd]at h0;cases h0
            rw [hcd]at h0;simp only [cond]at h0;split at h0
            · rename_i fr hf;cases h0;have q1:=hp _ (mem_cons_self ..);have q2:=hp _ (mem_cons_of_mem _ (mem_cons_self ..));have q3:=hp _ (mem_cons_of_mem _ (mem_cons_of_mem _ (mem_cons_self ..)));subst q1 q2;simp only [and_eq_true,or_eq_true]at hcd;obtain⟨⟨⟨⟨⟨c1,c2⟩,c3⟩,c4⟩,c5⟩,c6⟩ :=hcd;exact aTI ho hop hdst hl hc hu hsz hz hinf hed (by simp [c1,c2,c3,c4]) c5 c6 q3 hf
            ·cases h0
          ·cases h0
        ·cases h0
      ·cases h0
    ·cases h0
  ·cases h0
 | reg is=>
  simp only [xstep]at h0;split at h0
  · rename_i id ops k hm htd;split at h0
    · rename_i tm h' qs hr;cases h0;exact aAT hm htd hr hp
    ·cases h0
  ·cases h0
 | regA is os=>
  simp only [xstep]at h0;split at h0
  · rename_i id ops k hm htd;split at h0
    · rename_i tm h' qs hr;cases h0;exact aAT hm htd hr hp
    ·cases h0
  ·cases h0
 | nxt c d =>
  simp only [xstep]at h0;split at h0
  · rename_i o ho;split at h0
    · rename_i it hop;split at h0
      · rename_i r hr;split at h0
        · rename_i l n pos hb;obtain⟨fr,hf,rfl,rfl⟩ :=iW h0;have q0:=hp _ (mem_cons_self ..);have q1:=hp _ (mem_cons_of_mem _ (mem_cons_self ..));refine cV bR (hI ho ?_ hf);have hbl:blt pos l=true:=by rw [cO];exact decide_eq_true q0
          unfold jH;simp only [fK,hop,uI,hr,hb,hbl,cond,q1]
        ·cases h0
      ·cases h0
    ·cases h0
  ·cases h0
 | nxtE =>
  simp only [xstep]at h0;split at h0
  · rename_i o ho;split at h0
    · rename_i it hop;split at h0
      · rename_i r hr;split at h0
        · rename_i l n pos hb;obtain⟨fr,hf,rfl,rfl⟩ :=iW h0;have q0:=mem1 hp;refine cV bR (hI ho ?_ hf);have hbl:blt pos l=false:=by rw [cO];exact decide_eq_false (by omega)
          unfold jH;simp only [fK,hop,uI,hr,hb,hbl,cond]
        ·cases h0
      ·cases h0
    ·cases h0
  ·cases h0
 | mput es' clock'=>
  simp only [xstep]at h0;split at h0
  · rename_i o ho;split at h0
    · rename_i t m k x hop;split at h0
      · rename_i r kv v hm hk hx;split at h0
        · rename_i kt et es clock hu hb;split at h0
          · rename_i kd hkd;cases hc:plainKey kd kv
            case false=>rw [hc]at h0;cases h0
            rw [hc]at h0;simp only [cond]at h0;obtain⟨fr,hf,rfl,rfl⟩ :=iW h0;have q:=mem1 hp;refine cV bR (hI ho ?_ hf);unfold zX at q;unfold jH;simp only [fK,hop,yU,uI,hm,hk,hx,oH,hu,hkd,hb,hc,cond];split at q
            · rename_i i w hfk;cases q;simp only [hfk,yT]
            · rename_i hfk;cases q;simp only [hfk,yT]
            ·cases q
          ·cases h0
        ·cases h0
      ·cases h0
    ·cases h0
  ·cases h0
 | mset b es' clock'=>
  simp only [xstep]at h0;split at h0
  · rename_i es clock hb;cases h0;have q0:=hp _ (mem_cons_self ..);have q1:=hp _ (mem_cons_of_mem _ (mem_cons_self ..));subst q0 q1;exact zY (fun x o e=>by rw [zI hb]at e;exact e) rfl
  ·cases h0
 | st y y' =>
  simp only [xstep]at h0;split at h0
  · rename_i o ho;split at h0
    · rename_i t a x hop;split at h0
      · rename_i b e i k v ha hx;split at h0
        · rename_i e' xs n hb hn;cases hc: (beq e' e&&beq v.cells.length n&&ble (k+n) e&&cJ v.cells)
          case false=>rw [hc]at h0;cases h0
          rw [hc]at h0;simp only [cond]at h0;split at h0
          · rename_i fr hf;cases h0;have q0:=hp _ (mem_cons_self ..);have q1:=hp _ (mem_cons_of_mem _ (mem_cons_self ..));refine cV bR (hI ho (cM ?_ ?_) hf)
            ·simp only [fK,hop,yU,ha,hx]
            ·simp only [vop,hop,yU,ha,hx,hb,hn,hc,cond,q0,q1]
          ·cases h0
        ·cases h0
      ·cases h0
    ·cases h0
  ·cases h0
 | app zs n =>
  simp only [xstep]at h0;split at h0
  · rename_i o ho;split at h0
    · rename_i c hop;split at h0
      · rename_i d x st xt hcal hargs hst hxt;split at h0
        · rename_i el el' hu hu';split at h0
          · rename_i e inf z hsz hinf hz;cases hc: (beq z.cells.length e&&ble e 40&&ble inf.bytes 1000&&ble 1 inf.bytes&&ble 1 e)
            case false=>rw [hc]at h0;cases h0
            rw [hc]at h0;simp only [cond]at h0;split at h0
            · rename_i b e' off len ex;split at h0
              · rename_i e2 xs hb;cases hc2: (beq e' e&&beq e2 e)
                case false=>rw [hc2]at h0;cases h0
                rw [hc2]at h0;simp only at h0;simp only [and_eq_true]at hc2;have ee1:=eq_of_beq_eq_true hc2.1;have ee2:=eq_of_beq_eq_true hc2.2;split at h0
                · rename_i b2 e1 off2 len2 ex2;split at h0
                  · rename_i e3 ys dd hb2 hu3;cases hc3: (beq e1 e&&beq e3 e)
                    case false=>rw [hc3]at h0;cases h0
                    rw [hc3]at h0;simp only at h0;simp only [and_eq_true]at hc3;have ee3:=eq_of_beq_eq_true hc3.2;obtain⟨fr,hf,rfl,rfl⟩ :=iW h0;have y0:=hp _ (mem_cons_self ..);have y2:=hp _ (mem_cons_of_mem _ (mem_cons_self ..));have y3:=hp _ (mem_cons_of_mem _ (mem_cons_of_mem _ (mem_cons_self ..)));have y4:=hp _ (mem_cons_of_mem _ (mem_cons_of_mem _ (mem_cons_of_mem _ (mem_cons_self ..))));have y5:=hp _ (mem_cons_of_mem _ (mem_cons_of_mem _ (mem_cons_of_mem _ (mem_cons_of_mem _ (mem_cons_self ..)))));subst y4 y5;have yl: ((ys.drop off2).take len2).length=len2:=by rw [List.length_take,List.length_drop];omega
                    have y1:kP P s.h el e (.gl b2 e1 off2 len2 ex2) =some ((ys.drop off2).take len2) :=by
                     simp only [kP,hu3,hc3.1,cond,hb2];rw [if_pos ⟨ee3,y0⟩]
                    refine cV bR (hI ho (cM ?_ ?_) hf)
                    ·simp only [fK,hop,oK,hargs,hcal,eI,aEn]
                    · simp only [vop,hop,hcal,hargs,jO,hst,hxt,hu,hu',hsz,hinf,hz,y1,hc,cond,hb,zO,yl];rw [if_pos ⟨ee1,ee2,y2,y3⟩]
                  ·cases h0
                · split at h0
                  · rename_i ys y1;obtain⟨fr,hf,rfl,rfl⟩ :=iW h0;have y2:=hp _ (mem_cons_self ..);have y3:=hp _ (mem_cons_of_mem _ (mem_cons_self ..));have y4:=hp _ (mem_cons_of_mem _ (mem_cons_of_mem _ (mem_cons_self ..)));have y5:=hp _ (mem_cons_of_mem _ (mem_cons_of_mem _ (mem_cons_of_mem _ (mem_cons_self ..))));subst y4 y5;refine cV bR (hI ho (cM ?_ ?_) hf)
                    ·simp only [fK,hop,oK,hargs,hcal,eI,aEn]
                    · simp only [vop,hop,hcal,hargs,jO,hst,hxt,hu,hu',hsz,hinf,hz,y1,hc,cond,hb,zO];rw [if_pos ⟨ee1,ee2,y2,y3⟩]
                  ·cases h0
              ·cases h0
            · rename_i e';cases hc2:beq e' e
              case false=>rw [hc2]at h0;cases h0
              rw [hc2]at h0;simp only at h0;have ee1:=eq_of_beq_eq_true hc2;split at h0
              · rename_i ys y1;obtain⟨fr,hf,rfl,rfl⟩ :=iW h0;have y2:=hp _ (mem_cons_self ..);have y3:=hp _ (mem_cons_of_mem _ (mem_cons_self ..));have y4:=hp _ (mem_cons_of_mem _ (mem_cons_of_mem _ (mem_cons_self ..)));subst y3 y4;refine cV bR (hI ho (cM ?_ ?_) hf)
                ·simp only [fK,hop,oK,hargs,hcal,eI,aHV]
                · simp only [vop,hop,hcal,hargs,jO,hst,hxt,hu,hu',hsz,hinf,hz,y1,hc,cond,zO];rw [if_pos ⟨ee1,y2⟩]
              ·cases h0
            ·cases h0
          ·cases h0
        ·cases h0
      ·cases h0
    ·cases h0
  ·cases h0
 | nilL j e=>
  simp only [xstep]at h0;split at h0
  ·rename_i hj;cases h0;exact iD hj (aBS e)
  ·cases h0
 | nilI j e=>
  simp only [xstep]at h0;split at h0
  ·rename_i hj;cases h0;exact iD hj (aEh e)
  ·cases h0
 | frz j b ys=>
  simp only [xstep]at h0;split at h0
  · rename_i v e xs hj hb;cases h0;exact iD hj (kL hb (hp _ (mem_cons_self ..)) (hp _ (mem_cons_of_mem _ (mem_cons_self ..))))
  ·cases h0
 | cnil k o e=>
  simp only [xstep]at h0;split at h0
  · rename_i t n ol sup hk;split at h0
    · rename_i hv;cases hc:blt k s.h.nb
      case false=>rw [hc]at h0;cases h0
      rw [hc]at h0;simp only [cond]at h0;cases h0;rw [cO]at hc;have:=of_decide_eq_true hc;exact iE hk (by rw [cC,if_neg (by omega)];exact hk) hv (aBS e)
    ·cases h0
  ·cases h0
 | cnilI k o e=>
  simp only [xstep]at h0;split at h0
  · rename_i t n ol sup hk;split at h0
    ·rename_i hv;cases h0;exact iE hk hk hv (aEh e)
    ·cases h0
  ·cases h0
 | cfrz k o b ys=>
  simp only [xstep]at h0;cases hc:beq k b
  case true=>rw [hc]at h0;cases h0
  rw [hc]at h0;simp only [cond]at h0;have hne:k≠b:=fun e=>by subst e;simp at hc
  split at h0
  · rename_i t n ol sup e xs hk hb;split at h0
    · rename_i v hv;cases h0;exact iE hk (by rw [kV,if_neg hne];exact hk) hv (kL hb (hp _ (mem_cons_self ..)) (hp _ (mem_cons_of_mem _ (mem_cons_self ..))))
    ·cases h0
  ·cases h0
 | ctoL k o g cs=>
  simp only [xstep]at h0;split at h0
  · rename_i t n ol sup hk;split at h0
    · rename_i b n2 c e x hv;cases hkb:beq k b
      case true=>rw [hkb]at h0;cases h0
      rw [hkb]at h0;simp only [cond]at h0;have hne:k≠b:=fun e=>by subst e;simp at hkb
      split at h0
      · rename_i t2 k2 hb;cases hc: (g||beq e 1)
        case false=>rw [hc]at h0;cases h0
        rw [hc]at h0;simp only at h0;cases h0;exact iE hk (by rw [aX,if_neg hne];exact hk) hv (wY hb (hp _ (mem_cons_self ..)) (hp _ (mem_cons_of_mem _ (mem_cons_self ..))) (fun hg=>by subst hg;simp only [Bool.false_or]at hc;exact eq_of_beq_eq_true hc))
      ·cases h0
    ·cases h0
  ·cases h0
 | toL j g cs=>
  simp only [xstep]at h0;split at h0
  · rename_i b n c e x hj;split at h0
    · rename_i t k hb;cases hc: (g||beq e 1)
      case false=>rw [hc]at h0;cases h0
      rw [hc]at h0;simp only [cond]at h0;cases h0;exact iD hj (wY hb (hp _ (mem_cons_self ..)) (hp _ (mem_cons_of_mem _ (mem_cons_self ..))) (fun hg=>by subst hg;simp only [Bool.false_or]at hc;exact eq_of_beq_eq_true hc))
    ·cases h0
  ·cases h0
theorem fR {m:Nat}:∀ {is:List Ins} {s s':AS} {ps:List Prop},pX P is s=some (s',ps) → (∀p∈ps,p) →LeadsM P m s s'
 | [],s,s',ps,h0,_=>by simp only [pX]at h0;cases h0;exact LeadsM.refl s
 | i ::is,s,s',ps,h0,hp=>by
  simp only [pX]at h0;split at h0
  ·cases h0
  · rename_i s1 p1 h1;split at h0
    ·cases h0
    · rename_i s2 p2 h2;cases h0;exact(xstep_sound h1 (fun p hpp=>hp p (mem_append_left _ hpp))).trans (fR h2 (fun p hpp=>hp p (mem_append_right _ hpp)))
def cP {α:Type}:List (Nat×α) →T α
 | [] =>.leaf
 | (k,v) ::r=> (cP r).put k v
theorem aBV {α:Type}:∀ {l:List (Nat×α)} {k:Nat} {v:α},(cP l).at k=some v→ (k,v) ∈l
 | [],k,v,h=>by rw [cP,T.at_leaf]at h;cases h
 | (j,u) ::r,k,v,h=>by
  rw [cP,T.at_put]at h;split at h
  ·rename_i hk;cases h;subst hk;exact mem_cons_self ..
  ·exact mem_cons_of_mem _ (aBV h)
structure TF where
 fn:Nat
 nt:Nat
 sl:List (Nat×AV)
 todo:List AItem
 defers:List ADef:=[]
 mode:AMode:=.run
 kind:CallKind:=.normal
 roundOf:Option Nat:=none
def TF.fr (f:TF) :AFrame:= ⟨f.fn,cP f.sl,f.nt,f.todo,f.defers,f.mode,f.kind,f.roundOf⟩
structure TS where
 fr:TF
 cs:List TF
 hp:List (Nat×AObj×Bool)
 nb:Nat
def aA (l:List (Nat×AObj×Bool))(nb:Nat) :Hp:= ⟨cP (l.map fun p=> (p.1,p.2.1)),nb⟩
def TS.as (s:TS) :AS:= ⟨s.fr.fr,s.cs.map TF.fr,aA s.hp s.nb⟩
def T.mapT {α β:Type}(f:α→β) :T α→T β
 | .leaf=>.leaf
 | .node l v r=>.node (T.mapT f l) (v.map f) (T.mapT f r)
theorem aEo {α β:Type}(f:α→β) :∀ (t:T α) (k:Nat),(t.mapT f).get k= (t.get k).map f
 | .leaf,k=>rfl
 | .node l v r,k=>by
  rw [T.mapT,T.get_node,T.get_node,aEo f l,aEo f r];split
  ·rfl
  ·split<;>rfl
theorem aDf {α β:Type}(f:α→β)(t:T α)(k:Nat) : (t.mapT f).at k= (t.at k).map f:=aEo f t _
def AObj.ren (τ:Nat→Nat) :AObj→AObj
 | .cells t n ol sup=>.cells (t.mapT (AV.ren τ)) n (ol.map τ) sup
 | .map es c=>.map (es.map fun p=> (AV.ren τ p.1,AV.ren τ p.2.1,p.2.2)) c
 | .siter l n p=>.siter l n p
 | .mapx es c k v=>.mapx es c (AV.ren τ k) (AV.ren τ v)
 | .loop st pe fn tm nt ps aS bd df=>.loop st pe fn (tm.mapT (AV.ren τ)) nt ps aS bd (τ df)
 | .defd t=>.defd t
 | .lst e xs=>.lst e (AV.renL τ xs)
 | .lstv u e xs=>.lstv u e (AV.renL τ xs)
 | .miter m s l n=>.miter (τ m) s l n
 | .zone w rs Z=>.zone w (List.map τ rs) Z
def AItem.ren (τ:Nat→Nat) :AItem→AItem
 | .inRF l=>.inRF (τ l)
 | .junk=>.junk
 | .endRF l=>.endRF (τ l)
 |i=>i
def ADef.ren (τ:Nat→Nat) :ADef→ADef
 | .fn f args=>.fn f (AV.renL τ args)
 | .col r=>.col (τ r)
def AMode.ren (τ:Nat→Nat) :AMode→AMode
 | .pan ch=>.pan (ch.map fun p=> (AV.ren τ p.1,p.2))
 |m=>m
theorem bC6 {τ:Nat→Nat}{E:Emb}{tm:T AV}{nt:Nat}{tmps:Array Value}(r:TR E (tm.mapT (AV.ren τ)) nt tmps) :TR (E.ren τ) tm nt tmps:=
 ⟨r.1,fun t a e=>by
  obtain⟨v,g1,g2⟩ :=r.2 t (AV.ren τ a) (by rw [aDf,e];rfl);exact⟨v,g1,(eC τ E a v).1 g2⟩⟩
theorem aPJ {τ:Nat→Nat}{E:Emb}:∀ {es:List (AV×AV×Nat)} {us:List MapEntry},ERs E (es.map fun p=> (AV.ren τ p.1,AV.ren τ p.2.1,p.2.2)) us→ERs (E.ren τ) es us
 | [],_,r=>by simpa [ERs]using r
 | p::es,_,r=>by
  simp only [map_cons,ERs]at r ⊢;obtain⟨u,us',h1,h2,h3,h4,h5⟩ :=r;exact⟨u,us',h1,(eC τ E _ _).1 h2,(eC τ E _ _).1 h3,h4,aPJ h5⟩
theorem bC7 {τ:Nat→Nat}{E:Emb}{H:Array Obj}{L:Loc}{o:AObj}(r:OR E H L (o.ren τ)) :OR (E.ren τ) H L o:=by
 cases o with
 | cells t n ol sup=>
  obtain⟨C,el,h1,h2,h3⟩ :=r;refine⟨C,el,h1,h2,fun i a e=>?_⟩;obtain⟨g1,v,g2,g3⟩ :=h3 i (AV.ren τ a) (by rw [aDf,e];rfl);exact⟨g1,v,g2,(eC τ E a v).1 g3⟩
 |map es c=>obtain⟨ES,h1,h2⟩ :=r;exact⟨ES,h1,aPJ h2⟩
 |siter l n p=>exact r
 | mapx es c k v=>
  obtain⟨ES,h1,h2,h3⟩ :=r;refine⟨ES,h1,?_,h3⟩;obtain⟨us,vs,e1,e2,e3⟩ :=ERs.split h2;rw [e1];refine ERs.join (h3 E _ us rfl e2) ?_;simp only [ERs]at e3 ⊢;obtain⟨u,us',q1,q2,q3,q4,q5⟩ :=e3;exact⟨u,us',q1,(eC τ E _ _).1 q2,(eC τ E _ _).1 q3,q4,q5⟩
 |loop st pe fn tm nt ps aS bd df=>obtain⟨tmps,Ld,h1,h2,h3⟩ :=r;exact⟨tmps,Ld,h1,h2,bC6 h3⟩
 |defd t=>exact r
 |lst e xs=>obtain⟨C,el,vs,h1,h2,h3,h4⟩ :=r;exact⟨C,el,vs,h1,h2,(mM τ E xs vs).1 h3,h4⟩
 |miter m s l n=>obtain⟨Lm,h1,h2,h3⟩ :=r;exact⟨Lm,h1,h2,h3⟩
 | zone w0 r0 Z=>
  obtain⟨r1,Ls,r2,r3⟩ :=r;exact⟨r1,Ls,by rw [List.map_map]at r2;exact r2,r3⟩
 | lstv u e xs=>
  obtain⟨C,el,vs,h1,h2,h3,h4,h5,h6⟩ :=r;have hl: (AV.renL τ xs).length=xs.length:=by rw [←h3.length,((mM τ E xs vs).1 h3).length]
  exact⟨C,el,vs,h1,h2,(mM τ E xs vs).1 h3,h4,h5,by rw [hl]at h6;exact h6⟩
def AObj.kl :AObj→Prop
 | .lst _ xs=>keylessL xs=true
 | .lstv _ _ xs=>keylessL xs=true
 | .map es _=>∀e∈es,keyless e.1=true∧keyless e.2.1=true
 |_=>False
theorem aTJ {E E':Emb}(he:E.imm=E'.imm) :∀ {es:List (AV×AV×Nat)} {us:List MapEntry},(∀e∈es,keyless e.1=true∧keyless e.2.1=true) →ERs E es us→ERs E' es us
 | [],_,_,r=>by simpa [ERs]using r
 | e::es,_,hk,r=>by
  simp only [ERs]at r ⊢;obtain⟨u,us',h1,h2,h3,h4,h5⟩ :=r;have e2:E.p=E'.p:=by simp [Emb.p,he]
  have k:=hk e (mem_cons_self ..);have q1:=dW k.1 h2;have q2:=dW k.2 h3;rw [e2]at q1 q2;exact⟨u,us',h1,VR.of_p q1,VR.of_p q2,h4,aTJ he (fun x hx=>hk x (mem_cons_of_mem _ hx)) h5⟩
theorem bCc {E E':Emb}(he:E.imm=E'.imm){H:Array Obj}{L:Loc}{o:AObj}(hk:o.kl)(r:OR E H L o) :OR E' H L o:=by
 cases o with
 | lst e xs=>
  obtain⟨C,el,vs,h1,h2,h3,h4⟩ :=r;refine⟨C,el,vs,h1,h2,?_,h4⟩;have:=eW hk h3;have e2:E.p=E'.p:=by simp [Emb.p,he]
  rw [e2]at this;exact this.of_p
 | lstv u e xs=>
  obtain⟨C,el,vs,h1,h2,h3,h4⟩ :=r;refine⟨C,el,vs,h1,h2,?_,h4⟩;have:=eW hk h3;have e2:E.p=E'.p:=by simp [Emb.p,he]
  rw [e2]at this;exact this.of_p
 |map es c=>obtain⟨ES,h1,h2⟩ :=r;exact⟨ES,h1,aTJ he hk h2⟩
 |_=>exact hk.elim
theorem bC8 {τ:Nat→Nat}{E:Emb}{a:AItem}{i:Item}(r:IR E (a.ren τ) i) :IR (E.ren τ) a i:=by cases a<;>exact r
theorem aPK {τ:Nat→Nat}{E:Emb}:∀ {aS:List AItem} {is:List Item},IRs E (aS.map (AItem.ren τ)) is→IRs (E.ren τ) aS is
 | [],_,r=>by simpa [IRs]using r
 |_::_,_,r=>by simp only [map_cons,IRs]at r ⊢;obtain⟨i,is',h1,h2,h3⟩ :=r;exact⟨i,is',h1,bC8 h2,aPK h3⟩
theorem bC9 {τ:Nat→Nat}{E:Emb}{a:ADef}{d:Deferred}(r:DR E (a.ren τ) d) :DR (E.ren τ) a d:=by
 cases a with
 |fn f args=>obtain⟨cap,a,h1,h2⟩ :=r;exact⟨cap,a,h1,(mM τ E _ _).1 h2⟩
 |col r'=>exact r
theorem aM5 {τ:Nat→Nat}{E:Emb}:∀ {aS:List (AV×Bool)} {is:List PanicEntry},CR E (aS.map fun p=> (AV.ren τ p.1,p.2)) is→CR (E.ren τ) aS is
 | [],_,r=>by simpa [CR]using r
 |_::_,_,r=>by simp only [map_cons,CR]at r ⊢;obtain⟨i,is',h1,h2,h3⟩ :=r;exact⟨i,is',h1,(eC τ E _ _).1 h2,aM5 h3⟩
theorem bDa {τ:Nat→Nat}{E:Emb}{a:AMode}{m:FrameMode}(r:MR E (a.ren τ) m) :MR (E.ren τ) a m:=by
 cases a with
 |pan ch=>simp only [AMode.ren,MR]at r ⊢;obtain⟨ps,h1,h2⟩ :=r;exact⟨ps,h1,aM5 h2⟩
 |_=>exact r
theorem bDb {τ:Nat→Nat}{E:Emb}{a b:Option Nat}(r:RR E (a.map τ) b) :RR (E.ren τ) a b:=by cases a<;>exact r
theorem own_ren {τ:Nat→Nat}{o:AObj}{L:Loc}{i:Nat}:Own (o.ren τ) L i↔Own o L i:=by cases o<;>exact Iff.rfl
theorem xA {τ:Nat→Nat}{o:AObj}{f:Bool}{L:Loc}{i:Nat}(h:Own o L i) :Own (bif f then o else o.ren τ) L i:=by
 cases f
 case true=>exact h
 exact own_ren.2 h
theorem rG {τ:Nat→Nat}{o q:AObj}{f:Bool}{L:Loc}{i:Nat}(e:o= (bif f then q else q.ren τ))(h:Own o L i) :Own q L i:=by
 subst e;cases f
 case true=>exact h
 exact own_ren.1 h
structure SumF where
 fn:Nat
 nt:Nat
 kind:CallKind
 ro:Option Nat
 mode:AMode
 todo:List AItem
 defers:List ADef
 sl:List (Option AV)
def slotsOf (tm:T AV) :List (Nat×AV) →List (Option AV)
 | [] =>[]
 |p::r=>tm.at p.1::slotsOf tm r
def aPL (τ:Nat→Nat) :List (Nat×AV) →List (Option AV)
 | [] =>[]
 |p::r=>some (AV.ren τ p.2) ::aPL τ r
def sumF (a:AFrame)(f:TF) :SumF:= ⟨a.fn,a.nt,a.kind,a.roundOf,a.mode,a.todo,a.defers,slotsOf a.tm f.sl⟩
def aEp (τ:Nat→Nat)(f:TF) :SumF:= ⟨f.fn,f.nt,f.kind,f.roundOf.map τ,f.mode.ren τ,f.todo.map (AItem.ren τ),f.defers.map (ADef.ren τ),aPL τ f.sl⟩
def aPM :List AFrame→List TF→List SumF
 |a::aS,f::fs=>sumF a f::aPM aS fs
 |_,_=>[]
def sV (h:Hp)(τ:Nat→Nat) :List (Nat×AObj×Bool) →List (Option AObj)
 | [] =>[]
 |p::r=>h.look (τ p.1) ::sV h τ r
def gK (τ:Nat→Nat) :List (Nat×AObj×Bool) →List (Option AObj)
 | [] =>[]
 |p::r=>some (bif p.2.2 then p.2.1 else p.2.1.ren τ) ::gK τ r
structure Sum where
 fr:SumF
 n:Nat
 cs:List SumF
 hp:List (Option AObj)
def AS.sum (s:AS)(τ:Nat→Nat)(t:TS) :Sum:= ⟨sumF s.fr t.fr,s.cs.length,aPM s.cs t.cs,sV s.h τ t.hp⟩
def TS.want (t:TS)(τ:Nat→Nat) :Sum:= ⟨aEp τ t.fr,t.cs.length,t.cs.map (aEp τ),gK τ t.hp⟩
def eR (m nb n1:Nat)(ks:List Nat)(b:Nat) :Nat:=bif blt b m then b else bif blt b nb then ks.getD (b-m) 0 else n1+b
def aPN :List Nat→Bool
 | [] =>true
 |k::ks=> !(yN k ks) &&aPN ks
def aPO (m:Nat) :List Nat→Bool
 | [] =>true
 |k::ks=>ble m k&&aPO m ks
def aPP :AObj→Bool
 | .cells _ _ [] _=>true
 | .cells .. =>false
 |_=>true
theorem aHW {o:AObj}(h:aPP o=true) :bQ o= [] :=by
 cases o with
 | cells t n ol sup=>cases ol with
  |nil=>rfl
  |cons x xs=>cases h
 |_=>rfl
def fC (nb:Nat) :List (Nat×AObj×Bool) →Bool
 | [] =>true
 |p::r=>blt p.1 nb&&aPP p.2.1&&fC nb r
def cT (m:Nat)(t:TS)(ks:List Nat) :Bool:=ble m t.nb&&beq (m+ks.length) t.nb&&aPN ks&&aPO m ks&&fC t.nb t.hp
def eF :List (Nat×AObj×Bool) →Prop
 | [] =>True
 | (_,o,true) ::r=>o.kl∧eF r
 | (_,_,false) ::r=>eF r
theorem aAW (t:Nat) :∀l:List Nat,yN t l=true↔t∈l
 | [] =>by simp [yN]
 | x ::xs=>by
  rw [yN,or_eq_true,aAW t xs,bH,decide_eq_true_eq,List.mem_cons];constructor
  · rintro(h|h)
    ·exact .inl h.symm
    ·exact .inr h
  · rintro(h|h)
    ·exact .inl h.symm
    ·exact .inr h
theorem aGo :∀ {l:List Nat},aPN l=true→∀i j,i<l.length→j<l.length→l.getD i 0=l.getD j 0→i=j
 | [],_,i,j,hi,_,_=>by simp at hi
 | x ::xs,h,i,j,hi,hj,e=>by
  simp only [aPN,and_eq_true,Bool.not_eq_true']at h;have hn:x∉xs:=fun hm=>by rw [(aAW x xs).2 hm]at h;cases h.1
  cases i with
  | zero=>
   cases j with
   |zero=>rfl
   | succ j=>
    simp only [length_cons]at hj;simp only [List.getD_cons_zero,List.getD_cons_succ]at e;exact absurd (e ▸ (by rw [List.getD_eq_getElem?_getD,List.getElem?_eq_getElem (by omega)];exact List.getElem_mem ..)) hn
  | succ i=>
   cases j with
   | zero=>
    simp only [length_cons]at hi;simp only [List.getD_cons_zero,List.getD_cons_succ]at e;exact absurd (e ▸ (by rw [List.getD_eq_getElem?_getD,List.getElem?_eq_getElem (by omega)];exact List.getElem_mem ..)) hn
   | succ j=>
    simp only [length_cons]at hi hj;simp only [List.getD_cons_succ]at e;rw [aGo h.2 i j (by omega) (by omega) e]
theorem aBW {m:Nat}:∀ {l:List Nat},aPO m l=true→∀i,i<l.length→m≤l.getD i 0
 | [],_,i,hi=>by simp at hi
 | x::xs,h,i,hi=>by
  simp only [aPO,and_eq_true]at h;cases i with
  |zero=>simpa using Nat.le_of_ble_eq_true h.1
  |succ i=>simp only [length_cons]at hi;simpa using aBW h.2 i (by omega)
theorem dX {nb:Nat}:∀ {l:List (Nat×AObj×Bool)},fC nb l=true→∀p∈l,p.1<nb∧bQ p.2.1= []
 | p::r,h,q,hq=>by
  simp only [fC,and_eq_true,cO,decide_eq_true_eq]at h;rcases List.mem_cons.1 hq with rfl|hq
  ·exact⟨h.1.1,aHW h.1.2⟩
  ·exact dX h.2 q hq
theorem nU :∀ {l:List (Nat×AObj×Bool)},eF l→∀k o,(k,o,true) ∈l→o.kl
 | (k',o',true) ::r,h,k,o,hq=>by
  rcases List.mem_cons.1 hq with e|hq
  ·cases e;exact h.1
  ·exact nU h.2 k o hq
 | (k',o',false) ::r,h,k,o,hq=>by
  rcases List.mem_cons.1 hq with e|hq
  ·cases e
  ·exact nU (l:=r) h k o hq
theorem aGp {τ:Nat→Nat}{tm:T AV}:∀ {l:List (Nat×AV)},slotsOf tm l=aPL τ l→∀p∈l,tm.at p.1=some (AV.ren τ p.2)
 | p::r,h,q,hq=>by
  simp only [slotsOf,aPL,List.cons.injEq]at h;rcases List.mem_cons.1 hq with rfl|hq
  ·exact h.1
  ·exact aGp h.2 q hq
theorem rH {τ:Nat→Nat}{h0:Hp}:∀ {l:List (Nat×AObj×Bool)},sV h0 τ l=gK τ l→∀p∈l,h0.look (τ p.1) =some (bif p.2.2 then p.2.1 else p.2.1.ren τ)
 | p::r,h,q,hq=>by
  simp only [sV,gK,List.cons.injEq]at h;rcases List.mem_cons.1 hq with rfl|hq
  ·exact h.1
  ·exact rH h.2 q hq
theorem aDg {τ:Nat→Nat}{E:Emb}{a:AFrame}{f:TF}(h:sumF a f=aEp τ f){c:Frame}(r:FR E a c) :FR (E.ren τ) f.fr c:=by
 simp only [sumF,aEp,SumF.mk.injEq]at h;obtain⟨h1,h2,h3,h4,h5,h6,h7,h8⟩ :=h;refine⟨r.fn.trans h1,⟨r.tm.1.trans h2,fun t v e=>?_⟩,aPK (show IRs E (f.todo.map (AItem.ren τ)) c.todo by rw [←h6];exact r.todo),?_,bDa (show MR E (f.mode.ren τ) c.mode by rw [←h5];exact r.mode),r.kind.trans h3,bDb (show RR E (f.roundOf.map τ) c.roundOf by rw [←h4];exact r.round)⟩
 · obtain⟨cv,g1,g2⟩ :=r.tm.2 t (AV.ren τ v) (aGp h8 (t,v) (aBV e));exact⟨cv,g1,(eC τ E v cv).1 g2⟩
 · have hd:=r.defers;rw [h7]at hd;have:∀ {aS:List ADef} {ds:List Deferred},DRs E (aS.map (ADef.ren τ)) ds→DRs (E.ren τ) aS ds:=by
    intro aS
    induction aS with
    |nil=>intro ds h;simpa [DRs]using h
    | cons a aS ih=>
     intro ds h;obtain⟨d,ds',rfl,k1,k2⟩ :=h.cons_inv;exact DRs.cons (bC9 k1) (ih k2)
   exact this hd
theorem xB {τ:Nat→Nat}{E:Emb}:∀ {aS:List AFrame} {fs:List TF},aS.length=fs.length→aPM aS fs=fs.map (aEp τ) →∀ {cs:List Frame},FRs E aS cs→FRs (E.ren τ) (fs.map TF.fr) cs
 | [],[],_,_,cs,r=>by rw [r.nil_inv];rfl
 | a::aS,f::fs,hl,h,cs,r=>by
  simp only [aPM,map_cons,List.cons.injEq]at h;obtain⟨c,cs',rfl,k1,k2⟩ :=r.cons_inv;exact FRs.cons (aDg h.1 k1) (xB (by simpa using hl) h.2 k2)
 | [],_::_,hl,_,_,_=>by simp at hl
 |_::_,[],hl,_,_,_=>by simp at hl
theorem sW {m nb n1:Nat}{ks:List Nat}{b:Nat}(h:b<m) :eR m nb n1 ks b=b:=by simp [eR,cO,h]
theorem aDh {m nb n1:Nat}{ks:List Nat}{b:Nat}(h1:m≤b)(h2:b<nb) :eR m nb n1 ks b=ks.getD (b-m) 0:=by simp [eR,cO,h2,show ¬b<m by omega]
theorem aTK {m nb n1:Nat}{ks:List Nat}{b:Nat}(h1:m≤b)(h2:nb≤b) :eR m nb n1 ks b=n1+b:=by simp [eR,cO,show ¬b<m by omega,show ¬b<nb by omega]
theorem kZ {m:Nat}{l:List (Nat×AObj×Bool)}{nb:Nat}{ks:List Nat}{h:Hp}(hok:cT m ⟨⟨0,0,[],[],[],.run,.normal,none⟩,[],l,nb⟩ ks=true)(hh:sV h (eR m nb h.nb ks) l=gK (eR m nb h.nb ks) l)(hkl:eF l){E:Emb}{w:World}(r:Rel E h w.heap) :
  Rel (E.ren (eR m nb h.nb ks)) (aA l nb) w.heap∧ExtM m E h w (E.ren (eR m nb h.nb ks)) (aA l nb) w:=by
 simp only [cT,and_eq_true]at hok;obtain⟨⟨⟨⟨o1,o2⟩,o3⟩,o4⟩,o5⟩ :=hok;have hm:=Nat.le_of_ble_eq_true o1;have hlen:=eq_of_beq_eq_true o2
 have hlook:∀ {b o},(aA l nb).look b=some o→b<nb∧bQ o= [] ∧∃f,(b,o,f) ∈l∧h.look (eR m nb h.nb ks b) =some (bif f then o else o.ren (eR m nb h.nb ks)) :=fun {b o} e=>by
  have: (b,o) ∈l.map fun p=> (p.1,p.2.1) :=aBV e;obtain⟨p,hp,hpe⟩ :=List.mem_map.1 this;obtain⟨pb,po,pf⟩ :=p;cases hpe;exact⟨(dX o5 _ hp).1,(dX o5 _ hp).2,pf,hp,rH hh _ hp⟩
 have inj:∀ {b b'},b<nb→b'<nb→eR m nb h.nb ks b=eR m nb h.nb ks b'→b=b':=fun {b b'} h1 h2 e=>by
  rcases lt_or_ge b m with g1|g1
  · rw [sW g1]at e;rcases lt_or_ge b' m with g2|g2
    ·rw [sW g2]at e;exact e
    · rw [aDh g2 h2]at e;have:=aBW o4 (b'-m) (by omega);omega
  · rw [aDh g1 h1]at e;rcases lt_or_ge b' m with g2|g2
    · rw [sW g2]at e;have:=aBW o4 (b-m) (by omega);omega
    · rw [aDh g2 h2]at e;have:=aGo o3 _ _ (by omega) (by omega) e;omega
 refine⟨⟨fun b o e=>?_,fun b b' o o' L L' e e' k k' hbl hne=>?_,fun b hb=>?_,r.imm,fun b o L e k i hi=>?_,fun b o e=> (hlook e).1⟩,
  ⟨fun b hb=>by show E.loc (eR m nb h.nb ks b) =E.loc b;rw [sW hb],fun _ _ e=>e,le_refl _,fun _ _ _=>rfl,fun b' o' L' e k i hi _=>?_,hm,rfl,rfl,rfl,fun _ _=>rfl,fun _ _ e _=>.inl e,fun b o e hb=>?_⟩⟩
 · obtain⟨hb,hol,f,hf,hlk⟩ :=hlook e;cases f
   case true=>
    simp only [cond]at hlk;rcases r.obj0 _ _ hlk with u| ⟨L,g1,g2⟩
    ·exact .inl u
    ·exact .inr ⟨L,g1,bCc (E:=E) (E':=E.ren (eR m nb h.nb ks)) rfl (nU hkl b o hf) g2⟩
   simp only [cond]at hlk;rcases r.obj0 _ _ hlk with⟨u1,u2⟩ | ⟨L,g1,g2⟩
   · refine .inl ⟨?_,u2⟩;cases o with
     | lst e xs=>cases xs with
      |nil=>rfl
      |cons x xs=>simp [AObj.ren,AV.renL,jK]at u1
     |_=>cases u1
   ·exact .inr ⟨L,g1,bC7 g2⟩
 · obtain⟨hb,hol,f,hf,hlk⟩ :=hlook e;obtain⟨hb',hol',f',hf',hlk'⟩ :=hlook e';have hne':eR m nb h.nb ks b≠eR m nb h.nb ks b':=fun ee=>hne (inj hb hb' ee);obtain⟨i,i1,i2⟩ :=hbl;have hkin:=r.kin _ _ _ _ L L' hlk hlk' k k' ⟨i,xA i1,xA i2⟩ hne'
   have q:∀ (o:AObj) (f:Bool),(f=true→o.kl) →bQ (bif f then o else o.ren (eR m nb h.nb ks)) = (bQ o).map (eR m nb h.nb ks) ∧hU (bif f then o else o.ren (eR m nb h.nb ks)) =hU o∧nOf (bif f then o else o.ren (eR m nb h.nb ks)) =nOf o:=fun o f hf=>by
    cases f
    case true=>cases o<;>first|exact⟨rfl,rfl,rfl⟩ |exact(hf rfl).elim
    cases o<;>exact⟨rfl,rfl,rfl⟩
   obtain⟨a1,a2,a3⟩ :=q o f (fun ff=>by subst ff;exact nU hkl b o hf);obtain⟨b1,b2,b3⟩ :=q o' f' (fun ff=>by subst ff;exact nU hkl b' o' hf');unfold Kin at hkin;rw [a1,a2,a3,b1,b2,b3,hol,hol']at hkin;rcases hkin with⟨g,_⟩ | ⟨g,_⟩ <;>simp at g
 · show E.loc (eR m nb h.nb ks b) =none;have hb:nb≤b:=hb;rw [aTK (by omega) hb];exact r.fresh _ (by omega)
 · obtain⟨hb,hol,f,hf,hlk⟩ :=hlook e;exact r.apart _ _ L hlk k i (xA hi)
 · obtain⟨hb,hol,f,hf,hlk⟩ :=hlook e;exact⟨_,_,L',hlk,k,xA hi⟩
 · obtain⟨hb',hol,f,hf,hlk⟩ :=hlook e;rw [sW hb]at hlk;exact⟨_,hlk⟩
end
end
end Go.Hb
