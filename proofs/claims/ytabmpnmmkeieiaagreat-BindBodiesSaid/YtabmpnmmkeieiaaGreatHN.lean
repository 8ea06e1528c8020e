/-
  OWN WORK (V138, V139, V20f, V140, H50, H47, V141, V142, H49, V143, V144, V19, V67, Q2, H51, V145): a machine on abstract values, its soundness, ways through the text (the ways WRITTEN BY A PROGRAM), plain laws.
-/
import Derived.Test.YtabmpnmmkeieiaaGreatHF
import Derived.Test.YtabmpnmmkeieiaaGreatHG
import Derived.Test.YtabmpnmmkeieiaaGreatHK
import Derived.Test.YtabmpnmmkeieiaaGreatHL
import Derived.Test.YtabmpnmmkeieiaaGreatHM
set_option linter.defProp false
set_option linter.unusedVariables false
set_option linter.unusedSimpArgs false
set_option linter.unusedSectionVars false
set_option maxRecDepth 100000
namespace Go.Hb
open Go.Proofs
set_option maxHeartbeats 4000000
noncomputable section
def sN (p:Prog)(m:Int) :List (Nat×AObj×Bool) := (aLb p m 0 0 0).hp
def oU (a fn sz:Int) :List AV:=[bGL a fn sz,.ptr 6 0,.ptr 7 0,.ptr 0 0]
theorem aRd {p:Prog}{l l':Int}{a fn sz b gn tz:Int}(h:Spec PP (.enter 154 (oU a fn sz)) (aG (sN p l) 8) (.ret (.bool true)) (aG (sN p l') 8)) :
  Spec PP (.enter 154 (oU a fn sz)) (aG (sN p l++ [(8,(.cells (putCells .leaf 0 [.int .i64 b,.int .i64 gn,.int .i64 tz]) 3 [] false),false)]) 9) (.ret (.bool true)) (aG (sN p l'++ [(8,(.cells (putCells .leaf 0 [.int .i64 b,.int .i64 gn,.int .i64 tz]) 3 [] false),false)]) 9) :=
 aDw h (by kernel_rfl) (by rfl) (by rfl) (by kernel_rfl) (by kernel_rfl) trivial (by kernel_rfl) (by kernel_rfl) (by kernel_rfl)
theorem aRe (p:Prog)(m a fn sz:Int) : (aLb p m a fn sz).as= ⟨(aLb p m a fn sz).as.fr,[],aG (sN p m) 8⟩ :=by kernel_rfl
theorem aRf (p:Prog)(m a fn sz:Int) :eZ PP (aG (sN p m) 8) (.enter 154 (oU a fn sz)) =some (aLb p m a fn sz).as.fr:=by kernel_rfl
theorem aPa {p:Prog}(hp:FineP p){a fn sz m0:Int}{x:Node}(ha:0≤a)(hx:p.nodes[a.toNat]?=some x)(hs0:0≤sz)(hs:sz≤1000* (a+1)) :
  ∀ (n i:Nat) (m:Int),i+n=x.kids.length→LeadsM PP 8 (aIi p m0 a fn sz ((List.length x.kids:Nat) :Int) (i:Int) m).as (aER p m0 a fn sz x.kids ((List.length x.kids:Nat) :Int) (aBO x sz i n m) 0).as
 |0,i,m,h=>bDH p m0 a fn sz _ i m x (by simp;omega) ha hx
 | n+1,i,m,h=>by
  obtain⟨hf,hk10,_⟩ :=hp.node _ _ hx;have hb:=sH hf (i:Int);have hn:=hp.small;have hlt:= (List.getElem?_eq_some_iff.1 hx).1;have ew:IntKind.i64.wrap (sz+bJ x i) =sz+bJ x i:=wrap64 (by omega) (by omega);have h0:=bDG p m0 a fn sz ((List.length x.kids:Nat) :Int) i m x _ (by simp;omega) ha hx (zQ hf (by omega) (by omega) hk10) sd;rw [ew]at h0;rw [aBO];exact h0.trans (aPa hp ha hx hs0 hs n (i+1) _ (by omega))
theorem aLc {p:Prog}(hp:FineP p){f:Nat}{a fn sz m0:Int}{x:Node}(ha:0≤a)(hx:p.nodes[a.toNat]?=some x)(hs0:0≤sz)(hs:sz≤1000* (a+1))
  (ih:∀ (k tz m:Int),a<k→k<p.nodes.length→0≤tz→tz≤1000* (k+1) →Spec PP (.enter 154 (oU k fn tz)) (aG (sN p m) 8) (.ret (.bool true)) (aG (sN p (jP p f k tz m)) 8)) :
  ∀ (t:List Int) (j:Nat) (m:Int),x.kids.drop j=t→Ends PP 8 (aER p m0 a fn sz x.kids ((List.length x.kids:Nat) :Int) m (j:Int)).as (.ret (.bool true)) (aG (sN p (yV (jP p f) x sz j t m)) 8)
 | [],j,m,h=>by
  have:=bD h;exact bDJ p m0 a fn sz x.kids _ m j sd
 | k::t,j,m,h=>by
  obtain⟨g1,g2,g3⟩ :=bB h;obtain⟨hf,hk10,hks⟩ :=hp.node _ _ hx;have hk:=hks k (List.mem_of_getElem? g1);have hb:=sH hf (j:Int);have hn:=hp.small;have ew:IntKind.i64.wrap (sz+bJ x j) =sz+bJ x j:=wrap64 (by omega) (by omega);have hsp:Spec PP (.enter 154 (oU k fn (IntKind.i64.wrap (sz+bJ x j)))) (aG (sN p m++ [(8,(.cells (putCells .leaf 0 [.int .i64 a,.int .i64 fn,.int .i64 sz]) 3 [] false),false)]) 9) (.ret (.bool true)) (aG (sN p (jP p f k (sz+bJ x j) m) ++ [(8,(.cells (putCells .leaf 0 [.int .i64 a,.int .i64 fn,.int .i64 sz]) 3 [] false),false)]) 9) :=by
   rw [ew];exact aRd (ih k (sz+bJ x j) m (by omega) (by omega) (by omega) (by omega))
  refine(bDI p m0 a fn sz x.kids _ m j k x _ (jP p f k (sz+bJ x j) m) sd sd sd ha hx (zQ hf (by omega) (by omega) hk10) hsp sd).ends ?_;rw [yV];exact aLc hp ha hx hs0 hs ih t (j+1) _ g2
theorem aLd {p:Prog}(hp:FineP p)(fn:Int) :∀ (f:Nat) (a sz m:Int),0≤a→a<p.nodes.length→p.nodes.length-a.toNat≤f→0≤sz→sz≤1000* (a+1) →
  Spec PP (.enter 154 (oU a fn sz)) (aG (sN p m) 8) (.ret (.bool true)) (aG (sN p (jP p f a sz m)) 8)
 |0,a,sz,m,ha,hn,hf,_,_=>by omega
 | f+1,a,sz,m,ha,hn,hf,h0,h1=>by
  refine⟨_,aRf p m a fn sz,?_⟩;obtain⟨x,hx⟩ :∃x,p.nodes[a.toNat]?=some x:= ⟨_,List.getElem?_eq_getElem (by omega)⟩;have e:jP p (f+1) a sz m=yV (jP p f) x sz 0 x.kids (aBO x sz 0 x.kids.length m) :=by rw [jP,hx]
  rw [e,←aRe];refine((bDF p m a fn sz x ha hx).trans (aPa hp ha hx h0 h1 x.kids.length 0 m (by omega))).ends ?_;exact aLc hp ha hx h0 h1 (fun k tz m hk hkn ht0 ht=>aLd hp fn f k tz m (by omega) hkn (by omega) ht0 ht) x.kids 0 _ rfl
theorem aLe {p:Prog}(hp:FineP p){fl pl:List aE}{M:Int}(hM:qA p p.funs 30=M)(hb:M≤5000)(hb0:30≤M)
  (ht:Pure PP 142 [PA p,.int .i64 (M+1)] (.tup [.ilst 1 (List.map aC fl) false,.ilst 1 (List.map aC pl) false])) :
  ∀ (t:List Int) (i:Nat) (m:Int),p.funs.drop i=t→qA p t m=M→Ends PP 0 (aIh p (i:Int) m).as (.ret (XV p fl pl)) (aG [] 0)
 | [],i,m,h,hm=>by
  have:=bD h;rw [qA]at hm;subst hm;exact bDE p i m fl pl sd sd ht
 | a::t,i,m,h,hm=>by
  obtain⟨g1,g2,g3⟩ :=bB h;have ha:=hp.funs a (List.mem_of_getElem? g1);have hn:=hp.fsmall;refine(bDD p i m a (jP p p.nodes.length a 1 m) sd sd sd (aLd hp i p.nodes.length a 1 m ha.1 ha.2 (by omega) (by omega) (by omega)) sd).ends ?_;rw [qA]at hm;exact aLe hp hM hb hb0 ht t (i+1) _ g2 hm
def hU (p:Prog) :List aE:=pZ p.main 0 ((dW (p.funs.length+ ((sM p).toNat+1))).take p.funs.length)
def sO (p:Prog) :List aE:= (dW (p.funs.length+ ((sM p).toNat+1))).drop p.funs.length
theorem aES {p:Prog}(h:Fs p) :Pure PP 78 [PA p] (XV p (hU p) (sO p)) :=by
 obtain⟨b1,b2,b3⟩ :=aBP h;have hh:=h.head;have ht:=aWU p ((sM p).toNat+1) (by omega) (by omega) (by omega);rw [show(((sM p).toNat+1:Nat) :Int) =sM p+1 by omega]at ht;refine bM (s:=bFH p) (by kernel_rfl) (by kernel_rfl) (by simp [AV.keyless,AV.keylessL]) (by simp [AV.keyless,AV.keylessL]) ?_;exact(bDC p).ends (aLe h.fine rfl b2 b1 ht p.funs 0 30 rfl rfl)
end
end Go.Hb
namespace Go.Hb
open Go.Proofs
set_option maxHeartbeats 4000000
noncomputable section
theorem Pure.val {P:Program}{f:Nat}{args:List AV}{v v':AV}(h:Pure P f args v)(hv:∀E cv,VR E v cv→VR E v' cv) :Pure P f args v':=fun hp=>by
 obtain⟨g,hg,he⟩ :=h hp;exact⟨g,hg,Ends.val he hv⟩
def gW (p:Prog)(f:Int) :Term×Int:=
 if bC p=true∧aW f 0 ((p.funs.length:Int) -1) =true then
  match gV p (hU p) (sO p) p.nodes.length (p.funs.getD f.toNat 0) 1 with
  |some t=>if lF t=true then(t,0)else(ZT,3)
  |none=> (ZT,3)
 else(ZT,2)
theorem aIj {p:Prog}(h:Fs p) :hU p= (dW p.funs.length).set p.main.toNat aCo:=by
 obtain⟨b1,b2,_⟩ :=aBP h;have hh:=h.head;have hl: ((dW (p.funs.length+ ((sM p).toNat+1))).take p.funs.length).length=p.funs.length:=by
  rw [List.length_take,gB _ (by omega)];omega
 rw [hU,aNE hh.2.2.2.1 (by rw [hl];exact hh.2.2.2.2.1),qX (by omega) (by omega)]
theorem sP {p:Prog}(h:Fs p) : (hU p).length=p.funs.length:=by
 have hh:=h.head;rw [aIj h,List.length_set,gB _ (by omega)]
theorem aLf {p:Prog}(h:Fs p) : (sO p).length= (sM p).toNat+1:=by
 obtain⟨b1,b2,_⟩ :=aBP h;have hh:=h.head;rw [sO,List.length_drop,gB _ (by omega)];omega
theorem wV {p:Prog}(h:Fs p){f:Int}(hi:aW f 0 ((p.funs.length:Int) -1) =true) :∃a t,p.funs[f.toNat]?=some a∧gV p (hU p) (sO p) p.nodes.length a 1=some t ∧
  gV p (hU p) ((dW (p.funs.length+ ((lL p).toNat+30))).drop p.funs.length) p.nodes.length a 1=some t∧mY t<1000000∧gW p f=if lF t=true then(t,0)else(ZT,3) :=by
 have hr:=inB_iff.1 hi;obtain⟨a,ha⟩ :∃a,p.funs[f.toNat]?=some a:= ⟨_,List.getElem?_eq_getElem (show f.toNat<p.funs.length by omega)⟩;have hm:=List.mem_of_getElem? ha;obtain⟨b1,b2,b3⟩ :=aBP h;obtain⟨t,e1,e2⟩ :=aW9 h (sP h) b3 (aW7 h) a hm;refine⟨a,t,ha,e1,e2,aRc h hm e1,?_⟩;have e3:p.funs.getD f.toNat 0=a:=by rw [List.getD_eq_getElem?_getD,ha];rfl
 unfold gW;rw [if_pos ⟨h.fo,hi⟩,e3];have e1':gV p (hU p) (sO p) p.nodes.length a 1=some t:=e1;rw [e1']
theorem aGn {p:Prog}(h:Fs p) :Pure PP 81 [PA p] (.tup [.ilst 1 (List.map aC (hU p)) false,.ilst 1 (List.map aC ((dW (p.funs.length+ ((lL p).toNat+30))).drop p.funs.length)) false]) :=by
 have hh:=h.head;have hd:=uM h;have hl:=zU p;have h0:=aWS h.fine (by omega) ⟨hh.2.2.2.1,hh.2.2.2.2.1⟩ (by omega) (by omega) (aKY p);have e:nD p=dW (p.funs.length+ ((lL p).toNat+30)) :=by rw [nD,Nat.add_assoc]
 rw [e,qX (by omega) (by omega)]at h0;rw [aIj h];exact h0
theorem aNI {p:Prog}(hs:aN p=true)(f:Int) :Pure PP 24 [PA p,.int .i64 f] (.tup [Term.av (gW p f).1,.int .i64 (gW p f).2]) :=by
 have hc:=aKH hs;cases hf:bC p with
 | false=>
  rw [hf]at hc;have e:gW p f= (ZT,2) :=by unfold gW;rw [if_neg (by rw [hf];simp)]
  rw [e];exact bDz hc
 | true=>
  rw [hf]at hc;have h:=Fs.of hs hf;have hh:=h.head;cases hi:aW f 0 ((p.funs.length:Int) -1)with
  | false=>
   have e:gW p f= (ZT,2) :=by unfold gW;rw [if_neg (by rw [hi];simp)]
   rw [e];exact bDA (by omega) hc hi
  | true=>
   obtain⟨a,t,ha,h1,_,h3,h4⟩ :=wV h hi;obtain⟨b1,b2,_⟩ :=aBP h;have htb:=bIo hs hf (fl:=hU p) (pl:=sO p) (by rw [sP h];omega) (by rw [aLf h];omega);rw [h4];cases hg:lF t with
   |true=>exact bHb (by omega) hi hc (aES h) htb ha h1 h3 hg
   |false=>exact aWX (by omega) hi hc (aES h) htb ha h1 h3 hg
theorem aET {p:Prog}(hs:aN p=true)(f:Int) :Pure PP 25 [PA p,.int .i64 f] (.tup [Term.av (gW p f).1,.int .i64 (gW p f).2]) :=by
 cases hf:bC p with
 | false=>
  have e:gW p f= (ZT,2) :=by unfold gW;rw [if_neg (by rw [hf];simp)]
  rw [e];exact(bDk hs hf f).val (fun E cv=>aBM)
 | true=>
  have h:=Fs.of hs hf;have hh:=h.head;cases hi:aW f 0 ((p.funs.length:Int) -1)with
  | false=>
   have e:gW p f= (ZT,2) :=by unfold gW;rw [if_neg (by rw [hi];simp)]
   rw [e];exact(bDl hs hf (by omega) hi).val (fun E cv=>aBM)
  | true=>
   obtain⟨a,t,ha,_,h2,h3,h4⟩ :=wV h hi;have hd:=uM h;have htb:=bI1 hs hf (fl:=hU p) (pl:= (dW (p.funs.length+ ((lL p).toNat+30))).drop p.funs.length) (by rw [sP h];omega) (by rw [List.length_drop,gB _ (by omega)];omega);have h5:=bG9 hs hf (by omega) hi (aGn h) htb ha h2 h3;rw [h4];cases hg:lF t with
   |true=>rw [bDj,hg]at h5;exact h5
   |false=>rw [bDj,hg]at h5;exact h5.val (fun E cv=>aBM)
end
end Go.Hb
namespace Go.Hb
open Go.Proofs
variable {P :Program}
noncomputable section
theorem aBb {E E':Emb}(hle:E.le E') :∀ {xs:List AV} {i:Nat} {y:AV} {vs:List Value} {v:Value},VRs E xs vs→vs[i]?=some v→VR E' y v→VRs E' (xs.set i y) vs
 | [],i,y,vs,v,hvs,hv,_=>by simp only [VRs]at hvs;subst hvs;simp at hv
 | a::xs,0,y,vs,v,hvs,hv,hy=>by
  simp only [VRs]at hvs;obtain⟨u,us,rfl,h1,h2⟩ :=hvs;simp at hv;subst hv;simp only [List.set_cons_zero,VRs];exact⟨_,us,rfl,hy,h2.mono hle⟩
 | a::xs,i+1,y,vs,v,hvs,hv,hy=>by
  simp only [VRs]at hvs;obtain⟨u,us,rfl,h1,h2⟩ :=hvs;simp only [List.getElem?_cons_succ]at hv;simp only [List.set_cons_succ,VRs];exact⟨u,us,rfl,h1.mono hle,aBb hle h2 hv hy⟩
theorem aLg {E:Emb}{c:List AV}{o:Nat}{v:AV}(hc:c[o]?=some v){cv:Value}(h:VR E (.agg c) cv) :∃us w,cv= .agg us.toArray∧VRs E c us∧us[o]?=some w∧VR E v w:=by
 rw [VR]at h;obtain⟨us,rfl,h⟩ :=h;obtain⟨w,h1,h2⟩ :=h.get _ _ hc;exact⟨us,w,rfl,h,h1,h2⟩
theorem aCs {m:Nat}{fr:AFrame}{cs:List AFrame}{h h1:Hp}{k e i o:Nat}{zs c:List AV}{v v':AV}(hk:h.look k=some (.lst e zs))(hk1:h1.look k=some (.lst e zs))(hi:zs[i]?=some (.agg c))(hc:c[o]?=some v)(ht:m≤h.nb→yP m h h1 v v') :
  LeadsM P m ⟨fr,cs,h⟩ ⟨fr,cs,h1.set k (.lst e (zs.set i (.agg (c.set o v'))))⟩ :=fun hm E cf ccs w base f fs r=>by
 obtain⟨E',hle,r',x',hvv⟩ :=ht hm E w r;have hun:rR (.lst e zs) =false:=by
  cases zs with
  |nil=>simp at hi
  |cons _ _=>rfl
 have hr:Rel E' (h1.set k (.lst e (zs.set i (.agg (c.set o v'))))) w.heap:=by
  refine r'.reobj hk1 hun (fun L hL=>?_) rfl rfl rfl;obtain⟨L0,hE,C,el,vs,o1,o2,o3,o4,o5⟩ :=r.obj _ _ hk hun;have:=hle.1 _ _ hE;rw [hL]at this;cases this;obtain⟨cv,g1,g2⟩ :=o3.get _ _ hi;obtain⟨us,q,rfl,g3,g4,g5⟩ :=aLg hc g2;refine⟨C,el,vs,o1,o2,aBb hle o3 g1 ?_,o4,o5⟩;rw [VR];exact⟨us,rfl,aBb hle g3 g4 (hvv q g5)⟩
 exact⟨E',cf,ccs,w,Steps.refl _ _,f.mono hle,fs.mono hle,hr,nW x' hk1⟩
def LQ (zs:List AV)(i o:Nat)(v v':AV)(ys:List AV) :Prop:=∃c,zs[i]?=some (.agg c) ∧c[o]?=some v∧ys=zs.set i (.agg (c.set o v'))
theorem bDK {m:Nat}{s t:TS}{k b e0 e i o n:Nat}{u:Value}{xs zs ys:List AV}(hk:s.as.h.look k=some (.lst e0 zs))(hb:s.as.h.look b=some (.lstv u e xs))(hne:k≠b)(hn:xs.length=n)(hq:LQ zs i o (.val u) (.gl b e 0 n false) ys)
  (ht:t.as= ⟨s.as.fr,s.as.cs,(s.as.h.set b (.lst e xs)).set k (.lst e0 ys)⟩) :LeadsM P m s.as t.as:=by
 subst hn;obtain⟨c,h1,h2,rfl⟩ :=hq;rw [ht];exact aCs hk (by rw [bE,if_neg hne];exact hk) h1 h2 (aAK hb)
theorem bHd {m:Nat}{s t:TS}{k e0 e i o:Nat}{zs ys:List AV}(hk:s.as.h.look k=some (.lst e0 zs))(hlt:Nat.blt k s.as.h.nb=true)(hq:LQ zs i o .nils (.gl s.as.h.nb e 0 0 false) ys)
  (ht:t.as= ⟨s.as.fr,s.as.cs,(s.as.h.new (.lst e [])).set k (.lst e0 ys)⟩) :LeadsM P m s.as t.as:=by
 obtain⟨c,h1,h2,rfl⟩ :=hq;rw [ht];rw [dP]at hlt;have:=of_decide_eq_true hlt;exact aCs hk (by rw [cR,if_neg (by omega)];exact hk) h1 h2 (aBs e)
def NQ (zs:List AV)(i o b e n:Nat)(u:Value)(ys:List AV) :Prop:=0<n∧∃c ex,zs[i]?=some (.agg c) ∧c[o]?=some (.gl b e 0 n ex) ∧ys=zs.set i (.agg (c.set o (.val u)))
theorem aNJ {m:Nat}{s1:AS}{k b e0 e i o:Nat}{zs xs:List AV}{ys:Value→List AV}{res:Res}{h':Hp}(hlk:s1.h.look k=some (.lst e0 zs))(hlb:s1.h.look b=some (.lst e xs))(hkb:k≠b)(hnq:∀u,NQ zs i o b e xs.length u (ys u))
  (hk:∀ua un uc,Ends P m ⟨s1.fr,s1.cs,(s1.h.set b (.lstv (.slice ua un uc) e xs)).set k (.lst e0 (ys (.slice ua un uc)))⟩ res h') :Ends P m s1 res h':=by
 obtain⟨hpos,c,ex,hz,hc,_⟩ :=hnq (.slice none 0 0);intro hm E cf ccs w f fs r cl base;have hun:rR (.lst e0 zs) =false:=by
  cases zs with
  |nil=>simp at hz
  |cons _ _=>rfl
 have hunb:rR (.lst e xs) =false:=by
  cases xs with
  |nil=>simp at hpos
  |cons _ _=>rfl
 obtain⟨L0,hE0,C,el,vs,o1,o2,o3,o4,o5⟩ :=r.obj _ _ hlk hun;obtain⟨cv,g1,g2⟩ :=o3.get _ _ hz;obtain⟨us,q,rfl,g3,g4,g5⟩ :=aLg hc g2;simp only [VR]at g5;rcases g5 with⟨z,_⟩ | ⟨L,a,cap,hE,rfl,a1,_,a3⟩
 ·omega
 · obtain⟨_,c',ex',hz',hc',hys⟩ :=hnq (.slice (some ⟨L.blk,a,none⟩) xs.length cap);rw [hz]at hz';cases hz'
   have r1:Rel E (s1.h.set b (.lstv (.slice (some ⟨L.blk,a,none⟩) xs.length cap) e xs)) w.heap:=r.reobj hlb hunb (fun L' hL'=>by
    obtain⟨C',el',vs',p1,p2,p3,p4,p5⟩ :=r.objL hlb hL';rw [hE]at hL';cases hL';exact⟨C',el',vs',p1,p2,p3,p4,p5,a,cap,rfl,by omega,fun hc=>by have:=a3 hc;exact⟨by omega,this.2⟩⟩) rfl rfl rfl
   have hlk1: (s1.h.set b (.lstv (.slice (some ⟨L.blk,a,none⟩) xs.length cap) e xs)).look k=some (.lst e0 zs) :=by rw [bE,if_neg hkb];exact hlk
   have r2:Rel E ((s1.h.set b (.lstv (.slice (some ⟨L.blk,a,none⟩) xs.length cap) e xs)).set k (.lst e0 (ys (.slice (some ⟨L.blk,a,none⟩) xs.length cap)))) w.heap:=r1.reobj hlk1 hun (fun L' hL'=>by
    rw [hE0]at hL';cases hL';refine⟨C,el,vs,o1,o2,?_,o4,o5⟩;rw [hys];refine aBb (Emb.le.refl E) o3 g1 ?_;rw [VR];exact⟨us,rfl,aBb (Emb.le.refl E) g3 g4 (by simp only [VR])⟩) rfl rfl rfl
   obtain⟨cl',w',E',s1',gg,rr,xx⟩ :=hk (some ⟨L.blk,a,none⟩) xs.length cap hm _ cf ccs w f fs r2 cl base;exact⟨cl',w',E',s1',gg,rr,(nW (nW (ExtM.refl hm) hlb) hlk1).trans xx⟩
theorem aRg {m:Nat}{s:AS}{t:TS}{ks:List Nat}(h2:s.sum (gG m t.nb s.h.nb ks) t=t.want (gG m t.nb s.h.nb ks))(hok:fN m t ks=true)(hkl:pH t.hp) :LeadsM P m s t.as:=by
 simp only [AS.sum,TS.want,Sum.mk.injEq]at h2;obtain⟨a1,a2,a3,a4⟩ :=h2;intro hm E fr ccs w base f fs r;obtain⟨q1,q2⟩ :=sA (l:=t.hp) (nb:=t.nb) (by simpa [fN]using hok) a4 hkl r;exact⟨_,fr,ccs,w,Steps.refl _ _,aHa a1 f,aBy a2 a3 fs,q1,q2⟩
def bHe (P:Program)(m:Nat)(is:List Ins)(s:TS)(k b i o:Nat)(ys:List AV)(u:Value)(is2:List Ins)(t:TS)(ks:List Nat) :Option (Nat×Sum×List Prop) :=
 match aAL P is s.as with
 | some (s1,ps) =>match s1.h.look k,s1.h.look b with
  | some (.lst e0 zs),some (.lst e xs) =>bif Nat.beq k b then none else
   match aAL P is2 ⟨s1.fr,s1.cs,(s1.h.set b (.lstv u e xs)).set k (.lst e0 ys)⟩with
   |some (s3,qs) =>some (s3.h.nb,AS.sum s3 (gG m t.nb s3.h.nb ks) t,NQ zs i o b e xs.length u ys:: (ps++qs))
   |none=>none
  |_,_=>none
 |none=>none
theorem aEU {m:Nat}{is:List Ins}{s:TS}{t:Value→TS}{k b i o:Nat}{ys:Value→List AV}{is2:Value→List Ins}{ks:List Nat}{n1:Nat}{ps:Value→List Prop}
  (h0:∀u,bHe P m is s k b i o (ys u) u (is2 u) (t u) ks=some (n1,(t u).want (gG m (t u).nb n1 ks),ps u)) (hok:∀u,fN m (t u) ks=true) (hkl:∀u,pH (t u).hp) (hp:∀u,AllP (ps u))
  {res:Res} {h':Hp} (hk:∀ua un uc,Ends P m (t (.slice ua un uc)).as res h') :Ends P m s.as res h':=by
 have h0':=h0 (.slice none 0 0);unfold bHe at h0';split at h0'
 · rename_i s1 qs h1;split at h0'
   · rename_i e0 zs e xs hlk hlb;cases hkb:Nat.beq k b with
     |true=>rw [hkb]at h0';cases h0'
     | false=>
      have hkb':k≠b:=fun g=>by subst g;simp at hkb
      have key:∀u,∃s3 qs3,aAL P (is2 u) ⟨s1.fr,s1.cs,(s1.h.set b (.lstv u e xs)).set k (.lst e0 (ys u))⟩ =some (s3,qs3) ∧s3.h.nb=n1∧s3.sum (gG m (t u).nb s3.h.nb ks) (t u) = (t u).want (gG m (t u).nb n1 ks) ∧NQ zs i o b e xs.length u (ys u) :: (qs++qs3) =ps u:=fun u=>by
       have h0u:=h0 u;unfold bHe at h0u;rw [h1]at h0u;simp only [hlk,hlb,hkb,cond]at h0u;split at h0u
       · rename_i s3 qs3 h3;simp only [Option.some.injEq,Prod.mk.injEq]at h0u;exact⟨s3,qs3,h3,h0u.1,h0u.2.1,h0u.2.2⟩
       ·cases h0u
      refine(mU h1 (fun q hq=>?_)).ends (aNJ (i:=i) (o:=o) hlk hlb hkb' (ys:=ys) (fun u=>?_) (fun ua un uc=>?_))
      · obtain⟨s3,qs3,_,_,_,g⟩ :=key (.slice none 0 0);exact(hp (.slice none 0 0)).mem q (by rw [←g];exact List.mem_cons_of_mem _ (List.mem_append_left _ hq))
      · obtain⟨s3,qs3,_,_,_,g⟩ :=key u;exact(hp u).mem _ (by rw [←g];exact List.mem_cons_self ..)
      · obtain⟨s3,qs3,g1,g2,g3,g⟩ :=key (.slice ua un uc);subst g2;exact((mU g1 (fun q hq=> (hp (.slice ua un uc)).mem q (by rw [←g];exact List.mem_cons_of_mem _ (List.mem_append_right _ hq)))).trans (aRg g3 (hok _) (hkl _))).ends (hk ua un uc)
   ·cases h0'
 ·cases h0'
end
end Go.Hb
namespace Go.Hb
open Go.Proofs
noncomputable section
inductive KVD where
 |row (l:List ConD)
 |nil
 |val (u:Value)
def KVD.av :KVD→AV
 | .row l=>.ilst 2 (List.map ConD.av l) false
 | .nil=>.nils
 | .val u=>.val u
structure ODat where
 name:aE
 kv:KVD
def ODat.av (x:ODat) :AV:=.agg [aC x.name,x.kv.av]
def DataD.o (x:DataD) :ODat:= ⟨x.name,.row x.cons⟩
theorem bDL (l:List DataD) :List.map ODat.av (List.map DataD.o l) =List.map DataD.av l:=by
 rw [List.map_map];rfl
theorem aLh {l:List ODat}{dl:List DataD}(h:l=List.map DataD.o dl) :List.map ODat.av l=List.map DataD.av dl:=by rw [h,bDL]
theorem bHf :∀k:KVD,AV.keyless k.av=true
 | .row l=>by simp only [KVD.av,AV.keyless]
 | .nil=>rfl
 | .val u=>rfl
theorem mO (x:ODat) :AV.keyless x.av=true:=by
 simp only [ODat.av,AV.keyless,AV.keylessL,bHf,aC,Bool.and_true]
theorem bDM {E:Emb}{x:ODat}{k:KVD}(hk:∀v,VR E x.kv.av v→VR E k.av v) :∀v,VR E x.av v→VR E (ODat.av ⟨x.name,k⟩) v:=fun v h=>by
 simp only [ODat.av,VR,VRs]at h ⊢;obtain⟨us,rfl,u1,r1,rfl,q1,u2,r2,rfl,q2,q3⟩ :=h;exact⟨_,rfl,_,_,rfl,q1,_,_,rfl,hk _ q2,q3⟩
theorem aPb {l:List ODat}{i:Nat}{y:ODat}{u:Value}{ks:List ConD}(h:l[i]?=some y)(hk:y.kv= .val u) :VQ u 2 (List.map ConD.av ks) (List.map ODat.av l) (List.map ODat.av (l.set i ⟨y.name,.row ks⟩)) :=fun E vs hu hvs=>by
 have h1: (List.map ODat.av l)[i]?=some y.av:=by rw [List.getElem?_map,h];rfl
 rw [List.map_set];refine aOc (bDM (fun v hv=>?_)) h1 vs hvs;rw [hk]at hv;simp only [KVD.av,VR]at hv;subst hv;exact hu
theorem aIk {β:Type}{f:β→AV}{l:List β}{ix T:Nat}{Y:AV}(h:T=ix)(hlt:ix<List.length l) : (List.set (List.map f l) ix Y)[0+T]?=some Y:=by
 subst h;rw [Nat.zero_add,List.getElem?_set_self (by simpa using hlt)]
theorem aXa {β:Type}{f:β→AV}{l:List β}{ix T:Nat}{Y Y':AV}(h:T=ix) : (List.set (List.map f l) ix Y).set (0+T) Y'=List.set (List.map f l) ix Y':=by
 subst h;rw [Nat.zero_add,List.set_set]
theorem bFL {β:Type}{f:β→AV}{l:List β}{ix:Nat}(pre post:List AV){b e n n':Nat}{ex:Bool}{u:Value}{y:β}(hlt:ix<List.length l)(hn:n'=n)(h0:0<n')(hy:f y= .agg (pre++ .val u::post)) :
  NQ (List.set (List.map f l) ix (.agg (pre++ .gl b e 0 n ex::post))) ix pre.length b e n' u (List.map f (List.set l ix y)) :=by
 subst hn;refine⟨h0,_,ex,List.getElem?_set_self (by simpa using hlt),by simp,?_⟩;rw [List.set_set,List.map_set,hy];simp
theorem bFM {β:Type}{f:β→AV}{l:List β}{ix:Nat}(pre post:List AV){v v':AV}{y:β}(h:l[ix]?=some y)(hy:f y= .agg (pre++v::post)) :
  LQ (List.map f l) ix pre.length v v' (List.set (List.map f l) ix (.agg (pre++v'::post))) :=by
 refine⟨pre++v::post,by rw [List.getElem?_map,h];simp [hy],by simp,by simp⟩
def aXb (P:Program)(t:TypeId)(X:AV)(lo hi mx:Option AV)(V:AV) :Prop:=
 ∃l u m,eP lo=some l∧eP hi=some u∧eP mx=some m∧ (lM P t X l u m=some V∨ (lM P t X l u m=none∧sQ P t X l u m=some V))
theorem aNK {P:Program}{α:Type}{f:α→AV}{F:List α→List AV}(hF:∀l,F l=List.map f l){t:TypeId}{e:Nat}(hu:rO P t e=true){xs:List α}{kk:IntKind}{i j:Int}(h0:0≤i)(h1:i≤j)(h2:j.toNat≤xs.length) :
  aXb P t (.ilst e (F xs) false) (some (.int kk i)) (some (.int kk j)) (some (.int kk j)) (.ilst e (F (List.take (j.toNat-i.toNat) (List.drop i.toNat xs))) true) :=by
 rw [hF,hF];refine⟨_,_,_,oP h0,oP (by omega),oP (by omega),.inr ⟨?_,?_⟩⟩
 ·unfold lM;split<;>simp_all
 · unfold sQ;simp only [hu,cond,Option.getD_some,List.length_map];rw [if_pos ⟨by omega,Nat.le_refl _,h2⟩];simp [List.map_take,List.map_drop]
theorem aRh {P:Program}{α:Type}{f:α→AV}{t:TypeId}{e:Nat}(hu:rO P t e=true){xs:List α}{kk:IntKind}{i j:Int}(h0:0≤i)(h1:i≤j)(h2:j.toNat≤xs.length) :
  aXb P t (.ilst e (List.map f xs) false) (some (.int kk i)) (some (.int kk j)) (some (.int kk j)) (.ilst e (List.map f (List.take (j.toNat-i.toNat) (List.drop i.toNat xs))) true) :=aNK (fun _=>rfl) hu h0 h1 h2
end
end Go.Hb
namespace Go.Hb
open Go.Proofs
noncomputable section
open Go.Proofs Tryz
def bFN(a:List Con):TS:=bW PP 86 [(iC a)] [] 0
def aXc(a:List Con):TS:=⟨(tf 86 64 [(0,(iC a)),(2,.nils),(3,(.gl 0 2 0 ([] :List ODat).length false)),(4,(nI 0))] [kc f86 116,kl f86 116,.inBlock 0,kc f86 15]),[],[oL 0 2 (List.map ODat.av ([] :List ODat))],1⟩
def aAe(c:List Con)(d:aE)(a:List ODat)(e:Int)(b:List Typ)(f:Int):TS:=⟨(tf 86 64 [(0,(iC c)),(2,.nils),(3,(.gl 0 2 0 a.length false)),(4,(nI f)),kp 5 1,(6,(nI e))] [kc f86 59700,kl f86 59700,.inBlock 2,kc f86 7463,.inBlock 1,kc f86 467,kl f86 116,.inBlock 0,kc f86 15]),[],[oL 0 2 (List.map ODat.av a),oC 1 [(aC d),(.gl 2 4 0 b.length false)],oL 2 4 (Typs.av b)],3⟩
def aNL(b:List Con)(a:List ODat)(c:aE)(d:List Typ)(e:Int):TS:=⟨(tf 86 64 [(0,(iC b)),(2,.nils),(3,(.gl 0 2 0 a.length false)),(4,(nI e)),kp 5 1] [kc f86 7463,.inBlock 1,kc f86 467,kl f86 116,.inBlock 0,kc f86 15]),[],[oL 0 2 (List.map ODat.av a),oC 1 [(aC c),(.ilst 4 (Typs.av d) false)]],2⟩
def aPc(b:List Con)(a:List ODat)(c:aE)(d:List Typ)(e:Int)(f:Nat)(g:aE):TS:=⟨(tf 86 64 [(0,(iC b)),(2,.nils),(3,(.gl 0 2 0 a.length false)),(4,(nI e)),kp 5 1] [kc f86 7463,.inBlock 1,kc f86 467,kl f86 116,.inBlock 0,kc f86 15]),[],[(0,(.lst 2 (List.set (List.map ODat.av a) f (.agg [(aC g),(.gl 2 2 0 ([] :List ConD).length false)]))),false),oC 1 [(aC c),(.ilst 4 (Typs.av d) false)],oL 2 2 (List.map ConD.av ([] :List ConD))],3⟩
def aAf(b:List Con)(a:List ODat)(c:List ConD)(d:Value)(e:Int):TS:=⟨(tf 86 64 [(0,(iC b)),(2,.nils),(3,(.gl 0 2 0 a.length false)),(4,(nI e))] [kc f86 116,kl f86 116,.inBlock 0,kc f86 15]),[],[oL 0 2 (List.map ODat.av a),(1,(.lstv d 2 (List.map ConD.av c)),true)],2⟩
def aIl(c:List Con)(a:List ODat)(d:aE)(e:List ConD)(f:Value)(g:Int)(b:List Typ)(i:Int):TS:=⟨(tf 86 64 [(0,(iC c)),(2,.nils),(3,(.gl 0 2 0 a.length false)),(4,(nI i)),kp 5 1,(6,(nI g))] [kc f86 59700,kl f86 59700,.inBlock 2,kc f86 7463,.inBlock 1,kc f86 467,kl f86 116,.inBlock 0,kc f86 15]),[],[oL 0 2 (List.map ODat.av a),oC 1 [(aC d),(.gl 2 4 0 b.length false)],oL 2 4 (Typs.av b),(3,(.lstv f 2 (List.map ConD.av e)),true)],4⟩
def aNM(b:List Con)(a:List ODat)(c:aE)(d:List ConD)(e:Value)(f:List Typ)(g:Int):TS:=⟨(tf 86 64 [(0,(iC b)),(2,.nils),(3,(.gl 0 2 0 a.length false)),(4,(nI g)),kp 5 1] [kc f86 7463,.inBlock 1,kc f86 467,kl f86 116,.inBlock 0,kc f86 15]),[],[oL 0 2 (List.map ODat.av a),oC 1 [(aC c),(.ilst 4 (Typs.av f) false)],(2,(.lstv e 2 (List.map ConD.av d)),true)],3⟩
def aPd(c:List Con)(a:List ODat)(d:aE)(b:List ConD)(e:List Typ)(f:Int)(g:Nat)(i:aE):TS:=⟨(tf 86 64 [(0,(iC c)),(2,.nils),(3,(.gl 0 2 0 a.length false)),(4,(nI f)),kp 5 1] [kc f86 7463,.inBlock 1,kc f86 467,kl f86 116,.inBlock 0,kc f86 15]),[],[(0,(.lst 2 (List.set (List.map ODat.av a) g (.agg [(aC i),(.gl 2 2 0 b.length false)]))),false),oC 1 [(aC d),(.ilst 4 (Typs.av e) false)],oL 2 2 (List.map ConD.av b)],3⟩
theorem aPe (l:List Con)(vl0:List ODat)(c1_0:aE)(c1_1:List Typ)(i4:Int)(ix:Nat)(w_name:aE)(h0:0≤ (IntKind.i64.wrap (((vl0.length:Nat) :Int) - (1:Int))))(h1: (IntKind.i64.wrap (((vl0.length:Nat) :Int) - (1:Int))) < ((vl0.length:Nat) :Int))(h2: (IntKind.i64.wrap (((vl0.length:Nat) :Int) - (1:Int))).toNat=ix)(h3:ix<List.length vl0)(h4:List.length (([] :List ConD) ++ [(ConD.mk c1_0 c1_1)]) ≤1000000)(h5: (IntKind.i64.wrap (i4+ (1:Int))) = (i4+ (1:Int))){res:Res}{h':Hp}(hk:∀ua un uc,Ends PP 0 (let u:=Value.slice ua un uc; (aAf l (List.set vl0 ix (ODat.mk w_name (KVD.val u))) (([] :List ConD) ++ [(ConD.mk c1_0 c1_1)]) u (i4+ (1:Int)))).as res h') :
  Ends PP 0 (aPc l vl0 c1_0 c1_1 i4 ix w_name).as res h':=
 aEU (n1:=5) (t:=fun u=> (aAf l (List.set vl0 ix (ODat.mk w_name (KVD.val u))) (([] :List ConD) ++ [(ConD.mk c1_0 c1_1)]) u (i4+ (1:Int)))) (k:=0) (b:=4) (i:=ix) (o:=1) (ys:=fun u=> (List.map ODat.av (List.set vl0 ix (ODat.mk w_name (KVD.val u))))) (ks:=[0,4]) (ps:=fun u=>[NQ (List.set (List.map ODat.av vl0) ix (.agg [(aC w_name),(.gl 4 2 0 (([] :List ConD) ++ [(ConD.mk c1_0 c1_1)]).length false)])) ix 1 4 2 (List.map ConD.av (([] :List ConD) ++ [(ConD.mk c1_0 c1_1)])).length u (List.map ODat.av (List.set vl0 ix (ODat.mk w_name (KVD.val u)))),0≤ (IntKind.i64.wrap (((vl0.length:Nat) :Int) - (1:Int))),(IntKind.i64.wrap (((vl0.length:Nat) :Int) - (1:Int))) < ((vl0.length:Nat) :Int),(List.set (List.map ODat.av vl0) ix (.agg [(aC w_name),(.gl 2 2 0 ([] :List ConD).length false)]))[(0+ (IntKind.i64.wrap (((vl0.length:Nat) :Int) - (1:Int))).toNat)]?=some (.agg [(aC w_name),(.gl 2 2 0 ([] :List ConD).length false)]),0+ ([] :List ConD).length≤List.length (List.map ConD.av ([] :List ConD)),List.length (([] :List ConD) ++ [(ConD.mk c1_0 c1_1)]) ≤1000000,List.take ([] :List ConD).length (List.drop 0 (List.map ConD.av ([] :List ConD))) ++ (List.map ConD.av [(ConD.mk c1_0 c1_1)]) = (List.map ConD.av (([] :List ConD) ++ [(ConD.mk c1_0 c1_1)])),([] :List ConD).length+List.length (List.map ConD.av [(ConD.mk c1_0 c1_1)]) =List.length (([] :List ConD) ++ [(ConD.mk c1_0 c1_1)]),0≤ (IntKind.i64.wrap (((vl0.length:Nat) :Int) - (1:Int))),(IntKind.i64.wrap (((vl0.length:Nat) :Int) - (1:Int))) < ((vl0.length:Nat) :Int),(List.set (List.map ODat.av vl0) ix (.agg [(aC w_name),(.gl 2 2 0 ([] :List ConD).length false)]))[(0+ (IntKind.i64.wrap (((vl0.length:Nat) :Int) - (1:Int))).toNat)]?=some (.agg [(aC w_name),(.gl 2 2 0 ([] :List ConD).length false)]),qE (.agg [(aC w_name),(.gl 2 2 0 ([] :List ConD).length false)]) 1 [(.gl 4 2 0 (([] :List ConD) ++ [(ConD.mk c1_0 c1_1)]).length false)] =some (.agg [(aC w_name),(.gl 4 2 0 (([] :List ConD) ++ [(ConD.mk c1_0 c1_1)]).length false)]),(nI ((vl0.length:Nat) :Int)) = (nI ((vl0.length:Nat) :Int)),(nI ((vl0.length:Nat) :Int)) = (nI ((vl0.length:Nat) :Int)),(List.set (List.map ODat.av vl0) ix (.agg [(aC w_name),(.gl 2 2 0 ([] :List ConD).length false)])).set (0+ (IntKind.i64.wrap (((vl0.length:Nat) :Int) - (1:Int))).toNat) (.agg [(aC w_name),(.gl 4 2 0 (([] :List ConD) ++ [(ConD.mk c1_0 c1_1)]).length false)]) = (List.set (List.map ODat.av vl0) ix (.agg [(aC w_name),(.gl 4 2 0 (([] :List ConD) ++ [(ConD.mk c1_0 c1_1)]).length false)])),(AV.gl 0 2 0 vl0.length false) = (.gl 0 2 0 (List.set vl0 ix (ODat.mk w_name (KVD.val u))).length false),(AV.gl 0 2 0 vl0.length false) = (.gl 0 2 0 (List.set vl0 ix (ODat.mk w_name (KVD.val u))).length false),(AV.gl 0 2 0 vl0.length false) = (.gl 0 2 0 (List.set vl0 ix (ODat.mk w_name (KVD.val u))).length false),(AV.gl 0 2 0 vl0.length false) = (.gl 0 2 0 (List.set vl0 ix (ODat.mk w_name (KVD.val u))).length false),(AV.gl 0 2 0 vl0.length false) = (.gl 0 2 0 (List.set vl0 ix (ODat.mk w_name (KVD.val u))).length false),(nI (IntKind.i64.wrap (i4+ (1:Int)))) = (nI (i4+ (1:Int)))]) (is:=[.reg [.d,.d,.d,.d,.d,.d,.d,.d,.ans (.ix),.d,.ans (.idx (.agg [(aC w_name),(.gl 2 2 0 ([] :List ConD).length false)])),.d,.d,.app (List.map ConD.av (([] :List ConD) ++ [(ConD.mk c1_0 c1_1)])) (([] :List ConD) ++ [(ConD.mk c1_0 c1_1)]).length,.ans (.ix),.d,.st (.agg [(aC w_name),(.gl 2 2 0 ([] :List ConD).length false)]) (.agg [(aC w_name),(.gl 4 2 0 (([] :List ConD) ++ [(ConD.mk c1_0 c1_1)]).length false)])],.lset 0 (List.set (List.map ODat.av vl0) ix (.agg [(aC w_name),(.gl 4 2 0 (([] :List ConD) ++ [(ConD.mk c1_0 c1_1)]).length false)])),.run 1]) (is2:=fun u=>[.set 3 (.gl 0 2 0 (List.set vl0 ix (ODat.mk w_name (KVD.val u))).length false),.set 47 (.gl 0 2 0 (List.set vl0 ix (ODat.mk w_name (KVD.val u))).length false),.set 48 (.gl 0 2 0 (List.set vl0 ix (ODat.mk w_name (KVD.val u))).length false),.set 51 (.gl 0 2 0 (List.set vl0 ix (ODat.mk w_name (KVD.val u))).length false),.set 52 (.gl 0 2 0 (List.set vl0 ix (ODat.mk w_name (KVD.val u))).length false),.run 3,.set 12 (nI (i4+ (1:Int))),.run 3]) (fun u=>by kernel_rfl) (fun u=>by kernel_rfl) (fun u=> ⟨(bZ _ (fun _=>mO _) _),⟨(bZ _ (fun _=>rfl) _),trivial⟩⟩) (fun u=> ⟨(bFL [(aC w_name)] [] h3 (List.length_map ..) (by simp) rfl),h0,h1,(aIk h2 h3),(aHe _ _),h4,(aHf _ _ _),(aHg _ _ _),h0,h1,(aIk h2 h3),rfl,rfl,rfl,(aXa h2),(cG (List.length_set ..).symm),(cG (List.length_set ..).symm),(cG (List.length_set ..).symm),(cG (List.length_set ..).symm),(cG (List.length_set ..).symm),(congrArg (AV.int .i64) h5)⟩) hk
theorem bDN (l:List Con)(vl0:List ODat)(c1_0:aE)(k2:List ConD)(c1_1:List Typ)(i4:Int)(ix:Nat)(w_name:aE)(h0:0≤ (IntKind.i64.wrap (((vl0.length:Nat) :Int) - (1:Int))))(h1: (IntKind.i64.wrap (((vl0.length:Nat) :Int) - (1:Int))) < ((vl0.length:Nat) :Int))(h2: (IntKind.i64.wrap (((vl0.length:Nat) :Int) - (1:Int))).toNat=ix)(h3:ix<List.length vl0)(h4:List.length (k2++ [(ConD.mk c1_0 c1_1)]) ≤1000000)(h5: (IntKind.i64.wrap (i4+ (1:Int))) = (i4+ (1:Int))){res:Res}{h':Hp}(hk:∀ua un uc,Ends PP 0 (let u:=Value.slice ua un uc; (aAf l (List.set vl0 ix (ODat.mk w_name (KVD.val u))) (k2++ [(ConD.mk c1_0 c1_1)]) u (i4+ (1:Int)))).as res h') :
  Ends PP 0 (aPd l vl0 c1_0 k2 c1_1 i4 ix w_name).as res h':=
 aEU (n1:=5) (t:=fun u=> (aAf l (List.set vl0 ix (ODat.mk w_name (KVD.val u))) (k2++ [(ConD.mk c1_0 c1_1)]) u (i4+ (1:Int)))) (k:=0) (b:=4) (i:=ix) (o:=1) (ys:=fun u=> (List.map ODat.av (List.set vl0 ix (ODat.mk w_name (KVD.val u))))) (ks:=[0,4]) (ps:=fun u=>[NQ (List.set (List.map ODat.av vl0) ix (.agg [(aC w_name),(.gl 4 2 0 (k2++ [(ConD.mk c1_0 c1_1)]).length false)])) ix 1 4 2 (List.map ConD.av (k2++ [(ConD.mk c1_0 c1_1)])).length u (List.map ODat.av (List.set vl0 ix (ODat.mk w_name (KVD.val u)))),0≤ (IntKind.i64.wrap (((vl0.length:Nat) :Int) - (1:Int))),(IntKind.i64.wrap (((vl0.length:Nat) :Int) - (1:Int))) < ((vl0.length:Nat) :Int),(List.set (List.map ODat.av vl0) ix (.agg [(aC w_name),(.gl 2 2 0 k2.length false)]))[(0+ (IntKind.i64.wrap (((vl0.length:Nat) :Int) - (1:Int))).toNat)]?=some (.agg [(aC w_name),(.gl 2 2 0 k2.length false)]),0+k2.length≤List.length (List.map ConD.av k2),List.length (k2++ [(ConD.mk c1_0 c1_1)]) ≤1000000,List.take k2.length (List.drop 0 (List.map ConD.av k2)) ++ (List.map ConD.av [(ConD.mk c1_0 c1_1)]) = (List.map ConD.av (k2++ [(ConD.mk c1_0 c1_1)])),k2.length+List.length (List.map ConD.av [(ConD.mk c1_0 c1_1)]) =List.length (k2++ [(ConD.mk c1_0 c1_1)]),0≤ (IntKind.i64.wrap (((vl0.length:Nat) :Int) - (1:Int))),(IntKind.i64.wrap (((vl0.length:Nat) :Int) - (1:Int))) < ((vl0.length:Nat) :Int),(List.set (List.map ODat.av vl0) ix (.agg [(aC w_name),(.gl 2 2 0 k2.length false)]))[(0+ (IntKind.i64.wrap (((vl0.length:Nat) :Int) - (1:Int))).toNat)]?=some (.agg [(aC w_name),(.gl 2 2 0 k2.length false)]),qE (.agg [(aC w_name),(.gl 2 2 0 k2.length false)]) 1 [(.gl 4 2 0 (k2++ [(ConD.mk c1_0 c1_1)]).length false)] =some (.agg [(aC w_name),(.gl 4 2 0 (k2++ [(ConD.mk c1_0 c1_1)]).length false)]),(nI ((vl0.length:Nat) :Int)) = (nI ((vl0.length:Nat) :Int)),(nI ((vl0.length:Nat) :Int)) = (nI ((vl0.length:Nat) :Int)),(List.set (List.map ODat.av vl0) ix (.agg [(aC w_name),(.gl 2 2 0 k2.length false)])).set (0+ (IntKind.i64.wrap (((vl0.length:Nat) :Int) - (1:Int))).toNat) (.agg [(aC w_name),(.gl 4 2 0 (k2++ [(ConD.mk c1_0 c1_1)]).length false)]) = (List.set (List.map ODat.av vl0) ix (.agg [(aC w_name),(.gl 4 2 0 (k2++ [(ConD.mk c1_0 c1_1)]).length false)])),(AV.gl 0 2 0 vl0.length false) = (.gl 0 2 0 (List.set vl0 ix (ODat.mk w_name (KVD.val u))).length false),(AV.gl 0 2 0 vl0.length false) = (.gl 0 2 0 (List.set vl0 ix (ODat.mk w_name (KVD.val u))).length false),(AV.gl 0 2 0 vl0.length false) = (.gl 0 2 0 (List.set vl0 ix (ODat.mk w_name (KVD.val u))).length false),(AV.gl 0 2 0 vl0.length false) = (.gl 0 2 0 (List.set vl0 ix (ODat.mk w_name (KVD.val u))).length false),(AV.gl 0 2 0 vl0.length false) = (.gl 0 2 0 (List.set vl0 ix (ODat.mk w_name (KVD.val u))).length false),(nI (IntKind.i64.wrap (i4+ (1:Int)))) = (nI (i4+ (1:Int)))]) (is:=[.reg [.d,.d,.d,.d,.d,.d,.d,.d,.ans (.ix),.d,.ans (.idx (.agg [(aC w_name),(.gl 2 2 0 k2.length false)])),.d,.d,.app (List.map ConD.av (k2++ [(ConD.mk c1_0 c1_1)])) (k2++ [(ConD.mk c1_0 c1_1)]).length,.ans (.ix),.d,.st (.agg [(aC w_name),(.gl 2 2 0 k2.length false)]) (.agg [(aC w_name),(.gl 4 2 0 (k2++ [(ConD.mk c1_0 c1_1)]).length false)])],.lset 0 (List.set (List.map ODat.av vl0) ix (.agg [(aC w_name),(.gl 4 2 0 (k2++ [(ConD.mk c1_0 c1_1)]).length false)])),.run 1]) (is2:=fun u=>[.set 3 (.gl 0 2 0 (List.set vl0 ix (ODat.mk w_name (KVD.val u))).length false),.set 47 (.gl 0 2 0 (List.set vl0 ix (ODat.mk w_name (KVD.val u))).length false),.set 48 (.gl 0 2 0 (List.set vl0 ix (ODat.mk w_name (KVD.val u))).length false),.set 51 (.gl 0 2 0 (List.set vl0 ix (ODat.mk w_name (KVD.val u))).length false),.set 52 (.gl 0 2 0 (List.set vl0 ix (ODat.mk w_name (KVD.val u))).length false),.run 3,.set 12 (nI (i4+ (1:Int))),.run 3]) (fun u=>by kernel_rfl) (fun u=>by kernel_rfl) (fun u=> ⟨(bZ _ (fun _=>mO _) _),⟨(bZ _ (fun _=>rfl) _),trivial⟩⟩) (fun u=> ⟨(bFL [(aC w_name)] [] h3 (List.length_map ..) (by simp) rfl),h0,h1,(aIk h2 h3),(aHe _ _),h4,(aHf _ _ _),(aHg _ _ _),h0,h1,(aIk h2 h3),rfl,rfl,rfl,(aXa h2),(cG (List.length_set ..).symm),(cG (List.length_set ..).symm),(cG (List.length_set ..).symm),(cG (List.length_set ..).symm),(cG (List.length_set ..).symm),(congrArg (AV.int .i64) h5)⟩) hk
def bFO(a:Prog):TS:=bW PP 27 [(Prog.av a)] [] 0
def aIm(a:Prog)(c d:List aE)(e:List DataD)(f:Int)(b:List FunD):TS:=⟨(tf 27 62 [kp 1 0,kp 2 1,(3,(nI 0)),(4,(iS c)),(5,(iS d)),kp 6 2,(7,(nI f))] [kc f27 1012,kl f27 1012,.inBlock 0,kc f27 127]),[],[oC 0 [(iN a.nodes),(iI a.funs),(nI a.main),(iC a.cons)],oC 1 [(.str 0 0),.nils,.nils],oC 2 [(.str 1 109),(.ilst 2 (List.map DataD.av e) false),(.gl 3 15 0 b.length false)],oL 3 15 (FunDs.av b)],4⟩
def bDO (a:List Con):=(tT 0 (bFN a)<|.i [rn 15,.nilL 3 2] []<|gu 0 0 (List.map ODat.av ([] :List ODat))<|gs 0 3 (.gl 0 2 0 ([] :List ODat).length false)<|.W 0 1 [0] (aXc a)) ⟨(bZ _ (fun _=>mO _) _),trivial⟩
def bFP(b:List Con):=tT 0 (aXc b)<|gl 5 Con.av b<|gd 2 10 (0< (b.length:Int)) (.i [rn 8,.ans (.ev (nI (Int.tmod 0 5)))] [hA (rN PP .rem 3 (nI 0) (nI 5) false true=some (nI (Int.tmod 0 5)))]<|.b 2 15 ((Int.tmod 0 5) ==0) (gw 6 19 (65+ ((([] :List ODat).length:Nat) :Int))<|.i [rn 1,.set 20 (.int .u8 (65+ ((([] :List ODat).length:Nat) :Int)))] [.a ((IntKind.u8.wrap (65+ ((([] :List ODat).length:Nat) :Int))) = (65+ ((([] :List ODat).length:Nat) :Int))) (congrArg (AV.int .u8))]<|.i [rn 1,.ans (.ev (aC (dV (65+ ((([] :List ODat).length:Nat) :Int)))))] [hA (fF [(.int .u8 (65+ ((([] :List ODat).length:Nat) :Int)))] =some (aC (dV (65+ ((([] :List ODat).length:Nat) :Int)))))]<|ga 2 ODat.av ([] :List ODat) [(ODat.mk (dV (65+ ((([] :List ODat).length:Nat) :Int))) KVD.nil)]<|gX Con.av 6 b 0<|fun c=>.i [rn 13,.cnil 4 1 4] []<|gu 0 5 (Typs.av ([] :List Typ))<|gv 0 4 1 (.gl 5 4 0 ([] :List Typ).length false)<|.W 0 6 [3,4,5] (aAe b c.name (([] :List ODat) ++ [(ODat.mk (dV (65+ ((([] :List ODat).length:Nat) :Int))) KVD.nil)]) 0 ([] :List Typ) 0))<|gX Con.av 6 b 0<|fun c=>.i [rn 13,.cnil 1 1 4] []<|gu 0 2 (Typs.av ([] :List Typ))<|gv 0 1 1 (.gl 2 4 0 ([] :List Typ).length false)<|.W 0 3 [0,1,2] (aAe b c.name ([] :List ODat) 0 ([] :List Typ) 0))<|.y fun a:List DataD=>.i [rn 8,.lset 0 (List.map DataD.av a)] [.a (([] :List ODat) =List.map DataD.o a) (p':=(List.map ODat.av ([] :List ODat)) = (List.map DataD.av a)) aLh]<|.i [.set 2 (.gl 0 2 0 a.length false)] [.a (a.length= ([] :List ODat).length) (p':=(AV.gl 0 2 0 ([] :List ODat).length false) = (.gl 0 2 0 a.length false)) (fun h=>(cG h.symm))]<|gz 0 2 0 2 DataD.av a false<|gE 0 1 (.ilst 2 (List.map DataD.av a) false)
def bDP:=fun a b c d e f g i j k l=>bFP a|>.t c d|>.t e f g i j b k l ⟨(bZ _ (fun _=>mO _) _),⟨mK,trivial⟩⟩
def bDQ:=fun a b c d e=>bFP a|>.f c b d e tv
def bFQ(f:List Con)(j:aE)(k:List ODat)(g:Int)(a:List Typ)(i:Int):=tT 0 (aAe f j k g a i)<|gX Con.av 6 f i<|fun l=>gd 4 38 (g<l.args) (.y fun b:Int=>.y fun c:Int=>.y fun d:aE=>.y fun e:List Typ=>.i [rn 4,.reg [.d,.d,.pure (.agg [(nI b),(nI c),(aC d),(.ilst 4 (Typs.av e) false)]),.d,.app (Typs.av (a++ [(Typ.mk b c d e)])) (a++ [(Typ.mk b c d e)]).length,.d,.d]] [hA (Pure PP 87 [] (.agg [(nI b),(nI c),(aC d),(.ilst 4 (Typs.av e) false)])),hB aZ a,hA (List.length (a++ [(Typ.mk b c d e)]) ≤1000000),hC aZ a [(Typ.mk b c d e)],hE aZ a [(Typ.mk b c d e)],hr (AV.gl 2 4 0 a.length false),hr (AV.gl 2 4 0 a.length false)]<|gw 4 40 (g+1)<|.W 3 5 [0,1,4] (aAe f j k (g+1) (a++ [(Typ.mk b c d e)]) i))<|gY 2 1 1 2 4 aZ mK a false<|.W 0 3 [0,1] (aNL f k j a i)
def bDR:=fun a b c d e f g i j k l m n o p q r=>bFQ a b c d e f g m n|>.t o i j k l p q r ⟨(bZ _ (fun _=>mO _) _),⟨mK,trivial⟩⟩
def bDS:=fun a b c d e f g i j k=>bFQ a b c d e f g i j|>.f k ⟨(bZ _ (fun _=>mO _) _),trivial⟩
def aXd(f:List Con)(a:List ODat)(c:List ConD)(g:Value)(d:Int):=tT 0 (aAf f a c g d)<|gl 5 Con.av f<|gd 2 10 (d< (f.length:Int)) (.i [rn 8,.ans (.ev (nI (Int.tmod d 5)))] [hA (rN PP .rem 3 (nI d) (nI 5) false true=some (nI (Int.tmod d 5)))]<|.b 2 15 ((Int.tmod d 5) ==0) (gw 6 19 (65+ (a.length:Int))<|.i [rn 1,.set 20 (.int .u8 (65+ (a.length:Int)))] [.a ((IntKind.u8.wrap (65+ (a.length:Int))) = (65+ (a.length:Int))) (congrArg (AV.int .u8))]<|.i [rn 1,.ans (.ev (aC (dV (65+ (a.length:Int)))))] [hA (fF [(.int .u8 (65+ (a.length:Int)))] =some (aC (dV (65+ (a.length:Int)))))]<|.y fun b:ODat=>.i [rn 2,.vfrz 1 0 (List.map ODat.av (List.set a (List.length a-1) (ODat.mk b.name (KVD.row c))))] [.a (a[(List.length a-1)]?=some b) (p':=(List.map ODat.av a) ≠ []) aRZ,hk ConD.av c,.a (a[(List.length a-1)]?=some b∧b.kv=KVD.val g) (p':=VQ g 2 (List.map ConD.av c) (List.map ODat.av a) (List.map ODat.av (List.set a (List.length a-1) (ODat.mk b.name (KVD.row c))))) fun⟨ha,hb⟩=>(aPb ha hb)]<|.i [.set 3 (.gl 0 2 0 (List.set a (List.length a-1) (ODat.mk b.name (KVD.row c))).length false)] [.q (p:=(AV.gl 0 2 0 a.length false) = (.gl 0 2 0 (List.set a (List.length a-1) (ODat.mk b.name (KVD.row c))).length false)) (cG (List.length_set ..).symm)]<|.i [.set 16 (.gl 0 2 0 (List.set a (List.length a-1) (ODat.mk b.name (KVD.row c))).length false)] [.q (p:=(AV.gl 0 2 0 a.length false) = (.gl 0 2 0 (List.set a (List.length a-1) (ODat.mk b.name (KVD.row c))).length false)) (cG (List.length_set ..).symm)]<|.i [.set 17 (.gl 0 2 0 (List.set a (List.length a-1) (ODat.mk b.name (KVD.row c))).length false)] [.q (p:=(AV.gl 0 2 0 a.length false) = (.gl 0 2 0 (List.set a (List.length a-1) (ODat.mk b.name (KVD.row c))).length false)) (cG (List.length_set ..).symm)]<|ga 0 ODat.av (List.set a (List.length a-1) (ODat.mk b.name (KVD.row c))) [(ODat.mk (dV (65+ (a.length:Int))) KVD.nil)]<|gX Con.av 6 f d<|fun i=>.i [rn 13,.cnil 5 1 4] []<|gu 0 6 (Typs.av ([] :List Typ))<|gv 0 5 1 (.gl 6 4 0 ([] :List Typ).length false)<|.W 0 7 [4,5,6] (aAe f i.name ((List.set a (List.length a-1) (ODat.mk b.name (KVD.row c))) ++ [(ODat.mk (dV (65+ (a.length:Int))) KVD.nil)]) 0 ([] :List Typ) d))<|gX Con.av 6 f d<|fun b=>.i [rn 13,.cnil 2 1 4] []<|gu 0 3 (Typs.av ([] :List Typ))<|gv 0 2 1 (.gl 3 4 0 ([] :List Typ).length false)<|.W 0 4 [0,2,3,1] (aIl f a b.name c g 0 ([] :List Typ) d))<|.y fun b:ODat=>.i [rn 8,.vfrz 1 0 (List.map ODat.av (List.set a (List.length a-1) (ODat.mk b.name (KVD.row c))))] [.a (a[(List.length a-1)]?=some b) (p':=(List.map ODat.av a) ≠ []) aRZ,hk ConD.av c,.a (a[(List.length a-1)]?=some b∧b.kv=KVD.val g) (p':=VQ g 2 (List.map ConD.av c) (List.map ODat.av a) (List.map ODat.av (List.set a (List.length a-1) (ODat.mk b.name (KVD.row c))))) fun⟨ha,hb⟩=>(aPb ha hb)]<|.i [.set 2 (.gl 0 2 0 (List.set a (List.length a-1) (ODat.mk b.name (KVD.row c))).length false)] [.q (p:=(AV.gl 0 2 0 a.length false) = (.gl 0 2 0 (List.set a (List.length a-1) (ODat.mk b.name (KVD.row c))).length false)) (cG (List.length_set ..).symm)]<|.i [.set 3 (.gl 0 2 0 (List.set a (List.length a-1) (ODat.mk b.name (KVD.row c))).length false)] [.q (p:=(AV.gl 0 2 0 a.length false) = (.gl 0 2 0 (List.set a (List.length a-1) (ODat.mk b.name (KVD.row c))).length false)) (cG (List.length_set ..).symm)]<|.i [.set 63 (.gl 0 2 0 (List.set a (List.length a-1) (ODat.mk b.name (KVD.row c))).length false)] [.q (p:=(AV.gl 0 2 0 a.length false) = (.gl 0 2 0 (List.set a (List.length a-1) (ODat.mk b.name (KVD.row c))).length false)) (cG (List.length_set ..).symm)]<|.y fun e:List DataD=>.i [.lset 0 (List.map DataD.av e)] [.a ((List.set a (List.length a-1) (ODat.mk b.name (KVD.row c))) =List.map DataD.o e) (p':=(List.map ODat.av (List.set a (List.length a-1) (ODat.mk b.name (KVD.row c)))) = (List.map DataD.av e)) aLh]<|.i [.set 2 (.gl 0 2 0 e.length false)] [.a (e.length= (List.set a (List.length a-1) (ODat.mk b.name (KVD.row c))).length) (p':=(AV.gl 0 2 0 (List.set a (List.length a-1) (ODat.mk b.name (KVD.row c))).length false) = (.gl 0 2 0 e.length false)) (fun h=>(cG h.symm))]<|gz 0 2 0 2 DataD.av e false<|gE 0 2 (.ilst 2 (List.map DataD.av e) false)
def bDT:=fun b c d e f g i j k l m n o a p q r s=>aXd b c d e f|>.t j k|>.t l m n o g a ⟨a,p⟩ q i r s ⟨(bZ _ (fun _=>mO _) _),⟨mK,trivial⟩⟩
def bDU:=fun a b c d e f g i j k l=>aXd a b c d e|>.t g i|>.f j f k l ⟨(bZ _ (fun _=>mO _) _),⟨mK,⟨kk,trivial⟩⟩⟩
def bDV:=fun b c d e f g i j a k l m=>aXd b c d e f|>.f j g a ⟨a,k⟩ i l m tv
def bFR(f:List Con)(j:List ODat)(k:aE)(l:List ConD)(m:Value)(g:Int)(a:List Typ)(i:Int):=tT 0 (aIl f j k l m g a i)<|gX Con.av 6 f i<|fun n=>gd 4 38 (g<n.args) (.y fun b:Int=>.y fun c:Int=>.y fun d:aE=>.y fun e:List Typ=>.i [rn 4,.reg [.d,.d,.pure (.agg [(nI b),(nI c),(aC d),(.ilst 4 (Typs.av e) false)]),.d,.app (Typs.av (a++ [(Typ.mk b c d e)])) (a++ [(Typ.mk b c d e)]).length,.d,.d]] [hA (Pure PP 87 [] (.agg [(nI b),(nI c),(aC d),(.ilst 4 (Typs.av e) false)])),hB aZ a,hA (List.length (a++ [(Typ.mk b c d e)]) ≤1000000),hC aZ a [(Typ.mk b c d e)],hE aZ a [(Typ.mk b c d e)],hr (AV.gl 2 4 0 a.length false),hr (AV.gl 2 4 0 a.length false)]<|gw 4 40 (g+1)<|.W 3 6 [0,1,5,3] (aIl f j k l m (g+1) (a++ [(Typ.mk b c d e)]) i))<|gY 2 1 1 2 4 aZ mK a false<|.W 0 4 [0,1,3] (aNM f j k l m a i)
def bDW:=fun a b c d e f g i j k l m n o p q r s t=>bFR a b c d e f g i j o p|>.t q k l m n r s t ⟨(bZ _ (fun _=>mO _) _),⟨mK,⟨kk,trivial⟩⟩⟩
def bDX:=fun a b c d e f g i j k l m=>bFR a b c d e f g i j k l|>.f m ⟨(bZ _ (fun _=>mO _) _),⟨kk,trivial⟩⟩
def aXe(a:Prog):=tT 0 (bFO a)<|cP 10 18 [(Prog.av a)]<|fun e=>.b 2 12 (!e) (.i [rn 8,.cnilI 1 1 2] []<|.i [.cnilI 1 2 15] []<|gE 0 2 (.tup [(.agg [(.str 0 0),(.ilst 2 (List.map DataD.av ([] :List DataD)) true),(.ilst 15 (FunDs.av ([] :List FunD)) true)]),(nI 2)]))<|gl 7 dF a.funs<|gd 2 17 ((a.funs.length:Int) >5) (.i [rn 8,.cnilI 1 1 2] []<|.i [.cnilI 1 2 15] []<|gE 0 2 (.tup [(.agg [(.str 0 0),(.ilst 2 (List.map DataD.av ([] :List DataD)) true),(.ilst 15 (FunDs.av ([] :List FunD)) true)]),(nI 3)]))<|.y fun b:List aE=>.y fun c:List aE=>gp 5 81 [(Prog.av a)] (.tup [(iS b),(iS c)])<|.y fun d:List DataD=>gp 10 86 [(iC a.cons)] (.ilst 2 (List.map DataD.av d) false)<|.i [rn 11,.cnil 2 2 15] []<|gu 0 3 (FunDs.av ([] :List FunD))<|gv 0 2 2 (.gl 3 15 0 ([] :List FunD).length false)<|.W 0 4 [0,1,2,3] (aIm a b c d 0 ([] :List FunD))
def bDY:=fun a b c d=>aXe a b c|>.t d tv
def bDZ:=fun a b c d e=>aXe a b c|>.f d|>.t e tv
def bD0:=fun a b c d e f g i j k=>aXe a b f|>.f g|>.f i c d j e k ⟨gU,trivial⟩
def aXf(s:Prog)(t u:List aE)(v:List DataD)(r:Int)(a:List FunD):=tT 0 (aIm s t u v r a)<|gl 6 dF s.funs<|gd 2 32 (r< (s.funs.length:Int)) (.y fun d:Int=>.y fun e:Int=>.y fun f:aE=>.y fun g:List Term=>.y fun i:List Pat=>.y fun w:Int=>gp 8 25 [(Prog.av s),(nI r)] (.tup [(.agg [(nI d),(nI e),(aC f),(.ilst 5 (Terms.av g) false),(iP i)]),(nI w)])<|.b 13 42 (w != (0:Int)) (.i [rn 9,.cnilI 1 1 2] []<|.i [.cnilI 1 2 15] []<|gE 0 5 (.tup [(.agg [(.str 0 0),(.ilst 2 (List.map DataD.av ([] :List DataD)) true),(.ilst 15 (FunDs.av ([] :List FunD)) true)]),(nI w)]))<|.y fun b:aE=>.y fun c:aE=>.y fun j:Int=>.y fun k:Int=>.y fun l:aE=>.y fun m:List Typ=>.y fun n:Int=>.y fun o:Int=>.y fun p:aE=>.y fun q:List Typ=>.i [rn 2,.reg (rd 4 (.ans (.idx (aC b))::.d::.d::.ans (.idx (aC c))::.d::.pure (.agg [(nI j),(nI k),(aC l),(.ilst 4 (Typs.av m) false)])::.pure (.agg [(nI n),(nI o),(aC p),(.ilst 4 (Typs.av q) false)])::rd 3 [.app (FunDs.av (a++ [(FunD.mk b c (Typ.mk j k l m) (Typ.mk n o p q) (Term.mk d e f g i))])) (a++ [(FunD.mk b c (Typ.mk j k l m) (Typ.mk n o p q) (Term.mk d e f g i))]).length,.d,.d]))] [hA (0≤r),.a (((t)[r.toNat]?) =some b) (cN (f:=aC)),hA (0≤ (0:Int)),.a (((u)[(0:Int).toNat]?) =some c) (cN (f:=aC)),hA (Pure PP 87 [] (.agg [(nI j),(nI k),(aC l),(.ilst 4 (Typs.av m) false)])),hA (Pure PP 87 [] (.agg [(nI n),(nI o),(aC p),(.ilst 4 (Typs.av q) false)])),hB dO a,hA (List.length (a++ [(FunD.mk b c (Typ.mk j k l m) (Typ.mk n o p q) (Term.mk d e f g i))]) ≤1000000),hC dO a [(FunD.mk b c (Typ.mk j k l m) (Typ.mk n o p q) (Term.mk d e f g i))],hE dO a [(FunD.mk b c (Typ.mk j k l m) (Typ.mk n o p q) (Term.mk d e f g i))],hr (AV.agg [(nI d),(nI e),(aC f),(.ilst 5 (Terms.av g) false),(iP i)]),hr (AV.agg [(nI d),(nI e),(aC f),(.ilst 5 (Terms.av g) false),(iP i)]),hr (AV.agg [(nI d),(nI e),(aC f),(.ilst 5 (Terms.av g) false),(iP i)]),hr (aC c),hr (aC c),hr (aC c),hr (aC b),hr (aC b),hr (aC b),hr (AV.gl 3 15 0 a.length false),hr (AV.gl 3 15 0 a.length false),hr (AV.gl 3 15 0 a.length false)]<|gw 4 34 (r+ (1:Int))<|.W 3 7 [0,1,2,6] (aIm s t u v (r+ (1:Int)) (a++ [(FunD.mk b c (Typ.mk j k l m) (Typ.mk n o p q) (Term.mk d e f g i))])))<|gY 3 2 2 3 15 dO gU a false<|gE 6 4 (.tup [(.agg [(.str 1 109),(.ilst 2 (List.map DataD.av v) false),(.ilst 15 (FunDs.av a) false)]),(nI 0)])
def bD1:=fun a b c d e f g i j k l m n o p=>aXf a b c d e f|>.t n g i j k l m o|>.t p tv
def bD2:=fun a b c d e f g i j k l m n o p q r s t u v w x y z A B C D F G H I=>aXf a b c d e f|>.t x g i j k l m y|>.f z n o p q r s t u v w A B C D F G H I ⟨gU,trivial⟩
def bD3:=fun a b c d e f g=>aXf a b c d e f|>.f g tv
end
end Go.Hb
namespace Go.Hb
open Go.Proofs
noncomputable section
open Go.Proofs Tryz
def bFS(a b:Mod):TS:=bW PP 29 [(.agg [(aC a.name),(.ilst 2 (List.map DataD.av a.datas) false),(.ilst 15 (FunDs.av a.funs) false)]),(.agg [(aC b.name),(.ilst 2 (List.map DataD.av b.datas) false),(.ilst 15 (FunDs.av b.funs) false)])] [] 0
def aIn(a b:Mod)(c:Int):TS:=⟨(tf 29 104 [kp 2 0,kp 3 1,(4,(bV false)),(5,(nI c))] [kc f29 116,kl f29 116,.inBlock 0,kc f29 15]),[],[oC 0 [(aC a.name),(.ilst 2 (List.map DataD.av a.datas) false),(.ilst 15 (FunDs.av a.funs) false)],oC 1 [(aC b.name),(.ilst 2 (List.map DataD.av b.datas) false),(.ilst 15 (FunDs.av b.funs) false)]],2⟩
def aIo(a b:Mod)(c:Int):TS:=⟨(tf 29 104 [kp 2 0,kp 3 1,(4,(bV false)),(6,(nI c))] [kc f29 244,kl f29 244,.inBlock 2,kc f29 31]),[],[oC 0 [(aC a.name),(.ilst 2 (List.map DataD.av a.datas) false),(.ilst 15 (FunDs.av a.funs) false)],oC 1 [(aC b.name),(.ilst 2 (List.map DataD.av b.datas) false),(.ilst 15 (FunDs.av b.funs) false)]],2⟩
def bFT(a b:DataD):TS:=bW PP 89 [(.agg [(aC a.name),(.ilst 2 (List.map ConD.av a.cons) false)]),(.agg [(aC b.name),(.ilst 2 (List.map ConD.av b.cons) false)])] [] 0
def aIp(a b:DataD)(c:Int):TS:=⟨(tf 89 73 [kp 2 0,kp 3 1,(4,(bV false)),(5,(nI c))] [kc f89 116,kl f89 116,.inBlock 0,kc f89 15]),[],[oC 0 [(aC a.name),(.ilst 2 (List.map ConD.av a.cons) false)],oC 1 [(aC b.name),(.ilst 2 (List.map ConD.av b.cons) false)]],2⟩
def aEV(a b:DataD)(c:aE)(d:List Typ)(e:aE)(f:List Typ)(g i:Int):TS:=⟨(tf 89 73 [kp 2 0,kp 3 1,(4,(bV false)),(5,(nI i)),kp 6 2,kp 7 3,(8,(nI g))] [kc f89 29852,kl f89 29852,.inBlock 2,.inBlock 1,kc f89 467,kl f89 116,.inBlock 0,kc f89 15]),[],[oC 0 [(aC a.name),(.ilst 2 (List.map ConD.av a.cons) false)],oC 1 [(aC b.name),(.ilst 2 (List.map ConD.av b.cons) false)],oC 2 [(aC c),(.ilst 4 (Typs.av d) false)],oC 3 [(aC e),(.ilst 4 (Typs.av f) false)]],4⟩
def aXg:TS:=bW PP 87 [] [] 0
def bIp(a b:Mod):=tT 0 (bFS a b)<|.b 15 14 (!(aQ a.name.length (aB a.name) b.name.length (aB b.name))) (gE 24 2 (bV false))<|gl 2 DataD.av a.datas<|gl 2 DataD.av b.datas<|.b 3 23 ((a.datas.length:Int) != (b.datas.length:Int)) (gE 15 2 (bV false))<|gm 2 dO a.funs<|gm 2 dO b.funs<|.b 3 31 ((a.funs.length:Int) != (b.funs.length:Int)) (gE 6 2 (bV false))<|.W 9 2 [0,1] (aIn a b 0)
def bD4:=fun a b c d e=>bIp a b|>.f c|>.f d|>.f e tv
def bFU(b c:Mod)(a:Int):=tT 0 (aIn b c a)<|gl 6 DataD.av b.datas<|gd 2 36 (a< (b.datas.length:Int)) (.y fun d:DataD=>.y fun e:DataD=>.y fun f:Bool=>.i [rn 5,.reg (rd 3 (.ans (.idx (DataD.av d))::rd 4 [.ans (.idx (DataD.av e)),.d,.pure (bV f),.d]))] [hA (0≤a),.a (((b.datas)[a.toNat]?) =some d) (cN (f:=DataD.av)),hA (0≤a),.a (((c.datas)[a.toNat]?) =some e) (cN (f:=DataD.av)),hA (Pure PP 89 [(.agg [(aC d.name),(.ilst 2 (List.map ConD.av d.cons) false)]),(.agg [(aC e.name),(.ilst 2 (List.map ConD.av e.cons) false)])] (bV f))]<|.b 0 50 (!f) (gE 6 2 (bV false))<|gw 6 38 (a+1)<|.W 3 2 [0,1] (aIn b c (a+1)))<|.W 9 2 [0,1] (aIo b c 0)
def bD5:=fun b c d e f g i a j k l m n=>bFU b c d|>.t i e f g a j a k l|>.f m n tv
def bD6:=fun a b c d=>bFU a b c|>.f d tv
def bFV(d e:Mod)(a:Int):=tT 0 (aIo d e a)<|gm 6 dO d.funs<|gd 2 55 (a< (d.funs.length:Int)) (.y fun t:aE=>.y fun u:aE=>.y fun v:Int=>.y fun w:Int=>.y fun x:aE=>.y fun y:List Typ=>.y fun z:Int=>.y fun A:Int=>.y fun B:aE=>.y fun C:List Typ=>.y fun D:Int=>.y fun F:Int=>.y fun G:aE=>.y fun H:List Term=>.y fun I:List Pat=>.y fun b:aE=>.y fun c:aE=>.y fun f:Int=>.y fun g:Int=>.y fun i:aE=>.y fun j:List Typ=>.y fun k:Int=>.y fun l:Int=>.y fun m:aE=>.y fun n:List Typ=>.y fun o:Int=>.y fun p:Int=>.y fun q:aE=>.y fun r:List Term=>.y fun s:List Pat=>.i [rn 5,.reg (rd 3 (.ans (.idx (FunD.av (FunD.mk t u (Typ.mk v w x y) (Typ.mk z A B C) (Term.mk D F G H I))))::rd 4 (.ans (.idx (FunD.av (FunD.mk b c (Typ.mk f g i j) (Typ.mk k l m n) (Term.mk o p q r s))))::rd 5 [])))] [hA (0≤a),.a (((d.funs)[a.toNat]?) =some (FunD.mk t u (Typ.mk v w x y) (Typ.mk z A B C) (Term.mk D F G H I))) (dY dO),hA (0≤a),.a (((e.funs)[a.toNat]?) =some (FunD.mk b c (Typ.mk f g i j) (Typ.mk k l m n) (Term.mk o p q r s))) (dY dO),hr (AV.agg [(aC b),(aC c),(nI f),(nI g),(aC i),(.ilst 4 (Typs.av j) false),(nI k),(nI l),(aC m),(.ilst 4 (Typs.av n) false),(nI o),(nI p),(aC q),(.ilst 5 (Terms.av r) false),(iP s)]),hr (AV.agg [(aC b),(aC c),(nI f),(nI g),(aC i),(.ilst 4 (Typs.av j) false),(nI k),(nI l),(aC m),(.ilst 4 (Typs.av n) false),(nI o),(nI p),(aC q),(.ilst 5 (Terms.av r) false),(iP s)]),hr (AV.ilst 15 (FunDs.av e.funs) false),hr (AV.ilst 15 (FunDs.av e.funs) false)]<|.b 8 73 (!(aQ t.length (aB t) b.length (aB b))) (gE 37 4 (bV false))<|.b 7 80 (!(aQ u.length (aB u) c.length (aB c))) (gE 30 4 (bV false))<|cP 4 90 [(.agg [(nI v),(nI w),(aC x),(.ilst 4 (Typs.av y) false)]),(.agg [(nI f),(nI g),(aC i),(.ilst 4 (Typs.av j) false)])]<|fun J=>.b 3 88 (!J) (gE 22 4 (bV false))<|cP 4 90 [(.agg [(nI z),(nI A),(aC B),(.ilst 4 (Typs.av C) false)]),(.agg [(nI k),(nI l),(aC m),(.ilst 4 (Typs.av n) false)])]<|fun K=>.b 3 96 (!K) (gE 14 4 (bV false))<|cP 4 28 [(.agg [(nI D),(nI F),(aC G),(.ilst 5 (Terms.av H) false),(iP I)]),(.agg [(nI o),(nI p),(aC q),(.ilst 5 (Terms.av r) false),(iP s)])]<|fun L=>.b 3 103 (!L) (gE 6 4 (bV false))<|gw 6 57 (a+1)<|.W 3 4 [0,1] (aIo d e (a+1)))<|gE 7 2 (bV true)
def bD7:=fun b c d e f g i j k l m n o p q r s t u v w x y z A B C D F G H I J K L M N a O Q R S T U V X Y Z a0=>bFV b c d|>.t N e f g i j k l m n o p q r s t u v w x y z A B C D F G H I J a O a Q|>.f R|>.f S K T|>.f U L V|>.f X M Y|>.f Z a0 tv
def bD8:=fun a b c d=>bFV a b c|>.f d tv
def bIq(a b:DataD):=tT 0 (bFT a b)<|.b 15 14 (!(aQ a.name.length (aB a.name) b.name.length (aB b.name))) (gE 15 2 (bV false))<|gl 2 ConD.av a.cons<|gl 2 ConD.av b.cons<|.b 3 22 ((a.cons.length:Int) != (b.cons.length:Int)) (gE 6 2 (bV false))<|.W 9 2 [0,1] (aIp a b 0)
def bD9:=fun a b c d=>bIq a b|>.f c|>.f d tv
def bFW(d e:DataD)(c:Int):=tT 0 (aIp d e c)<|gl 6 ConD.av d.cons<|gd 2 27 (c< (d.cons.length:Int)) (.y fun b:ConD=>.y fun a:ConD=>.i [rn 5,.reg (rd 3 (.ans (.idx (ConD.av b))::rd 4 (.ans (.idx (ConD.av a))::rd 5 [])))] [hA (0≤c),.a (((d.cons)[c.toNat]?) =some b) (cN (f:=ConD.av)),hA (0≤c),.a (((e.cons)[c.toNat]?) =some a) (cN (f:=ConD.av)),hr (AV.agg [(aC a.name),(.ilst 4 (Typs.av a.args) false)]),hr (AV.agg [(aC a.name),(.ilst 4 (Typs.av a.args) false)]),hr (AV.ilst 2 (List.map ConD.av e.cons) false),hr (AV.ilst 2 (List.map ConD.av e.cons) false)]<|.b 9 45 (!(aQ b.name.length (aB b.name) a.name.length (aB a.name))) (gE 15 4 (bV false))<|gm 2 aZ b.args<|gm 2 aZ a.args<|.b 3 53 ((b.args.length:Int) != (a.args.length:Int)) (gE 6 4 (bV false))<|.W 8 4 [0,1,2,3] (aEV d e b.name b.args a.name a.args 0 c))<|gE 7 2 (bV true)
def bEa:=fun b c d e f g a i j k l=>bFW b c d|>.t g e f a i a j|>.f k|>.f l tv
def bEb:=fun a b c d=>bFW a b c|>.f d tv
def bFX(d e:DataD)(q:aE)(b:List Typ)(r:aE)(f:List Typ)(a c:Int):=tT 0 (aEV d e q b r f a c)<|gm 6 aZ b<|gd 2 58 (a< (b.length:Int)) (.y fun g:Int=>.y fun i:Int=>.y fun j:aE=>.y fun k:List Typ=>.y fun l:Int=>.y fun m:Int=>.y fun n:aE=>.y fun o:List Typ=>.y fun p:Bool=>.i [rn 5,.reg (rd 3 (.ans (.idx (Typ.av (Typ.mk g i j k)))::rd 4 [.ans (.idx (Typ.av (Typ.mk l m n o))),.d,.pure (bV p),.d]))] [hA (0≤a),.a (((b)[a.toNat]?) =some (Typ.mk g i j k)) (dY aZ),hA (0≤a),.a (((f)[a.toNat]?) =some (Typ.mk l m n o)) (dY aZ),hA (Pure PP 90 [(.agg [(nI g),(nI i),(aC j),(.ilst 4 (Typs.av k) false)]),(.agg [(nI l),(nI m),(aC n),(.ilst 4 (Typs.av o) false)])] (bV p))]<|.b 0 72 (!p) (gE 6 4 (bV false))<|gw 6 60 (a+1)<|.W 3 4 [0,1,2,3] (aEV d e q b r f (a+1) c))<|gw 6 29 (c+1)<|.W 3 4 [0,1] (aIp d e (c+1))
def bEc:=fun b c d e f g i j k l m n o p q r s t a u v w x y=>bFX b c d e f g i j|>.t t k l m n o p q r s a u a v w|>.f x y tv
def bEd:=fun a b c d e f g i j k=>bFX a b c d e f g i|>.f j k tv
def aXh:=(tT 0 (aXg)<|.i [rn 10,.cnilI 0 3 4] []<|gE 0 1 (.agg [(nI 1),(nI 0),(.str 0 0),(.ilst 4 (Typs.av ([] :List Typ)) true)])) tv
end
end Go.Hb
namespace Go.Hb
open Go.Proofs
set_option maxHeartbeats 4000000
noncomputable section
abbrev iE :Typ:=.mk 1 0 ([] :aE) []
def lI (c:Con) :ConD:= ⟨c.name,List.replicate c.args.toNat iE⟩
def aAg (cs:List Con)(k:Nat) :DataD:= ⟨dV (65+ (k:Int)),((cs.drop (5*k)).take 5).map lI⟩
def hX (cs:List Con) :List DataD:= (List.range ((cs.length+4) / 5)).map (aAg cs)
theorem aPf {E:Emb}{cv:Value}(h:VR E (.agg [.int .i64 1,.int .i64 0,.str 0 0,.ilst 4 [] true]) cv) :VR E (Typ.av iE) cv:=by
 rw [VR]at h;obtain⟨bs,rfl,g1⟩ :=h;obtain⟨a0,bs,rfl,k0,g1⟩ :=g1.cons_inv;obtain⟨a1,bs,rfl,k1,g1⟩ :=g1.cons_inv;obtain⟨a2,bs,rfl,k2,g1⟩ :=g1.cons_inv;obtain⟨a3,bs,rfl,k3,g1⟩ :=g1.cons_inv;show VR E (.agg [.int .i64 1,.int .i64 0,.str 0 0,.ilst 4 [] false]) _;rw [VR];exact⟨_,rfl,VRs.cons k0 (VRs.cons k1 (VRs.cons k2 (VRs.cons (hR k3) g1)))⟩
theorem xY :Pure PP 87 [] (Typ.av iE) :=
 bM (s:=aXg) (by kernel_rfl) (by kernel_rfl) rfl (wF _) (Ends.val aXh (fun E cv=>aPf))
theorem bHg {n:Int}:rN PP .rem 3 (.int .i64 n) (.int .i64 5) false true=some (.int .i64 (Int.tmod n 5)) :=by
 simp [rN,aBf]
theorem aXi {α:Type}(a:List α)(x y:α) : (a++ [x]).set a.length y=a++ [y] :=by
 induction a with
 |nil=>rfl
 |cons b a ih=>simp [ih]
theorem aXj {α:Type}(a:List α)(x:α) : (a++ [x])[a.length]?=some x:=by simp
def eC (cs:List Con)(k:Nat)(v:KVD) :List ODat:=List.map DataD.o ((List.range k).map (aAg cs)) ++ [⟨dV (65+ (k:Int)),v⟩]
theorem qB (cs:List Con)(k:Nat)(v:KVD) : (eC cs k v).length=k+1:=by simp [eC]
theorem qY (cs:List Con)(k:Nat)(v:KVD) : (eC cs k v)[k]?=some ⟨dV (65+ (k:Int)),v⟩ :=by
 have:=aXj (List.map DataD.o ((List.range k).map (aAg cs))) (⟨dV (65+ (k:Int)),v⟩ :ODat);simp [eC]
theorem uN (cs:List Con)(k:Nat)(v w:KVD) : (eC cs k v).set k ⟨dV (65+ (k:Int)),w⟩ =eC cs k w:=by
 have:=aXi (List.map DataD.o ((List.range k).map (aAg cs))) (⟨dV (65+ (k:Int)),v⟩ :ODat) ⟨dV (65+ (k:Int)),w⟩;simp [eC]
theorem aCt (cs:List Con)(k:Nat)(h1:5*k<cs.length)(h2:cs.length≤5*k+5) :eC cs k (.row (((cs.drop (5*k)).take (cs.length-5*k)).map lI)) =List.map DataD.o (hX cs) :=by
 have e: (cs.length+4) / 5=k+1:=by omega
 have e2: (cs.drop (5*k)).take (cs.length-5*k) = (cs.drop (5*k)).take 5:=by
  rw [List.take_of_length_le (by simp),List.take_of_length_le (by simp;omega)]
 rw [hX,e,List.range_succ,e2];simp [eC,DataD.o,aAg]
theorem aLi (cs:List Con)(k:Nat)(h2:5*k+5<cs.length) :eC cs k (.row (((cs.drop (5*k)).take 5).map lI)) ++ [⟨dV (65+ ((k+1:Nat) :Int)),.nil⟩] =eC cs (k+1) .nil:=by
 simp [eC,List.range_succ,DataD.o,aAg]
theorem aLj {α:Type}(n:Nat)(a:α) :List.replicate n a++ [a] =List.replicate (n+1) a:=by
 rw [List.replicate_succ']
theorem aBQ (cs:List Con)(nm:aE)(l0:List ODat)(i:Nat)(c:Con)(hc:cs[i]?=some c)(ha:0≤c.args∧c.args≤1000) :∀ (n j:Nat),j+n=c.args.toNat →
  LeadsM PP 0 (aAe cs nm l0 (j:Int) (List.replicate j iE) (i:Int)).as (aNL cs l0 nm (List.replicate c.args.toNat iE) (i:Int)).as
 | 0,j,h=>by
  have hj:c.args.toNat=j:=by omega
  have e:=bDS cs nm l0 j (List.replicate j iE) i c (by omega) (by simpa using hc) (by simp;omega);rw [hj];exact e
 | n+1,j,h=>by
  refine(bDR cs nm l0 j (List.replicate j iE) i c 1 0 [] [] (by omega) (by simpa using hc) (by simp;omega) xY (by simp;omega) sd).trans ?_;rw [aLj];exact aBQ cs nm l0 i c hc ha n (j+1) (by omega)
theorem aGo (cs:List Con)(nm:aE)(l0:List ODat)(k3:List ConD)(u:Value)(i:Nat)(c:Con)(hc:cs[i]?=some c)(ha:0≤c.args∧c.args≤1000) :∀ (n j:Nat),j+n=c.args.toNat →
  LeadsM PP 0 (aIl cs l0 nm k3 u (j:Int) (List.replicate j iE) (i:Int)).as (aNM cs l0 nm k3 u (List.replicate c.args.toNat iE) (i:Int)).as
 | 0,j,h=>by
  have hj:c.args.toNat=j:=by omega
  have e:=bDX cs l0 nm k3 u j (List.replicate j iE) i c (by omega) (by simpa using hc) (by simp;omega);rw [hj];exact e
 | n+1,j,h=>by
  refine(bDW cs l0 nm k3 u j (List.replicate j iE) i c 1 0 [] [] (by omega) (by simpa using hc) (by simp;omega) xY (by simp;omega) sd).trans ?_;rw [aLj];exact aGo cs nm l0 k3 u i c hc ha n (j+1) (by omega)
theorem aGp (cs:List Con)(l0:List ODat)(nm:aE)(ts:List Typ)(i:Int){ix:Nat}{w:aE}(h:l0[ix]?=some ⟨w,.nil⟩) :LeadsM PP 0 (aNL cs l0 nm ts i).as (aPc cs l0 nm ts i ix w).as:=
 bHd (k:=0) (e0:=2) (e:=2) (by kernel_rfl) (by kernel_rfl) (bFM (f:=ODat.av) [aC w] [] h rfl) (by kernel_rfl)
theorem aRi (cs:List Con)(l0:List ODat)(nm:aE)(ks:List ConD)(u:Value)(ts:List Typ)(i:Int){ix:Nat}{w:aE}(h:l0[ix]?=some ⟨w,.val u⟩) :LeadsM PP 0 (aNM cs l0 nm ks u ts i).as (aPd cs l0 nm ks ts i ix w).as:=
 bDK (k:=0) (b:=2) (e0:=2) (e:=2) (u:=u) (xs:=List.map ConD.av ks) (n:=List.length ks) (by kernel_rfl) (by kernel_rfl) (by decide) (List.length_map ..) (bFM (f:=ODat.av) [aC w] [] h rfl) (by kernel_rfl)
theorem aEW (cs:List Con)(hl:cs.length≤100)(ha:∀c∈cs,0≤c.args∧c.args≤1000) :∀ (n i k:Nat) (u:Value),i+n=cs.length→5*k<i→i≤5*k+5 →
  Ends PP 0 (aAf cs (eC cs k (.val u)) (((cs.drop (5*k)).take (i-5*k)).map lI) u (i:Int)).as (.ret (.ilst 2 (List.map DataD.av (hX cs)) false)) (aG [] 0)
 | 0,i,k,u,h,h1,h2=>by
  obtain rfl:i=cs.length:=by omega
  have e1: (eC cs k (.val u)).length-1=k:=by rw [qB];omega
  have e2:=uN cs k (.val u) (.row (((cs.drop (5*k)).take (cs.length-5*k)).map lI));refine bDV cs _ _ u _ ⟨dV (65+ (k:Int)),.val u⟩ (hX cs) (by simp) (by rw [e1];exact qY ..) rfl ?_ ?_
  ·rw [e1,e2,aCt cs k h1 h2]
  ·rw [e1,e2,aCt cs k h1 h2,List.length_map]
 | n + 1,i,k,u,h,h1,h2=>by
  obtain⟨c,hc⟩ :∃c,cs[i]?=some c:= ⟨_,List.getElem?_eq_getElem (by omega)⟩;have hca:=ha c (List.mem_of_getElem? hc);have hmod:Int.tmod (i:Int) 5= ((i % 5:Nat) :Int) :=by rw [Int.tmod_eq_emod_of_nonneg (by omega)];omega
  have ec: (lI c) = ⟨c.name,List.replicate c.args.toNat iE⟩ :=rfl;by_cases h5:i=5*k+5
  · have e1: (eC cs k (.val u)).length-1=k:=by rw [qB];omega
    have e0: (eC cs k (.val u)).length=k+1:=qB ..;have e2:=uN cs k (.val u) (.row (((cs.drop (5*k)).take 5).map lI));have ei:i-5*k=5:=by omega
    have st:=bDT cs (eC cs k (.val u)) (((cs.drop (5*k)).take (i-5*k)).map lI) u i ⟨dV (65+ (k:Int)),.val u⟩ c (by simp;omega) bHg (by rw [hmod];simp;omega) (by rw [e0];exact sd) (by rw [e0];exact wrap_u8 (by omega) (by omega)) (by rw [e0];exact oS (by omega) (by omega)) (by rw [e1];exact qY ..) rfl (by simp [e0];omega) (by omega) (by simpa using hc);rw [e1,ei,e0]at st;have st':LeadsM PP 0 (aAf cs (eC cs k (.val u)) (((cs.drop (5*k)).take 5).map lI) u i).as (aAe cs c.name (eC cs (k+1) .nil) 0 [] i).as:=by
     have e3: (eC cs k (.val u)).set k ⟨dV (65+ (k:Int)),.row (((cs.drop (5*k)).take 5).map lI)⟩ ++ [⟨dV (65+ ((k+1:Nat) :Int)),.nil⟩] =eC cs (k+1) .nil:=by
      rw [e2,aLi cs k (by omega)]
     rw [←e3];exact st
    rw [ei];refine(st'.trans ((aBQ cs c.name (eC cs (k+1) .nil) i c hc hca c.args.toNat 0 (by omega)).trans (aGp cs _ c.name _ i (qY cs (k+1) .nil)))).ends ?_;have l1: (eC cs (k+1) .nil).length=k+2:=qB ..;have w1:IntKind.i64.wrap (((eC cs (k+1) .nil).length:Int) -1) = ((k+1:Nat) :Int) :=by rw [l1];rw [wrap64 (by omega) (by omega)];omega
    refine aPe cs _ c.name _ i (k+1) _ (by rw [w1];omega) (by rw [w1,l1];omega) (by rw [w1];omega) (by rw [l1];omega) (by simp) sd (fun ua un uc=>?_);have ih:=aEW cs hl ha n (i+1) (k+1) (.slice ua un uc) (by omega) (by omega) (by omega);have er: ((cs.drop (5* (k+1))).take (i+1-5* (k+1))).map lI= [] ++ [lI c] :=by
     have:i+1-5* (k+1) =1:=by omega
     rw [this];have hd:cs.drop (5* (k+1)) =c::cs.drop (5* (k+1) +1) :=by
      have hi:5* (k+1) =i:=by omega
      rw [hi];have:= (List.getElem?_eq_some_iff.1 hc);rw [List.drop_eq_getElem_cons this.1,this.2]
     rw [hd];rfl
    rw [er]at ih;rw [←uN cs (k+1) .nil]at ih;exact ih
  · have st:=bDU cs (eC cs k (.val u)) (((cs.drop (5*k)).take (i-5*k)).map lI) u i c (by simp;omega) bHg (by rw [hmod];simp;omega) (by omega) (by simpa using hc);refine(st.trans ((aGo cs c.name _ _ u i c hc hca c.args.toNat 0 (by omega)).trans (aRi cs _ c.name _ u _ i (qY cs k (.val u))))).ends ?_;have l1: (eC cs k (.val u)).length=k+1:=qB ..;have w1:IntKind.i64.wrap (((eC cs k (.val u)).length:Int) -1) = ((k:Nat) :Int) :=by rw [l1];rw [wrap64 (by omega) (by omega)];omega
    refine bDN cs _ c.name _ _ i k _ (by rw [w1];omega) (by rw [w1,l1];omega) (by rw [w1];omega) (by rw [l1];omega) (by simp;omega) sd (fun ua un uc=>?_);have ih:=aEW cs hl ha n (i+1) k (.slice ua un uc) (by omega) (by omega) (by omega);have er: ((cs.drop (5*k)).take (i+1-5*k)).map lI= ((cs.drop (5*k)).take (i-5*k)).map lI++ [lI c] :=by
     have:i+1-5*k= (i-5*k) +1:=by omega
     rw [this,List.take_add_one,List.getElem?_drop,show 5*k+ (i-5*k) =i by omega,hc];simp
    rw [er]at ih;rw [←uN cs k (.val u)]at ih;exact ih
theorem aXk (cs:List Con)(hl:cs.length≤100)(ha:∀c∈cs,0≤c.args∧c.args≤1000) :Pure PP 86 [.ilst 2 (List.map Con.av cs) false] (.ilst 2 (List.map DataD.av (hX cs)) false) :=by
 refine bM (s:=bFN cs) (by kernel_rfl) (by kernel_rfl) rfl (by simp [AV.keyless]) ?_;refine(bDO cs).ends ?_;cases cs with
 |nil=>exact bDQ [] [] (by simp) rfl rfl
 | cons c cs=>
  have hca:=ha c (List.mem_cons_self ..);have st:=bDP (c::cs) c (by simp) bHg rfl rfl rfl (oS (by simp) (by simp)) (by simp) (by omega) rfl;refine(st.trans ((aBQ (c::cs) c.name _ 0 c rfl hca c.args.toNat 0 (by omega)).trans (aGp (c::cs) _ c.name _ ((0:Nat) :Int) (ix:=0) rfl))).ends ?_;refine aPe (c::cs) _ c.name _ ((0:Nat) :Int) 0 _ (by decide) (by decide) (by decide) (by simp) (by simp) sd (fun ua un uc=>?_);have ih:=aEW (c::cs) hl ha cs.length 1 0 (.slice ua un uc) (by simp;omega) (by omega) (by omega);exact ih
end
end Go.Hb
namespace Go.Hb
open Go.Proofs
set_option maxHeartbeats 4000000
noncomputable section
def rM (p:Prog) :aE:= (dW (p.funs.length+1)).getD p.funs.length []
def bEe (p:Prog)(i:Nat) :FunD:=.mk ((hU p).getD i []) (rM p) iE iE (gW p (i:Int)).1
def aNN (p:Prog) :Mod:= ⟨strOf [109],hX p.cons,(List.range p.funs.length).map (bEe p)⟩
abbrev ZM :Mod:= ⟨[],[],[]⟩
def aBc (p:Prog) :Bool:=decide (p.funs.length≤5) && (List.range p.funs.length).all fun i=>decide ((gW p (i:Int)).2=0)
def dG (p:Prog) :Mod×Int:=if bC p=true then if aBc p=true then(aNN p,0)else(ZM,3)else(ZM,2)
theorem aLk {E:Emb}{x:AV}{cv:Value}(h:VR E (.tup [.agg [.str 0 0,.ilst 2 [] true,.ilst 15 [] true],x]) cv) :VR E (.tup [Mod.av ZM,x]) cv:=by
 rw [VR]at h;obtain⟨us,rfl,h⟩ :=h;obtain⟨u,us1,rfl,g1,g2⟩ :=h.cons_inv;rw [VR];refine⟨_,rfl,VRs.cons ?_ g2⟩;rw [VR]at g1;obtain⟨bs,rfl,g1⟩ :=g1;obtain⟨a0,bs,rfl,k0,g1⟩ :=g1.cons_inv;obtain⟨a1,bs,rfl,k1,g1⟩ :=g1.cons_inv;obtain⟨a2,bs,rfl,k2,g1⟩ :=g1.cons_inv;show VR E (.agg [.str 0 0,.ilst 2 [] false,.ilst 15 [] false]) _;rw [VR];exact⟨_,rfl,VRs.cons k0 (VRs.cons (hR k1) (VRs.cons (hR k2) g1))⟩
theorem aGq {p:Prog}(h:Fs p){n:Nat}(hn:n≤900000)(h0:0<n) : ((dW (p.funs.length+n)).drop p.funs.length)[0]?=some (rM p) :=by
 have hh:=h.head;rw [List.getElem?_drop,Nat.add_zero,aEF (m:=p.funs.length+n) (m':=p.funs.length+1) (by omega) (by omega) (by omega) (by omega),rM,List.getD_eq_getElem?_getD];obtain⟨y,hy⟩ :∃y,(dW (p.funs.length+1))[p.funs.length]?=some y:= ⟨_,List.getElem?_eq_getElem (by rw [gB _ (by omega)];omega)⟩;rw [hy];rfl
theorem aBd {p:Prog}(h:Fs p) :∀c∈p.cons,0≤c.args∧c.args≤3∧cH c.name=true:=fun c hc=>by
 have:=h.head.2.2.2.2.2.2 c hc;simp only [gI,Bool.and_eq_true]at this;have h2:=inB_iff.1 this.2;exact⟨h2.1,h2.2,this.1⟩
theorem aLl {p:Prog}(h:Fs p){pl:List aE}(hpl:pl[0]?=some (rM p))(hf:p.funs.length≤5) :∀ (n i:Nat),i+n=p.funs.length→ (∀j,j<i→ (gW p (j:Int)).2=0) →
  ∃r,(r= (dG p) ∧Ends PP 0 (aIm p (hU p) pl (hX p.cons) (i:Int) ((List.range i).map (bEe p))).as (.ret (.tup [Mod.av r.1,.int .i64 r.2])) (aG [] 0))
 | 0,i,hi,hok=>by
  obtain rfl:i=p.funs.length:=by omega
  have e:dG p= (aNN p,0) :=by
   unfold dG aBc;rw [if_pos h.fo,if_pos];rw [Bool.and_eq_true,decide_eq_true_eq,List.all_eq_true];exact⟨hf,fun j hj=>decide_eq_true (hok j (List.mem_range.1 hj))⟩
  refine⟨_,rfl,?_⟩;rw [e];exact bD3 p (hU p) pl (hX p.cons) _ _ (by simp)
 | n + 1,i,hi,hok=>by
  have hb:=aET h.sm (i:Int);have hfl: (hU p)[i]?=some ((hU p).getD i []) :=by
   rw [List.getD_eq_getElem?_getD];obtain⟨y,hy⟩ :∃y,(hU p)[i]?=some y:= ⟨_,List.getElem?_eq_getElem (by rw [sP h];omega)⟩;rw [hy];rfl
  by_cases hz: (gW p (i:Int)).2=0
  · obtain⟨r,hr,he⟩ :=aLl h hpl hf n (i+1) (by omega) (fun j hj=>by
     rcases Nat.lt_or_ge j i with g|g
     ·exact hok j g
     · obtain rfl:j=i:=by omega
       exact hz)
    refine⟨r,hr,?_⟩;have ef:bEe p i= .mk ((hU p).getD i []) (rM p) iE iE (gW p (i:Int)).1:=rfl;rw [List.range_succ,List.map_append,List.map_cons,List.map_nil,ef]at he;generalize gW p (i:Int) =B at hb hz he;obtain⟨⟨t1,t2,t3,t4,t5⟩,e⟩ :=B;exact(bD2 p (hU p) pl (hX p.cons) i _ t1 t2 t3 t4 t5 e _ _ 1 0 [] [] 1 0 [] [] (by simp;omega) hb (by simp at hz;simp [hz]) (by omega) (by simpa using hfl) (by omega) hpl xY xY (by simp;omega) sd).ends he
  · have hi2:aW (i:Int) 0 ((p.funs.length:Int) -1) =true:=inB_iff.2 (by omega);obtain⟨a,t,ha,h1,h2,h3,h4⟩ :=wV h hi2;have e3:gW p (i:Int) = (ZT,3) :=by
     rw [h4]at hz ⊢;cases hg:lF t with
     |true=>rw [hg]at hz;simp at hz
     |false=>simp
    have e:dG p= (ZM,3) :=by
     unfold dG aBc;rw [if_pos h.fo,if_neg];rw [Bool.and_eq_true,List.all_eq_true];intro g;exact hz (of_decide_eq_true (g.2 i (List.mem_range.2 (by omega))))
    refine⟨_,rfl,?_⟩;rw [e];rw [e3]at hb;exact Ends.val (bD1 p (hU p) pl (hX p.cons) i _ 0 0 [] [] [] 3 (by simp;omega) hb (by decide)) (fun E cv=>aLk)
theorem aIq {p:Prog}(hs:aN p=true) :Pure PP 27 [PA p] (.tup [Mod.av (dG p).1,.int .i64 (dG p).2]) :=by
 have hF:=oG p hs;refine bM (s:=bFO p) (by kernel_rfl) (by kernel_rfl) (by simp only [AV.keylessL,aKY];rfl) (by simp [AV.keyless,AV.keylessL,aH4]) ?_;cases hf:bC p with
 | false=>
  rw [hf]at hF;have e:dG p= (ZM,2) :=by unfold dG;rw [if_neg (by rw [hf];simp)]
  rw [e];exact Ends.val (bDY p false hF rfl) (fun E cv=>aLk)
 | true=>
  rw [hf]at hF;have h:=Fs.of hs hf;have hh:=h.head;by_cases h5:p.funs.length≤5
  · have hd:=uM h;obtain⟨r,rfl,he⟩ :=aLl h (aGq h (n:= (lL p).toNat+30) (by omega) (by omega)) h5 p.funs.length 0 (by omega) (fun j hj=>by omega);exact(bD0 p true (hU p) _ (hX p.cons) hF rfl (by simp;omega) (aGn h) (aXk p.cons (by omega) (fun c hc=>by have:=aBd h c hc;omega))).ends he
  · have e:dG p= (ZM,3) :=by
     unfold dG aBc;rw [if_pos hf,if_neg];simp [h5]
    rw [e];exact Ends.val (bDZ p true hF rfl (by simp;omega)) (fun E cv=>aLk)
end
end Go.Hb
namespace Go.Hb
open Go.Proofs
noncomputable section
open Go.Proofs Tryz
def bFY(a:Prog):TS:=bW PP 26 [(Prog.av a)] [] 0
def aIr(a:Prog)(c d:List aE)(e:Int)(b:List DataD):TS:=⟨(tf 152 31 [(0,(.yield 0)),kp 1 1,kp 2 2,(4,(nI e))] [kc f152 12,kl f152 12,.inBlock 0]),[(tf 26 95 [kp 1 3,kp 2 4,(3,(nI 0)),kp 4 5,kp 5 6,kp 6 7] [.inRF 0,.inBlock 0,kc f26 127] (defers:=[.col 8]))],[(0,(.loop .ready none 26 (yC [kp 5 6,kp 6 7]) 95 [24] (kd f26 1012) (kd f26 1013) 8),false),oC 1 [(iC a.cons)],oC 2 [(nI 5)],oC 3 [(iN a.nodes),(iI a.funs),(nI a.main),(iC a.cons)],oC 4 [(.str 0 0),.nils,.nils],oC 5 [(iN a.nodes),(iI a.funs),(nI a.main),(iC a.cons),(iS c),(iS d)],oC 6 [(.func 83 [] [])],oC 7 [(.str 1 109),(.gl 9 2 0 b.length false),(.gl 10 15 0 ([] :List FunD).length false)],(8,(.defd false),false),oL 9 2 (List.map DataD.av b),oL 10 15 (FunDs.av ([] :List FunD))],11⟩
def wW(a:Prog)(d e:List aE)(f:Int)(b:List ConD)(g:List Con)(i j:Int)(k:List Con)(l:aE)(c:List DataD):TS:=⟨(tf 26 95 [kp 5 0,kp 6 1,kp 8 2,(33,(.ilst 2 (jC g) true)),(34,(nI i)),(35,(nI f))] [kc f26 64852,kl f26 64852,.inBlock 2,kc f26 8107,.inBlock 1] (roundOf:=some 3)),[(tf 152 31 [(0,(.yield 3)),kp 1 4,kp 2 5,(4,(nI j)),(19,(.yield 3)),(28,(.ilst 2 (jC k) true))] [ko f152 402 10,kc f152 403,.inBlock 1,kc f152 51,kl f152 12,.inBlock 0]),(tf 26 95 [kp 1 6,kp 2 7,(3,(nI 0)),kp 4 8,kp 5 0,kp 6 1] [.inRF 3,.inBlock 0,kc f26 127] (defers:=[.col 9]))],[oC 0 [(.func 83 [] [])],oC 1 [(.str 1 109),(.gl 10 2 0 c.length false),(.gl 11 15 0 ([] :List FunD).length false)],oC 2 [(aC l),(.gl 12 2 0 b.length false)],(3,(.loop .busy none 26 (yC [kp 5 0,kp 6 1]) 95 [24] (kd f26 1012) (kd f26 1013) 9),false),oC 4 [(iC a.cons)],oC 5 [(nI 5)],oC 6 [(iN a.nodes),(iI a.funs),(nI a.main),(iC a.cons)],oC 7 [(.str 0 0),.nils,.nils],oC 8 [(iN a.nodes),(iI a.funs),(nI a.main),(iC a.cons),(iS d),(iS e)],(9,(.defd false),false),oL 10 2 (List.map DataD.av c),oL 11 15 (FunDs.av ([] :List FunD)),oL 12 2 (List.map ConD.av b)],13⟩
def aBR(a:Prog)(d e:List aE)(f:Int)(b:List FunD)(c:List DataD):TS:=⟨(tf 26 95 [kp 2 0,(3,(nI 0)),kp 4 1,kp 5 2,kp 6 3,(60,(iI a.funs)),(61,(nI (a.funs.length:Int))),(62,(nI f))] [kc f26 2036,kl f26 2036,.inBlock 4,kc f26 255] (defers:=[.col 4])),[],[oC 0 [(.str 0 0),.nils,.nils],oC 1 [(iN a.nodes),(iI a.funs),(nI a.main),(iC a.cons),(iS d),(iS e)],oC 2 [(.func 83 [] [])],oC 3 [(.str 1 109),(.gl 5 2 0 c.length false),(.gl 6 15 0 b.length false)],(4,(.defd false),false),oL 5 2 (List.map DataD.av c),oL 6 15 (FunDs.av b)],7⟩
def mpI0_s:TS:=bW PP 85 [(.slice 0 0 0 0 1 true),(.func 83 [] [])] [oC 0 []] 1
def mpI1_s:TS:=bW PP 85 [(.slice 0 0 1 1 1 true),(.func 83 [] [])] [oC 0 [(nI 0)]] 1
def mpI2_s:TS:=bW PP 85 [(.slice 0 0 2 2 1 true),(.func 83 [] [])] [oC 0 [(nI 0),(nI 0)]] 1
def mpI3_s:TS:=bW PP 85 [(.slice 0 0 3 3 1 true),(.func 83 [] [])] [oC 0 [(nI 0),(nI 0),(nI 0)]] 1
def bFZ(a:Int):TS:=bW PP 83 [(nI a)] [] 0
def bF3(a:Prog):=tT 0 (bFY a)<|gpI 10 32 [(Prog.av a)]<|fun d=>.b 2 15 (d != 0) (.i [rn 8,.cnilI 1 1 2] []<|.i [.cnilI 1 2 15] []<|gE 0 2 (.tup [(.agg [(.str 0 0),(.ilst 2 (List.map DataD.av ([] :List DataD)) true),(.ilst 15 (FunDs.av ([] :List FunD)) true)]),(nI 2)]))<|.y fun b:List aE=>.y fun c:List aE=>gp 6 78 [(Prog.av a)] (.agg [(iN a.nodes),(iI a.funs),(nI a.main),(iC a.cons),(iS b),(iS c)])<|.i [rn 44,.lkeep 8 [5,6]] []<|.i [rn 6,.cnil 4 1 2] []<|gu 0 9 (List.map DataD.av ([] :List DataD))<|gv 0 4 1 (.gl 9 2 0 ([] :List DataD).length false)<|.i [.cnil 4 2 15] []<|gu 0 10 (FunDs.av ([] :List FunD))<|gv 0 4 2 (.gl 10 15 0 ([] :List FunD).length false)<|.W 0 11 [8,5,6,0,1,2,3,4,7,9,10] (aIr a b c 0 ([] :List DataD))
def bEf:=fun a b c d=>bF3 a b c|>.t d tv
def bEg:=fun a b c d e f g=>bF3 a b e|>.f f c d g ⟨kk,⟨gU,trivial⟩⟩
def bF4(b:Prog)(d e:List aE)(a:Int)(c:List DataD):=tT 0 (aIr b d e a c)<|gl 5 Con.av b.cons<|gd 2 9 (a< (b.cons.length:Int)) (.i [rn 5,.reg (rd 3 [.ans (.ev (iC (List.drop a.toNat b.cons))),.ans (.len ((List.drop a.toNat b.cons).length:Int)),.d,.d])] [.a (0≤a∧a.toNat≤List.length b.cons) (p':=aDE PP 30 (iC b.cons) (some (nI a)) none (iC (List.drop a.toNat b.cons))) fun⟨ha,hb⟩=>(aDF (k:=a) (by kernel_rfl) ha hb),hl Con.av (List.drop a.toNat b.cons)]<|gw 8 24 (a+ (if((List.drop a.toNat b.cons).length:Int) <5 then((List.drop a.toNat b.cons).length:Int)else 5))<|gw 3 27 (a+ (if((List.drop a.toNat b.cons).length:Int) <5 then((List.drop a.toNat b.cons).length:Int)else 5))<|.i [.ans (.ev (.ilst 2 (jC (List.take ((a+ (if((List.drop a.toNat b.cons).length:Int) <5 then((List.drop a.toNat b.cons).length:Int)else 5)).toNat-a.toNat) (List.drop a.toNat b.cons))) true))] [.a (0≤a∧a≤ (a+ (if((List.drop a.toNat b.cons).length:Int) <5 then((List.drop a.toNat b.cons).length:Int)else 5)) ∧ (a+ (if((List.drop a.toNat b.cons).length:Int) <5 then((List.drop a.toNat b.cons).length:Int)else 5)).toNat≤List.length b.cons) (p':=aXb PP 30 (iC b.cons) (some (nI a)) (some (nI (a+ (if((List.drop a.toNat b.cons).length:Int) <5 then((List.drop a.toNat b.cons).length:Int)else 5)))) (some (nI (a+ (if((List.drop a.toNat b.cons).length:Int) <5 then((List.drop a.toNat b.cons).length:Int)else 5)))) (.ilst 2 (jC (List.take ((a+ (if((List.drop a.toNat b.cons).length:Int) <5 then((List.drop a.toNat b.cons).length:Int)else 5)).toNat-a.toNat) (List.drop a.toNat b.cons))) true)) fun⟨ha,hb,hc⟩=>(aRh (i:=a) (j:= (a+ (if((List.drop a.toNat b.cons).length:Int) <5 then((List.drop a.toNat b.cons).length:Int)else 5))) (by kernel_rfl) ha hb hc)]<|gw 12 28 (65+ (c.length:Int))<|.i [rn 1,.set 29 (.int .u8 (65+ (c.length:Int)))] [.a ((IntKind.u8.wrap (65+ (c.length:Int))) = (65+ (c.length:Int))) (congrArg (AV.int .u8))]<|.i [rn 1,.ans (.ev (aC (dV (65+ (c.length:Int)))))] [hA (fF [(.int .u8 (65+ (c.length:Int)))] =some (aC (dV (65+ (c.length:Int)))))]<|gl 8 Con.av (List.take ((a+ (if((List.drop a.toNat b.cons).length:Int) <5 then((List.drop a.toNat b.cons).length:Int)else 5)).toNat-a.toNat) (List.drop a.toNat b.cons))<|.i [rn 4,.cnil 12 1 2] []<|gu 0 13 (List.map ConD.av ([] :List ConD))<|gv 0 12 1 (.gl 13 2 0 ([] :List ConD).length false)<|.W 0 14 [6,7,12,0,1,2,3,4,5,8,9,10,13] (wW b d e 0 ([] :List ConD) (List.take ((a+ (if((List.drop a.toNat b.cons).length:Int) <5 then((List.drop a.toNat b.cons).length:Int)else 5)).toNat-a.toNat) (List.drop a.toNat b.cons)) ((List.take ((a+ (if((List.drop a.toNat b.cons).length:Int) <5 then((List.drop a.toNat b.cons).length:Int)else 5)).toNat-a.toNat) (List.drop a.toNat b.cons)).length:Int) a (List.take ((a+ (if((List.drop a.toNat b.cons).length:Int) <5 then((List.drop a.toNat b.cons).length:Int)else 5)).toNat-a.toNat) (List.drop a.toNat b.cons)) (dV (65+ (c.length:Int))) c))<|gl 11 dF b.funs<|.W 4 11 [4,5,6,7,8,9,10] (aBR b d e 0 ([] :List FunD) c)
def bEh:=fun b e f a g i c j d(p:0≤ (a+ (if((List.drop a.toNat b.cons).length:Int) <5 then((List.drop a.toNat b.cons).length:Int)else 5)))k l m n o=>bF4 b e f a g|>.t i ⟨c,j⟩ d d ⟨c,k,l⟩ m n o ⟨kk,⟨gU,⟨kk,trivial⟩⟩⟩
def bEi:=fun a b c d e f=>bF4 a b c d e|>.f f ⟨kk,⟨gU,trivial⟩⟩
def aLm(a:Prog)(f g:List aE)(i:Int)(b:List ConD)(k:List Con)(l j:Int)(m:List Con)(e:aE)(d:List DataD):=tT 0 (wW a f g i b k l j m e d)<|gd 5 36 (i<l) (gX Con.av 6 k i<|fun c=>.o (.i [rn 4,.cset 13 1 (nI 3)] [.a (c.args=3) (congrArg (AV.int .i64))]<|.i [.reg (rd 8 [.call (.ilst 4 (Typs.av [(Typ.mk 1 0 ([] :aE) []),(Typ.mk 1 0 ([] :aE) []),(Typ.mk 1 0 ([] :aE) [])]) false) (aG [oC 0 [(.func 83 [] [])],oC 1 [(.str 1 109),(.gl 10 2 0 d.length false),(.gl 11 15 0 ([] :List FunD).length false)],oC 2 [(aC e),(.gl 12 2 0 b.length false)],(3,(.loop .busy none 26 (yC [kp 5 0,kp 6 1]) 95 [24] (kd f26 1012) (kd f26 1013) 9),false),oC 4 [(iC a.cons)],oC 5 [(nI 5)],oC 6 [(iN a.nodes),(iI a.funs),(nI a.main),(iC a.cons)],oC 7 [(.str 0 0),.nils,.nils],oC 8 [(iN a.nodes),(iI a.funs),(nI a.main),(iC a.cons),(iS f),(iS g)],(9,(.defd false),false),oL 10 2 (List.map DataD.av d),oL 11 15 (FunDs.av ([] :List FunD)),oL 12 2 (List.map ConD.av b),oC 13 [(aC c.name),(nI 3)],oC 15 [(nI 0),(nI 0),(nI 0)]] 16),.d,.d,.app (List.map ConD.av (b++ [(ConD.mk c.name [(Typ.mk 1 0 ([] :aE) []),(Typ.mk 1 0 ([] :aE) []),(Typ.mk 1 0 ([] :aE) [])])])) (b++ [(ConD.mk c.name [(Typ.mk 1 0 ([] :aE) []),(Typ.mk 1 0 ([] :aE) []),(Typ.mk 1 0 ([] :aE) [])])]).length,.d,.d])] [hA (Spec PP (.enter 85 [(.slice 15 0 3 3 1 true),(.func 83 [] [])]) (aG [oC 0 [(.func 83 [] [])],oC 1 [(.str 1 109),(.gl 10 2 0 d.length false),(.gl 11 15 0 ([] :List FunD).length false)],oC 2 [(aC e),(.gl 12 2 0 b.length false)],(3,(.loop .busy none 26 (yC [kp 5 0,kp 6 1]) 95 [24] (kd f26 1012) (kd f26 1013) 9),false),oC 4 [(iC a.cons)],oC 5 [(nI 5)],oC 6 [(iN a.nodes),(iI a.funs),(nI a.main),(iC a.cons)],oC 7 [(.str 0 0),.nils,.nils],oC 8 [(iN a.nodes),(iI a.funs),(nI a.main),(iC a.cons),(iS f),(iS g)],(9,(.defd false),false),oL 10 2 (List.map DataD.av d),oL 11 15 (FunDs.av ([] :List FunD)),oL 12 2 (List.map ConD.av b),oC 13 [(aC c.name),(nI 3)],oC 15 [(nI 0),(nI 0),(nI 0)]] 16) (.ret (.ilst 4 (Typs.av [(Typ.mk 1 0 ([] :aE) []),(Typ.mk 1 0 ([] :aE) []),(Typ.mk 1 0 ([] :aE) [])]) false)) (aG [oC 0 [(.func 83 [] [])],oC 1 [(.str 1 109),(.gl 10 2 0 d.length false),(.gl 11 15 0 ([] :List FunD).length false)],oC 2 [(aC e),(.gl 12 2 0 b.length false)],(3,(.loop .busy none 26 (yC [kp 5 0,kp 6 1]) 95 [24] (kd f26 1012) (kd f26 1013) 9),false),oC 4 [(iC a.cons)],oC 5 [(nI 5)],oC 6 [(iN a.nodes),(iI a.funs),(nI a.main),(iC a.cons)],oC 7 [(.str 0 0),.nils,.nils],oC 8 [(iN a.nodes),(iI a.funs),(nI a.main),(iC a.cons),(iS f),(iS g)],(9,(.defd false),false),oL 10 2 (List.map DataD.av d),oL 11 15 (FunDs.av ([] :List FunD)),oL 12 2 (List.map ConD.av b),oC 13 [(aC c.name),(nI 3)],oC 15 [(nI 0),(nI 0),(nI 0)]] 16)),hb ConD.av b,hA (List.length (b++ [(ConD.mk c.name [(Typ.mk 1 0 ([] :aE) []),(Typ.mk 1 0 ([] :aE) []),(Typ.mk 1 0 ([] :aE) [])])]) ≤1000000),hc ConD.av b [(ConD.mk c.name [(Typ.mk 1 0 ([] :aE) []),(Typ.mk 1 0 ([] :aE) []),(Typ.mk 1 0 ([] :aE) [])])],he ConD.av b [(ConD.mk c.name [(Typ.mk 1 0 ([] :aE) []),(Typ.mk 1 0 ([] :aE) []),(Typ.mk 1 0 ([] :aE) [])])],hr (AV.func 83 [] []),hr (AV.func 83 [] []),hr (aC c.name),hr (aC c.name),hr (aC c.name),hr (AV.gl 12 2 0 b.length false),hr (AV.gl 12 2 0 b.length false),hr (AV.gl 12 2 0 b.length false)]<|gw 3 52 (i+1)<|.W 3 17 [0,1,2,3,4,5,6,7,8,9,10,11,16] (wW a f g (i+1) (b++ [(ConD.mk c.name [(Typ.mk 1 0 ([] :aE) []),(Typ.mk 1 0 ([] :aE) []),(Typ.mk 1 0 ([] :aE) [])])]) k l j m e d))<|.o (.i [rn 4,.cset 13 1 (nI 2)] [.a (c.args=2) (congrArg (AV.int .i64))]<|.i [.reg (rd 8 [.call (.ilst 4 (Typs.av [(Typ.mk 1 0 ([] :aE) []),(Typ.mk 1 0 ([] :aE) [])]) false) (aG [oC 0 [(.func 83 [] [])],oC 1 [(.str 1 109),(.gl 10 2 0 d.length false),(.gl 11 15 0 ([] :List FunD).length false)],oC 2 [(aC e),(.gl 12 2 0 b.length false)],(3,(.loop .busy none 26 (yC [kp 5 0,kp 6 1]) 95 [24] (kd f26 1012) (kd f26 1013) 9),false),oC 4 [(iC a.cons)],oC 5 [(nI 5)],oC 6 [(iN a.nodes),(iI a.funs),(nI a.main),(iC a.cons)],oC 7 [(.str 0 0),.nils,.nils],oC 8 [(iN a.nodes),(iI a.funs),(nI a.main),(iC a.cons),(iS f),(iS g)],(9,(.defd false),false),oL 10 2 (List.map DataD.av d),oL 11 15 (FunDs.av ([] :List FunD)),oL 12 2 (List.map ConD.av b),oC 13 [(aC c.name),(nI 2)],oC 15 [(nI 0),(nI 0)]] 16),.d,.d,.app (List.map ConD.av (b++ [(ConD.mk c.name [(Typ.mk 1 0 ([] :aE) []),(Typ.mk 1 0 ([] :aE) [])])])) (b++ [(ConD.mk c.name [(Typ.mk 1 0 ([] :aE) []),(Typ.mk 1 0 ([] :aE) [])])]).length,.d,.d])] [hA (Spec PP (.enter 85 [(.slice 15 0 2 2 1 true),(.func 83 [] [])]) (aG [oC 0 [(.func 83 [] [])],oC 1 [(.str 1 109),(.gl 10 2 0 d.length false),(.gl 11 15 0 ([] :List FunD).length false)],oC 2 [(aC e),(.gl 12 2 0 b.length false)],(3,(.loop .busy none 26 (yC [kp 5 0,kp 6 1]) 95 [24] (kd f26 1012) (kd f26 1013) 9),false),oC 4 [(iC a.cons)],oC 5 [(nI 5)],oC 6 [(iN a.nodes),(iI a.funs),(nI a.main),(iC a.cons)],oC 7 [(.str 0 0),.nils,.nils],oC 8 [(iN a.nodes),(iI a.funs),(nI a.main),(iC a.cons),(iS f),(iS g)],(9,(.defd false),false),oL 10 2 (List.map DataD.av d),oL 11 15 (FunDs.av ([] :List FunD)),oL 12 2 (List.map ConD.av b),oC 13 [(aC c.name),(nI 2)],oC 15 [(nI 0),(nI 0)]] 16) (.ret (.ilst 4 (Typs.av [(Typ.mk 1 0 ([] :aE) []),(Typ.mk 1 0 ([] :aE) [])]) false)) (aG [oC 0 [(.func 83 [] [])],oC 1 [(.str 1 109),(.gl 10 2 0 d.length false),(.gl 11 15 0 ([] :List FunD).length false)],oC 2 [(aC e),(.gl 12 2 0 b.length false)],(3,(.loop .busy none 26 (yC [kp 5 0,kp 6 1]) 95 [24] (kd f26 1012) (kd f26 1013) 9),false),oC 4 [(iC a.cons)],oC 5 [(nI 5)],oC 6 [(iN a.nodes),(iI a.funs),(nI a.main),(iC a.cons)],oC 7 [(.str 0 0),.nils,.nils],oC 8 [(iN a.nodes),(iI a.funs),(nI a.main),(iC a.cons),(iS f),(iS g)],(9,(.defd false),false),oL 10 2 (List.map DataD.av d),oL 11 15 (FunDs.av ([] :List FunD)),oL 12 2 (List.map ConD.av b),oC 13 [(aC c.name),(nI 2)],oC 15 [(nI 0),(nI 0)]] 16)),hb ConD.av b,hA (List.length (b++ [(ConD.mk c.name [(Typ.mk 1 0 ([] :aE) []),(Typ.mk 1 0 ([] :aE) [])])]) ≤1000000),hc ConD.av b [(ConD.mk c.name [(Typ.mk 1 0 ([] :aE) []),(Typ.mk 1 0 ([] :aE) [])])],he ConD.av b [(ConD.mk c.name [(Typ.mk 1 0 ([] :aE) []),(Typ.mk 1 0 ([] :aE) [])])],hr (AV.func 83 [] []),hr (AV.func 83 [] []),hr (aC c.name),hr (aC c.name),hr (aC c.name),hr (AV.gl 12 2 0 b.length false),hr (AV.gl 12 2 0 b.length false),hr (AV.gl 12 2 0 b.length false)]<|gw 3 52 (i+1)<|.W 3 17 [0,1,2,3,4,5,6,7,8,9,10,11,16] (wW a f g (i+1) (b++ [(ConD.mk c.name [(Typ.mk 1 0 ([] :aE) []),(Typ.mk 1 0 ([] :aE) [])])]) k l j m e d))<|.o (.i [rn 4,.cset 13 1 (nI 1)] [.a (c.args=1) (congrArg (AV.int .i64))]<|.i [.reg (rd 8 [.call (.ilst 4 (Typs.av [(Typ.mk 1 0 ([] :aE) [])]) false) (aG [oC 0 [(.func 83 [] [])],oC 1 [(.str 1 109),(.gl 10 2 0 d.length false),(.gl 11 15 0 ([] :List FunD).length false)],oC 2 [(aC e),(.gl 12 2 0 b.length false)],(3,(.loop .busy none 26 (yC [kp 5 0,kp 6 1]) 95 [24] (kd f26 1012) (kd f26 1013) 9),false),oC 4 [(iC a.cons)],oC 5 [(nI 5)],oC 6 [(iN a.nodes),(iI a.funs),(nI a.main),(iC a.cons)],oC 7 [(.str 0 0),.nils,.nils],oC 8 [(iN a.nodes),(iI a.funs),(nI a.main),(iC a.cons),(iS f),(iS g)],(9,(.defd false),false),oL 10 2 (List.map DataD.av d),oL 11 15 (FunDs.av ([] :List FunD)),oL 12 2 (List.map ConD.av b),oC 13 [(aC c.name),(nI 1)],oC 15 [(nI 0)]] 16),.d,.d,.app (List.map ConD.av (b++ [(ConD.mk c.name [(Typ.mk 1 0 ([] :aE) [])])])) (b++ [(ConD.mk c.name [(Typ.mk 1 0 ([] :aE) [])])]).length,.d,.d])] [hA (Spec PP (.enter 85 [(.slice 15 0 1 1 1 true),(.func 83 [] [])]) (aG [oC 0 [(.func 83 [] [])],oC 1 [(.str 1 109),(.gl 10 2 0 d.length false),(.gl 11 15 0 ([] :List FunD).length false)],oC 2 [(aC e),(.gl 12 2 0 b.length false)],(3,(.loop .busy none 26 (yC [kp 5 0,kp 6 1]) 95 [24] (kd f26 1012) (kd f26 1013) 9),false),oC 4 [(iC a.cons)],oC 5 [(nI 5)],oC 6 [(iN a.nodes),(iI a.funs),(nI a.main),(iC a.cons)],oC 7 [(.str 0 0),.nils,.nils],oC 8 [(iN a.nodes),(iI a.funs),(nI a.main),(iC a.cons),(iS f),(iS g)],(9,(.defd false),false),oL 10 2 (List.map DataD.av d),oL 11 15 (FunDs.av ([] :List FunD)),oL 12 2 (List.map ConD.av b),oC 13 [(aC c.name),(nI 1)],oC 15 [(nI 0)]] 16) (.ret (.ilst 4 (Typs.av [(Typ.mk 1 0 ([] :aE) [])]) false)) (aG [oC 0 [(.func 83 [] [])],oC 1 [(.str 1 109),(.gl 10 2 0 d.length false),(.gl 11 15 0 ([] :List FunD).length false)],oC 2 [(aC e),(.gl 12 2 0 b.length false)],(3,(.loop .busy none 26 (yC [kp 5 0,kp 6 1]) 95 [24] (kd f26 1012) (kd f26 1013) 9),false),oC 4 [(iC a.cons)],oC 5 [(nI 5)],oC 6 [(iN a.nodes),(iI a.funs),(nI a.main),(iC a.cons)],oC 7 [(.str 0 0),.nils,.nils],oC 8 [(iN a.nodes),(iI a.funs),(nI a.main),(iC a.cons),(iS f),(iS g)],(9,(.defd false),false),oL 10 2 (List.map DataD.av d),oL 11 15 (FunDs.av ([] :List FunD)),oL 12 2 (List.map ConD.av b),oC 13 [(aC c.name),(nI 1)],oC 15 [(nI 0)]] 16)),hb ConD.av b,hA (List.length (b++ [(ConD.mk c.name [(Typ.mk 1 0 ([] :aE) [])])]) ≤1000000),hc ConD.av b [(ConD.mk c.name [(Typ.mk 1 0 ([] :aE) [])])],he ConD.av b [(ConD.mk c.name [(Typ.mk 1 0 ([] :aE) [])])],hr (AV.func 83 [] []),hr (AV.func 83 [] []),hr (aC c.name),hr (aC c.name),hr (aC c.name),hr (AV.gl 12 2 0 b.length false),hr (AV.gl 12 2 0 b.length false),hr (AV.gl 12 2 0 b.length false)]<|gw 3 52 (i+1)<|.W 3 17 [0,1,2,3,4,5,6,7,8,9,10,11,16] (wW a f g (i+1) (b++ [(ConD.mk c.name [(Typ.mk 1 0 ([] :aE) [])])]) k l j m e d))<|.i [rn 4,.cset 13 1 (nI 0)] [.a (c.args=0) (congrArg (AV.int .i64))]<|.i [.reg (rd 8 [.call (.ilst 4 (Typs.av ([] :List Typ)) false) (aG [oC 0 [(.func 83 [] [])],oC 1 [(.str 1 109),(.gl 10 2 0 d.length false),(.gl 11 15 0 ([] :List FunD).length false)],oC 2 [(aC e),(.gl 12 2 0 b.length false)],(3,(.loop .busy none 26 (yC [kp 5 0,kp 6 1]) 95 [24] (kd f26 1012) (kd f26 1013) 9),false),oC 4 [(iC a.cons)],oC 5 [(nI 5)],oC 6 [(iN a.nodes),(iI a.funs),(nI a.main),(iC a.cons)],oC 7 [(.str 0 0),.nils,.nils],oC 8 [(iN a.nodes),(iI a.funs),(nI a.main),(iC a.cons),(iS f),(iS g)],(9,(.defd false),false),oL 10 2 (List.map DataD.av d),oL 11 15 (FunDs.av ([] :List FunD)),oL 12 2 (List.map ConD.av b),oC 13 [(aC c.name),(nI 0)],oC 15 []] 16),.d,.d,.app (List.map ConD.av (b++ [(ConD.mk c.name ([] :List Typ))])) (b++ [(ConD.mk c.name ([] :List Typ))]).length,.d,.d])] [hA (Spec PP (.enter 85 [(.slice 15 0 0 0 1 true),(.func 83 [] [])]) (aG [oC 0 [(.func 83 [] [])],oC 1 [(.str 1 109),(.gl 10 2 0 d.length false),(.gl 11 15 0 ([] :List FunD).length false)],oC 2 [(aC e),(.gl 12 2 0 b.length false)],(3,(.loop .busy none 26 (yC [kp 5 0,kp 6 1]) 95 [24] (kd f26 1012) (kd f26 1013) 9),false),oC 4 [(iC a.cons)],oC 5 [(nI 5)],oC 6 [(iN a.nodes),(iI a.funs),(nI a.main),(iC a.cons)],oC 7 [(.str 0 0),.nils,.nils],oC 8 [(iN a.nodes),(iI a.funs),(nI a.main),(iC a.cons),(iS f),(iS g)],(9,(.defd false),false),oL 10 2 (List.map DataD.av d),oL 11 15 (FunDs.av ([] :List FunD)),oL 12 2 (List.map ConD.av b),oC 13 [(aC c.name),(nI 0)],oC 15 []] 16) (.ret (.ilst 4 (Typs.av ([] :List Typ)) false)) (aG [oC 0 [(.func 83 [] [])],oC 1 [(.str 1 109),(.gl 10 2 0 d.length false),(.gl 11 15 0 ([] :List FunD).length false)],oC 2 [(aC e),(.gl 12 2 0 b.length false)],(3,(.loop .busy none 26 (yC [kp 5 0,kp 6 1]) 95 [24] (kd f26 1012) (kd f26 1013) 9),false),oC 4 [(iC a.cons)],oC 5 [(nI 5)],oC 6 [(iN a.nodes),(iI a.funs),(nI a.main),(iC a.cons)],oC 7 [(.str 0 0),.nils,.nils],oC 8 [(iN a.nodes),(iI a.funs),(nI a.main),(iC a.cons),(iS f),(iS g)],(9,(.defd false),false),oL 10 2 (List.map DataD.av d),oL 11 15 (FunDs.av ([] :List FunD)),oL 12 2 (List.map ConD.av b),oC 13 [(aC c.name),(nI 0)],oC 15 []] 16)),hb ConD.av b,hA (List.length (b++ [(ConD.mk c.name ([] :List Typ))]) ≤1000000),hc ConD.av b [(ConD.mk c.name ([] :List Typ))],he ConD.av b [(ConD.mk c.name ([] :List Typ))],hr (AV.func 83 [] []),hr (AV.func 83 [] []),hr (aC c.name),hr (aC c.name),hr (aC c.name),hr (AV.gl 12 2 0 b.length false),hr (AV.gl 12 2 0 b.length false),hr (AV.gl 12 2 0 b.length false)]<|gw 3 52 (i+1)<|.W 3 17 [0,1,2,3,4,5,6,7,8,9,10,11,16] (wW a f g (i+1) (b++ [(ConD.mk c.name ([] :List Typ))]) k l j m e d))<|gy 2 2 1 12 2 ConD.av b false<|ga 5 DataD.av d [(DataD.mk e b)]<|gw 14 12 (j+5)<|.W 3 15 [3,4,5,6,7,8,0,1,9,14,11] (aIr a f g (j+5) (d++ [(DataD.mk e b)]))
def bEj:=fun a b c d e f g i j k l m n o p q r s t=>aLm a b c d e f g i j k l|>.t n m o p|>.1 q r s t ⟨kk,⟨gU,⟨kk,trivial⟩⟩⟩
def bEk:=fun a b c d e f g i j k l m n o p q r s t=>aLm a b c d e f g i j k l|>.t n m o p|>.2|>.1 q r s t ⟨kk,⟨gU,⟨kk,trivial⟩⟩⟩
def bEl:=fun a b c d e f g i j k l m n o p q r s t=>aLm a b c d e f g i j k l|>.t n m o p|>.2|>.2|>.1 q r s t ⟨kk,⟨gU,⟨kk,trivial⟩⟩⟩
def bEm:=fun a b c d e f g i j k l m n o p q r s t=>aLm a b c d e f g i j k l|>.t n m o p|>.2|>.2|>.2 q r s t ⟨kk,⟨gU,⟨kk,trivial⟩⟩⟩
def bEn:=fun a b c d e f g i j k l m n o=>aLm a b c d e f g i j k l|>.f m n o ⟨kk,⟨gU,trivial⟩⟩
def aXl(a:Prog)(e f:List aE)(u:Int)(b:List FunD)(v:List DataD):=tT 0 (aBR a e f u b v)<|gd 5 63 (u< (a.funs.length:Int)) (gX dF 7 a.funs u<|fun w=>.y fun c:aE=>.y fun d:aE=>.y fun g:Int=>.y fun i:Int=>.y fun j:aE=>.y fun k:List Typ=>.y fun l:Int=>.y fun m:Int=>.y fun n:aE=>.y fun o:List Typ=>.y fun p:Int=>.y fun q:Int=>.y fun r:aE=>.y fun s:List Term=>.y fun t:List Pat=>.i [rn 4,.reg (rd 5 (.ans (.idx (aC c))::rd 3 [.ans (.idx (aC d)),.d,.d,.pure (.agg [(nI g),(nI i),(aC j),(.ilst 4 (Typs.av k) false)]),.d,.pure (.agg [(nI l),(nI m),(aC n),(.ilst 4 (Typs.av o) false)]),.d,.d,.pure (.agg [(nI p),(nI q),(aC r),(.ilst 5 (Terms.av s) false),(iP t)]),.d,.d,.app (FunDs.av (b++ [(FunD.mk c d (Typ.mk g i j k) (Typ.mk l m n o) (Term.mk p q r s t))])) (b++ [(FunD.mk c d (Typ.mk g i j k) (Typ.mk l m n o) (Term.mk p q r s t))]).length,.d,.d]))] [hA (0≤u),.a (((e)[u.toNat]?) =some c) (cN (f:=aC)),hA (0≤ (0:Int)),.a (((f)[(0:Int).toNat]?) =some d) (cN (f:=aC)),hA (Pure PP 83 [(nI 0)] (.agg [(nI g),(nI i),(aC j),(.ilst 4 (Typs.av k) false)])),hA (Pure PP 83 [(nI 0)] (.agg [(nI l),(nI m),(aC n),(.ilst 4 (Typs.av o) false)])),hA (Pure PP 79 [(.agg [(iN a.nodes),(iI a.funs),(nI a.main),(iC a.cons),(iS e),(iS f)]),(nI w),(nI 1)] (.agg [(nI p),(nI q),(aC r),(.ilst 5 (Terms.av s) false),(iP t)])),hB dO b,hA (List.length (b++ [(FunD.mk c d (Typ.mk g i j k) (Typ.mk l m n o) (Term.mk p q r s t))]) ≤1000000),hC dO b [(FunD.mk c d (Typ.mk g i j k) (Typ.mk l m n o) (Term.mk p q r s t))],hE dO b [(FunD.mk c d (Typ.mk g i j k) (Typ.mk l m n o) (Term.mk p q r s t))],hr (AV.agg [(iN a.nodes),(iI a.funs),(nI a.main),(iC a.cons),(iS e),(iS f)]),hr (AV.agg [(iN a.nodes),(iI a.funs),(nI a.main),(iC a.cons),(iS e),(iS f)]),hr (AV.agg [(iN a.nodes),(iI a.funs),(nI a.main),(iC a.cons),(iS e),(iS f)]),hr (AV.func 83 [] []),hr (AV.func 83 [] []),hr (aC d),hr (aC d),hr (aC d),hr (aC d),hr (AV.ilst 1 (List.map aC f) false),hr (AV.ilst 1 (List.map aC f) false),hr (AV.ilst 1 (List.map aC f) false),hr (AV.ilst 1 (List.map aC f) false),hr (aC c),hr (aC c),hr (aC c),hr (aC c),hr (AV.ilst 1 (List.map aC e) false),hr (AV.ilst 1 (List.map aC e) false),hr (AV.ilst 1 (List.map aC e) false),hr (AV.ilst 1 (List.map aC e) false),hr (AV.gl 6 15 0 b.length false),hr (AV.gl 6 15 0 b.length false),hr (AV.gl 6 15 0 b.length false),hr (AV.gl 6 15 0 b.length false)]<|gw 3 89 (u+ (1:Int))<|.W 3 9 [0,1,2,3,4,5,8] (aBR a e f (u+ (1:Int)) (b++ [(FunD.mk c d (Typ.mk g i j k) (Typ.mk l m n o) (Term.mk p q r s t))]) v))<|gy 4 3 1 5 2 DataD.av v false<|gY 0 3 2 6 15 dO gU b false<|gpI 2 41 [(.agg [(.str 1 109),(.ilst 2 (List.map DataD.av v) false),(.ilst 15 (FunDs.av b) false)])]<|fun w=>.b 2 92 (w != (0:Int)) (.i [rn 9,.cnilI 0 1 2] []<|.i [.cnilI 0 2 15] []<|gE 0 7 (.tup [(.agg [(.str 0 0),(.ilst 2 (List.map DataD.av ([] :List DataD)) true),(.ilst 15 (FunDs.av ([] :List FunD)) true)]),(nI 3)]))<|gE 10 7 (.tup [(.agg [(.str 1 109),(.ilst 2 (List.map DataD.av v) false),(.ilst 15 (FunDs.av b) false)]),(nI 0)])
def bEo:=fun b c d e f g i j k l m n o p q r s t u v w x y a z A B C D F G H I=>aXl b c d e f g|>.t y i a z j k l m n o p q r s t u v w x a A B C D F G H I ⟨kk,⟨gU,trivial⟩⟩
def bEp:=fun a b c d e f g i j k=>aXl a b c d e f|>.f i g j|>.t k tv
def bEq:=fun a b c d e f g i j k=>aXl a b c d e f|>.f i g j|>.f k tv
def aXm:=(tT 1 (mpI0_s)<|.i [rn 30,.nilI 4 4] []<|.E 0 1 [] (.ilst 4 (Typs.av ([] :List Typ)) true) [oC 0 []] 1) tv
def aXn:=fun a b=>(tT 1 (mpI1_s)<|gp 36 83 [(nI 0)] (.agg [(nI 1),(nI 0),(aC ([] :aE)),(.ilst 4 (Typs.av ([] :List Typ)) false)])<|.i [rn 1,.nilL 14 4] []<|gu 0 2 (Typs.av ([] :List Typ))<|gs 0 14 (.gl 2 4 0 ([] :List Typ).length false)<|gA 0 aZ ([] :List Typ) [(Typ.mk 1 0 ([] :aE) ([] :List Typ))]<|gZ 21 4 3 4 aZ mK (([] :List Typ) ++ [(Typ.mk 1 0 ([] :aE) ([] :List Typ))]) false<|.E 0 4 [] (.ilst 4 (Typs.av (([] :List Typ) ++ [(Typ.mk 1 0 ([] :aE) ([] :List Typ))])) false) [oC 0 [(nI 0)]] 1) a b tv
def aXo:=fun a b c=>(tT 1 (mpI2_s)<|gp 36 83 [(nI 0)] (.agg [(nI 1),(nI 0),(aC ([] :aE)),(.ilst 4 (Typs.av ([] :List Typ)) false)])<|.i [rn 1,.nilL 14 4] []<|gu 0 2 (Typs.av ([] :List Typ))<|gs 0 14 (.gl 2 4 0 ([] :List Typ).length false)<|gA 0 aZ ([] :List Typ) [(Typ.mk 1 0 ([] :aE) ([] :List Typ))]<|gp 27 83 [(nI 0)] (.agg [(nI 1),(nI 0),(aC ([] :aE)),(.ilst 4 (Typs.av ([] :List Typ)) false)])<|gA 1 aZ (([] :List Typ) ++ [(Typ.mk 1 0 ([] :aE) ([] :List Typ))]) [(Typ.mk 1 0 ([] :aE) ([] :List Typ))]<|gZ 21 4 5 4 aZ mK ((([] :List Typ) ++ [(Typ.mk 1 0 ([] :aE) ([] :List Typ))]) ++ [(Typ.mk 1 0 ([] :aE) ([] :List Typ))]) false<|.E 0 6 [] (.ilst 4 (Typs.av ((([] :List Typ) ++ [(Typ.mk 1 0 ([] :aE) ([] :List Typ))]) ++ [(Typ.mk 1 0 ([] :aE) ([] :List Typ))])) false) [oC 0 [(nI 0),(nI 0)]] 1) a b a c tv
def aXp:=fun a b c d=>(tT 1 (mpI3_s)<|gp 36 83 [(nI 0)] (.agg [(nI 1),(nI 0),(aC ([] :aE)),(.ilst 4 (Typs.av ([] :List Typ)) false)])<|.i [rn 1,.nilL 14 4] []<|gu 0 2 (Typs.av ([] :List Typ))<|gs 0 14 (.gl 2 4 0 ([] :List Typ).length false)<|gA 0 aZ ([] :List Typ) [(Typ.mk 1 0 ([] :aE) ([] :List Typ))]<|gp 27 83 [(nI 0)] (.agg [(nI 1),(nI 0),(aC ([] :aE)),(.ilst 4 (Typs.av ([] :List Typ)) false)])<|gA 1 aZ (([] :List Typ) ++ [(Typ.mk 1 0 ([] :aE) ([] :List Typ))]) [(Typ.mk 1 0 ([] :aE) ([] :List Typ))]<|gp 27 83 [(nI 0)] (.agg [(nI 1),(nI 0),(aC ([] :aE)),(.ilst 4 (Typs.av ([] :List Typ)) false)])<|gA 1 aZ ((([] :List Typ) ++ [(Typ.mk 1 0 ([] :aE) ([] :List Typ))]) ++ [(Typ.mk 1 0 ([] :aE) ([] :List Typ))]) [(Typ.mk 1 0 ([] :aE) ([] :List Typ))]<|gZ 21 4 7 4 aZ mK (((([] :List Typ) ++ [(Typ.mk 1 0 ([] :aE) ([] :List Typ))]) ++ [(Typ.mk 1 0 ([] :aE) ([] :List Typ))]) ++ [(Typ.mk 1 0 ([] :aE) ([] :List Typ))]) false<|.E 0 8 [] (.ilst 4 (Typs.av (((([] :List Typ) ++ [(Typ.mk 1 0 ([] :aE) ([] :List Typ))]) ++ [(Typ.mk 1 0 ([] :aE) ([] :List Typ))]) ++ [(Typ.mk 1 0 ([] :aE) ([] :List Typ))])) false) [oC 0 [(nI 0),(nI 0),(nI 0)]] 1) a b a c a d tv
def bEr (a:Int):=(tT 0 (bFZ a)<|.i [rn 10,.cnilI 0 3 4] []<|gE 0 1 (.agg [(nI 1),(nI 0),(.str 0 0),(.ilst 4 (Typs.av ([] :List Typ)) true)])) tv
end
end Go.Hb
namespace Go.Hb
open Go.Proofs
set_option maxHeartbeats 4000000
noncomputable section
theorem wX (k:Int) :Pure PP 83 [.int .i64 k] (Typ.av iE) :=
 bM (s:=bFZ k) (by kernel_rfl) (by kernel_rfl) rfl (wF _) (Ends.val (bEr k) (fun E cv=>aPf))
abbrev ZC (n:Nat) :AObj:=.cells (putCells .leaf 0 (List.replicate n (.int .i64 0))) n [] false
theorem mp0 :Spec PP (.enter 85 [.slice 0 0 0 0 1 true,.func 83 [] []]) (aG [(0,ZC 0,false)] 1) (.ret (.ilst 4 (Typs.av ([] :List Typ)) false)) (aG [(0,ZC 0,false)] 1) :=
 ⟨mpI0_s.as.fr,by kernel_rfl,Eq.mp (by kernel_rfl) (Ends.val aXm (fun E cv=>hR))⟩
theorem mp1 :Spec PP (.enter 85 [.slice 0 0 1 1 1 true,.func 83 [] []]) (aG [(0,ZC 1,false)] 1) (.ret (.ilst 4 (Typs.av [iE]) false)) (aG [(0,ZC 1,false)] 1) :=
 ⟨mpI1_s.as.fr,by kernel_rfl,Eq.mp (by kernel_rfl) (aXn (wX 0) (by simp))⟩
theorem mp2 :Spec PP (.enter 85 [.slice 0 0 2 2 1 true,.func 83 [] []]) (aG [(0,ZC 2,false)] 1) (.ret (.ilst 4 (Typs.av [iE,iE]) false)) (aG [(0,ZC 2,false)] 1) :=
 ⟨mpI2_s.as.fr,by kernel_rfl,Eq.mp (by kernel_rfl) (aXo (wX 0) (by simp) (by simp))⟩
theorem mp3 :Spec PP (.enter 85 [.slice 0 0 3 3 1 true,.func 83 [] []]) (aG [(0,ZC 3,false)] 1) (.ret (.ilst 4 (Typs.av [iE,iE,iE]) false)) (aG [(0,ZC 3,false)] 1) :=
 ⟨mpI3_s.as.fr,by kernel_rfl,Eq.mp (by kernel_rfl) (aXp (wX 0) (by simp) (by simp) (by simp))⟩
theorem aPg (p:Prog)(fl pl:List aE)(ch:List Con)(i4:Int)(nm:aE)(l10:List DataD)(hl:ch.length≤1000)(ha:∀c∈ch,0≤c.args∧c.args≤3) :∀ (t:List Con) (j:Nat),ch.drop j=t→j≤ch.length →
  LeadsM PP 0 (wW p fl pl (j:Int) ((ch.take j).map lI) ch ((ch.length:Nat) :Int) i4 ch nm l10).as (wW p fl pl ((ch.length:Nat) :Int) (ch.map lI) ch ((ch.length:Nat) :Int) i4 ch nm l10).as
 | [],j,h,hj2=>by
  have hj:=bD h;obtain rfl:j=ch.length:=by omega
  rw [List.take_length];exact LeadsM.refl _
 | c ::t,j,h,hj2=>by
  obtain⟨g1,g2,g3⟩ :=bB h;have hc:=ha c (List.mem_of_getElem? g1);have et: ((ch.take j).map lI) ++ [lI c] = (ch.take (j+1)).map lI:=by
   rw [List.take_add_one,g1];simp
  have ih:=aPg p fl pl ch i4 nm l10 hl ha t (j+1) g2 (by omega);rw [←et]at ih;have hb: (((ch.take j).map lI) ++ [lI c]).length≤1000000:=by rw [et];simp;omega
  have ec:lI c= ⟨c.name,List.replicate c.args.toNat iE⟩ :=rfl;have e0:c.args=0∨c.args=1∨c.args=2∨c.args=3:=by omega
  rcases e0 with e|e|e|e
  · rw [ec,e]at ih hb;exact(bEm p fl pl j _ ch _ i4 ch nm l10 c sd sd sd e (aAN (ks:=[15]) mp0 (by kernel_rfl) rfl (by kernel_rfl) (by kernel_rfl) trivial (by kernel_rfl) trivial (by kernel_rfl) (by kernel_rfl) (by kernel_rfl) (by kernel_rfl) (by kernel_rfl) (by kernel_rfl) (by kernel_rfl) (by kernel_rfl)) hb sd).trans ih
  · rw [ec,e]at ih hb;exact(bEl p fl pl j _ ch _ i4 ch nm l10 c sd sd sd e (aAN (ks:=[15]) mp1 (by kernel_rfl) rfl (by kernel_rfl) (by kernel_rfl) trivial (by kernel_rfl) trivial (by kernel_rfl) (by kernel_rfl) (by kernel_rfl) (by kernel_rfl) (by kernel_rfl) (by kernel_rfl) (by kernel_rfl) (by kernel_rfl)) hb sd).trans ih
  · rw [ec,e]at ih hb;exact(bEk p fl pl j _ ch _ i4 ch nm l10 c sd sd sd e (aAN (ks:=[15]) mp2 (by kernel_rfl) rfl (by kernel_rfl) (by kernel_rfl) trivial (by kernel_rfl) trivial (by kernel_rfl) (by kernel_rfl) (by kernel_rfl) (by kernel_rfl) (by kernel_rfl) (by kernel_rfl) (by kernel_rfl) (by kernel_rfl)) hb sd).trans ih
  · rw [ec,e]at ih hb;exact(bEj p fl pl j _ ch _ i4 ch nm l10 c sd sd sd e (aAN (ks:=[15]) mp3 (by kernel_rfl) rfl (by kernel_rfl) (by kernel_rfl) trivial (by kernel_rfl) trivial (by kernel_rfl) (by kernel_rfl) (by kernel_rfl) (by kernel_rfl) (by kernel_rfl) (by kernel_rfl) (by kernel_rfl) (by kernel_rfl)) hb sd).trans ih
theorem aLn (p:Prog)(fl pl:List aE)(hl:p.cons.length≤100)(ha:∀c∈p.cons,0≤c.args∧c.args≤3) :∀ (n k:Nat),k+n= (p.cons.length+4) / 5 →
  LeadsM PP 0 (aIr p fl pl ((5*k:Nat) :Int) ((List.range k).map (aAg p.cons))).as (aBR p fl pl 0 [] (hX p.cons)).as
 | 0,k,h=>by
  obtain rfl:k= (p.cons.length+4) / 5:=by omega
  exact bEi p fl pl _ _ (by simp;omega)
 | n+1,k,h=>by
  have hk:5*k<p.cons.length:=by omega
  have hE: (if((List.length (List.drop ((5*k:Nat) :Int).toNat p.cons) :Nat) :Int) < (5:Int)then((List.length (List.drop ((5*k:Nat) :Int).toNat p.cons) :Nat) :Int)else(5:Int)) = ((min 5 (p.cons.length-5*k) :Nat) :Int) :=by
   rw [Int.toNat_natCast,List.length_drop];split<;>omega
  have hm:min 5 (p.cons.length-5*k) ≤5:=Nat.min_le_left ..;have hm2:min 5 (p.cons.length-5*k) ≤p.cons.length-5*k:=Nat.min_le_right ..;have hlen: ((List.range k).map (aAg p.cons)).length=k:=by simp
  have st:=bEh p fl pl ((5*k:Nat) :Int) ((List.range k).map (aAg p.cons)) (by simp;omega) (by omega) (by omega) (by rw [hE];exact sd) (by rw [hE];omega) (by rw [hE];omega) (by rw [hE];omega) (by rw [hlen];exact sd) (by rw [hlen];exact wrap_u8 (by omega) (by omega)) (by rw [hlen];exact oS (by omega) (by omega));have ech:List.take ((((5*k:Nat) :Int) + ((min 5 (p.cons.length-5*k) :Nat) :Int)).toNat- ((5*k:Nat) :Int).toNat) (List.drop ((5*k:Nat) :Int).toNat p.cons) = (p.cons.drop (5*k)).take 5:=by
   rw [Int.toNat_natCast,show(((5*k:Nat) :Int) + ((min 5 (p.cons.length-5*k) :Nat) :Int)).toNat-5*k=min 5 (p.cons.length-5*k)by omega];rcases Nat.le_total 5 (p.cons.length-5*k)with g|g
   ·rw [Nat.min_eq_left g]
   ·rw [Nat.min_eq_right g,List.take_of_length_le (by simp),List.take_of_length_le (by simp;omega)]
  rw [hE,ech,hlen]at st;have hcl: ((p.cons.drop (5*k)).take 5).length≤5:=by simp;omega
  have lp:=aPg p fl pl ((p.cons.drop (5*k)).take 5) ((5*k:Nat) :Int) (dV (65+ (k:Int))) ((List.range k).map (aAg p.cons)) (by omega) (fun c hc=>ha c (List.mem_of_mem_drop (List.mem_of_mem_take hc))) _ 0 rfl (by omega);have en:=bEn p fl pl ((((p.cons.drop (5*k)).take 5).length:Nat) :Int) (((p.cons.drop (5*k)).take 5).map lI) ((p.cons.drop (5*k)).take 5) ((((p.cons.drop (5*k)).take 5).length:Nat) :Int) ((5*k:Nat) :Int) ((p.cons.drop (5*k)).take 5) (dV (65+ (k:Int))) ((List.range k).map (aAg p.cons)) (by simp) (by simp;omega) sd;have ih:=aLn p fl pl hl ha n (k+1) (by omega);have er: (List.range (k+1)).map (aAg p.cons) = (List.range k).map (aAg p.cons) ++ [⟨dV (65+ (k:Int)),((p.cons.drop (5*k)).take 5).map lI⟩] :=by
   rw [List.range_succ,List.map_append];rfl
  rw [er,show((5* (k+1) :Nat) :Int) = ((5*k:Nat) :Int) +5 by omega]at ih;exact st.trans (lp.trans (en.trans ih))
def aEX (p:Prog)(i:Nat) :Term:= (gV p (hU p) (sO p) p.nodes.length (p.funs.getD i 0) 1).getD ZT
def aLo (p:Prog)(i:Nat) :FunD:=.mk ((hU p).getD i []) (rM p) iE iE (aEX p i)
theorem xZ {p:Prog}(h:Fs p){i:Nat}(hi:i<p.funs.length) :∃a,p.funs[i]?=some a∧gV p (hU p) (sO p) p.nodes.length a 1=some (aEX p i) ∧mY (aEX p i) <1000000∧gW p (i:Int) =if lF (aEX p i) =true then(aEX p i,0)else(ZT,3) :=by
 obtain⟨a,t,ha,h1,_,h3,h4⟩ :=wV h (f:= (i:Int)) (inB_iff.2 (by omega));rw [Int.toNat_natCast]at ha;have e:aEX p i=t:=by
  unfold aEX;rw [List.getD_eq_getElem?_getD,ha];show(gV p (hU p) (sO p) p.nodes.length a 1).getD ZT=t;rw [h1];rfl
 rw [e];exact⟨a,ha,h1,h3,h4⟩
theorem aLp {p:Prog}(h:Fs p)(ds:List DataD) :∀ (n i:Nat),i+n=p.funs.length →
  LeadsM PP 0 (aBR p (hU p) (sO p) (i:Int) ((List.range i).map (aLo p)) ds).as (aBR p (hU p) (sO p) ((p.funs.length:Nat) :Int) ((List.range p.funs.length).map (aLo p)) ds).as
 | 0,i,hi=>by
  obtain rfl:i=p.funs.length:=by omega
  exact LeadsM.refl _
 | n+1,i,hi=>by
  have hh:=h.head;obtain⟨b1,b2,_⟩ :=aBP h;obtain⟨a,ha,h1,h3,_⟩ :=xZ h (i:=i) (by omega);have htb:=bIo h.sm h.fo (fl:=hU p) (pl:=sO p) (by rw [sP h];omega) (by rw [aLf h];omega);have hp:=bSt_pure p (hU p) (sO p) htb _ a 1 _ h1;have hfl: (hU p)[i]?=some ((hU p).getD i []) :=by
   rw [List.getD_eq_getElem?_getD];obtain⟨y,hy⟩ :∃y,(hU p)[i]?=some y:= ⟨_,List.getElem?_eq_getElem (by rw [sP h];omega)⟩;rw [hy];rfl
  have hpl: (sO p)[0]?=some (rM p) :=aGq h (n:= (sM p).toNat+1) (by omega) (by omega);have ih:=aLp h ds n (i+1) (by omega);have ef:aLo p i= .mk ((hU p).getD i []) (rM p) iE iE (aEX p i) :=rfl;rw [List.range_succ,List.map_append,List.map_cons,List.map_nil,ef]at ih;generalize aEX p i=T at hp ih;obtain⟨t1,t2,t3,t4,t5⟩ :=T;exact(bEo p (hU p) (sO p) i _ ds a _ _ 1 0 [] [] 1 0 [] [] t1 t2 t3 t4 t5 (by simp;omega) (by omega) (by simpa using ha) (by simpa using hfl) (by omega) hpl (wX 0) (wX 0) hp (by simp;omega) sd).trans ih
end
end Go.Hb
namespace Go.Hb
open Go.Proofs
set_option maxHeartbeats 4000000
noncomputable section
theorem oM :∀ (f i m:Nat),∀s∈fZ f i m,dE s=true
 |0,_,_,s,h=>by cases h
 |f+1,i,0,s,h=>by cases h
 | f+1,i,m+1,s,h=>by
  rw [fZ]at h;cases hg:dE (eX i)with
  | true=>
   rw [hg]at h;rcases List.mem_cons.1 h with e|h
   ·rw [e];exact hg
   ·exact oM f (i+1) m s h
  | false=>
   rw [hg]at h;exact oM f (i+1) (m+1) s h
theorem aNO {p:Prog}(h:Fs p) :dE (rM p) =true:=by
 have hh:=h.head;obtain⟨y,hy⟩ :∃y,(dW (p.funs.length+1))[p.funs.length]?=some y:= ⟨_,List.getElem?_eq_getElem (by rw [gB _ (by omega)];omega)⟩;rw [rM,List.getD_eq_getElem?_getD,hy];exact oM _ _ _ y (List.mem_of_getElem? hy)
theorem aRj {p:Prog}(h:Fs p){i:Nat}(hi:i<p.funs.length) :dE ((hU p).getD i []) =true:=by
 have hh:=h.head;have hl:=gB p.funs.length (by omega);rw [aIj h,List.getD_eq_getElem?_getD,List.getElem?_set];split
 · split
   ·exact(by kernel_rfl:dE aCo=true)
   ·omega
 · obtain⟨y,hy⟩ :∃y,(dW p.funs.length)[i]?=some y:= ⟨_,List.getElem?_eq_getElem (by omega)⟩;rw [hy];exact oM _ _ _ y (List.mem_of_getElem? hy)
theorem aLq :aCF iE=true:=by kernel_rfl
theorem bEs :∀k:Nat,k<4→cH (dV (65+ (k:Int))) =true
 |0,_=>by kernel_rfl
 |1,_=>by kernel_rfl
 |2,_=>by kernel_rfl
 |3,_=>by kernel_rfl
 |n+4,h=>by omega
theorem aXq {p:Prog}(h:Fs p) : (hX p.cons).all uF=true∧ (hX p.cons).length≤4:=by
 have hh:=h.head;refine⟨?_,by simp only [hX,List.length_map,List.length_range];omega⟩;rw [List.all_eq_true];intro d hd;obtain⟨k,hk,rfl⟩ :=List.mem_map.1 hd;have hk:=List.mem_range.1 hk;simp only [uF,aAg,Bool.and_eq_true,List.all_eq_true];refine⟨⟨?_,inB_iff.2 (by simp;omega)⟩,fun c hc=>?_⟩
 ·exact bEs k (by omega)
 · obtain⟨c0,hc0,rfl⟩ :=List.mem_map.1 hc;obtain⟨a1,a2,a3⟩ :=aBd h c0 (List.mem_of_mem_drop (List.mem_of_mem_take hc0));simp only [zS,lI,Bool.and_eq_true,List.all_eq_true,decide_eq_true_eq];refine⟨⟨a3,by simp;omega⟩,fun t ht=>?_⟩;rw [List.eq_of_mem_replicate ht];exact aLq
def aNP (p:Prog) :Mod:= ⟨strOf [109],hX p.cons,(List.range p.funs.length).map (aLo p)⟩
theorem aPh {p:Prog}(h:Fs p){i:Nat}(hi:i<p.funs.length) :decide ((gW p (i:Int)).2=0) =lF (aEX p i) :=by
 obtain⟨a,_,_,_,e⟩ :=xZ h hi;rw [e];cases lF (aEX p i) <;>simp
theorem aGr {α:Type}{f g:α→Bool}:∀ {l:List α},(∀x∈l,f x=g x) →l.all f=l.all g
 | [],_=>rfl
 | x::l,h=>by
  rw [List.all_cons,List.all_cons,h x (List.mem_cons_self ..),aGr (fun y hy=>h y (List.mem_cons_of_mem _ hy))]
theorem out_ok {p:Prog}(h:Fs p) :aOL (aNP p) =aBc p:=by
 have hh:=h.head;obtain⟨d1,d2⟩ :=aXq h;have e1:dE (strOf [109]) =true:=by kernel_rfl
 have e2:aW (((List.range p.funs.length).map (aLo p)).length:Int) 1 5=decide (p.funs.length≤5) :=by
  rw [List.length_map,List.length_range,Bool.eq_iff_iff,inB_iff,decide_eq_true_eq];omega
 have e3: ((List.range p.funs.length).map (aLo p)).all wP= (List.range p.funs.length).all fun i=>decide ((gW p (i:Int)).2=0) :=by
  rw [List.all_map];refine aGr (fun i hi=>?_);have hi:=List.mem_range.1 hi;rw [aPh h hi];simp only [Function.comp,aLo,wP,aRj h hi,aNO h,aLq,Bool.true_and]
 have e4:decide (((hX p.cons).length:Int) ≤4) =true:=decide_eq_true (by omega);unfold aOL aBc aNP;simp only [e1,e2,e3,e4,d1,Bool.true_and,Bool.and_true]
theorem bHh {p:Prog}(h:Fs p)(hm:aBc p=true) :aNP p=aNN p:=by
 unfold aBc at hm;rw [Bool.and_eq_true,List.all_eq_true]at hm;unfold aNP aNN;congr 1;refine List.map_congr_left (fun i hi=>?_);have hi':=List.mem_range.1 hi;obtain⟨a,_,_,_,e⟩ :=xZ h hi';have hg:=hm.2 i hi;rw [aPh h hi']at hg;rw [hg]at e;unfold aLo bEe;rw [e];rfl
theorem bEt {p:Prog}(h:Fs p) : (∀f∈ (aNP p).funs,aBI f) ∧∀d∈ (aNP p).datas,aEj d:=by
 have hy:cF iE<1000000:=by decide
 refine⟨fun f hf=>?_,fun d hd c hc t ht=>?_⟩
 · obtain⟨i,hi,rfl⟩ :=List.mem_map.1 hf;obtain⟨a,_,_,g,_⟩ :=xZ h (List.mem_range.1 hi);exact⟨hy,hy,g⟩
 · obtain⟨k,hk,rfl⟩ :=List.mem_map.1 hd;obtain⟨c0,hc0,rfl⟩ :=List.mem_map.1 hc;rw [List.eq_of_mem_replicate ht];exact hy
theorem aIs {p:Prog}(hs:aN p=true) :Pure PP 26 [PA p] (.tup [Mod.av (dG p).1,.int .i64 (dG p).2]) :=by
 have hc:=aKH hs;refine bM (s:=bFY p) (by kernel_rfl) (by kernel_rfl) (by simp only [AV.keylessL,aKY];rfl) (by simp [AV.keyless,AV.keylessL,aH4]) ?_;cases hf:bC p with
 | false=>
  rw [hf]at hc;have e:dG p= (ZM,2) :=by unfold dG;rw [if_neg (by rw [hf];simp)]
  rw [e];exact Ends.val (bEf p 2 hc (by decide)) (fun E cv=>aLk)
 | true=>
  rw [hf]at hc;have h:=Fs.of hs hf;have hh:=h.head;refine(bEg p 0 (hU p) (sO p) hc (by decide) (aES h)).ends ?_;refine(aLn p (hU p) (sO p) (by omega) (fun c hc=>by have:=aBd h c hc;omega) ((p.cons.length+4) / 5) 0 (by omega)).ends ?_;refine(aLp h (hX p.cons) p.funs.length 0 (by omega)).ends ?_;obtain⟨f1,f2⟩ :=bEt h;have hm:=aWj (aNP p) f1 f2;rw [out_ok h]at hm;cases hi:aBc p with
  | true=>
   rw [hi]at hm;have e:dG p= (aNN p,0) :=by unfold dG;rw [if_pos hf,if_pos hi]
   rw [e,←bHh h hi];exact bEq p (hU p) (sO p) _ _ _ 0 (by simp) hm (by decide)
  | false=>
   rw [hi]at hm;have e:dG p= (ZM,3) :=by unfold dG;rw [if_pos hf,if_neg (by rw [hi];simp)]
   rw [e];exact Ends.val (bEp p (hU p) (sO p) _ _ _ 2 (by simp) hm (by decide)) (fun E cv=>aLk)
end
end Go.Hb
namespace Go.Hb
open Go.Proofs
variable {P :Program}
noncomputable section
def bHi (P:Program)(is:List Ins)(s:TS) :Option (AV×Nat×List Prop) :=
 match aAL P is s.as with
 | some (s1,ps) =>match s1.cs,s1.fr.kind,s1.fr.mode,s1.fr.roundOf,s1.fr.defers with
  | [],.normal,.ret,none,[] =>match P.funcs[s1.fr.fn]? with
   | some fd=>match kV P s1.h s1.fr.tm fd.results.toList with
    |some [v] =>some (v,s1.fr.fn,ps)
    |_=>none
   |none=>none
  |_,_,_,_,_=>none
 |none=>none
theorem aIt {f : Nat} {args : List AV} {is : List Ins}{b:Bool}{ps:List Prop}{cargs:List Value}(hb:mJ P f=true)(hk:AV.keylessL args=true)(h0:bHi P is (start P f args) =some (.bool b,f,ps))(hps:AllP ps)(w:World)(hv:VRs (embOf w) args cargs) :
  Calls P f ⟨cargs⟩ w fun e w'=>e= .returned (.bool b) ∧GrownO w w':=by
 intro base;unfold mJ at hb;split at hb
 · rename_i fn hf;split at hb
   · rename_i c hc;have hg:dZ P f args .normal=some ⟨f,fJ .leaf 0 args,max fn.ntmps args.length,[.code c],[],.run,.normal,none⟩ :=by simp [dZ,hf,hc]
     have fr':FR (embOf w) _ (Frame.enter P f ⟨cargs⟩ .normal) :=jD hg hv;have f1:FR (embOf w) (start P f args).as.fr (Frame.enter P f ⟨cargs⟩ .normal) :=by
      have e1: (start P f args).as.fr= ⟨f,yC ((List.range args.length).zip args),max fn.ntmps args.length,[.code c],[],.run,.normal,none⟩ :=by simp [start,hf,hc,TS.as,TF.fr]
      rw [e1];refine⟨fr'.fn,⟨fr'.tm.1,fun t a e=>?_⟩,fr'.todo,fr'.defers,fr'.mode,fr'.kind,fr'.round⟩;have h1:=aDu (zG e);have hlt:= (List.getElem?_eq_some_iff.1 h1).1;have h2: (fJ .leaf 0 args).at t=some a:=by
       unfold fJ;rw [dM,if_pos hlt];exact h1
      exact fr'.tm.2 t a h2
     have e2 : (start P f args).as.cs = [] := by unfold start;split; · split<;>rfl
                                                 ·rfl
     have e3 : (start P f args).as.h = ⟨.leaf, 0⟩ := by unfold start;split; · split<;>rfl
                                                        ·rfl
     unfold bHi at h0;split at h0
     · rename_i s1 qs h1;split at h0
       · rename_i hcs hkd hmo hro hde;split at h0
         · rename_i fd hfd;split at h0
           · rename_i v hrs;simp only [Option.some.injEq,Prod.mk.injEq]at h0;obtain⟨rfl,hfn,rfl⟩ :=h0;have hl:LeadsM P 0 (start P f args).as s1:=mU h1 (fun p hpp=>hps.mem p hpp);obtain⟨E',g,ccs,w',s2,f2,fs2,r2,x⟩ :=hl (by rw [e3];exact Nat.le_refl _) (embOf w) _ [] w base f1 (by rw [e2];rfl) (by rw [e3];exact aPw w);rw [hcs]at fs2;have:=fs2.nil_inv;subst this;obtain⟨cv,g1,g2⟩ :=vY r2 f2.tm hrs;simp only [aBh,VR]at g2;subst g2;have fm:=f2.mode;rw [hmo]at fm;simp only [MR]at fm;have fdd:=f2.defers;rw [hde]at fdd;rw [e3]at x;have hno:∀ {b o},¬ (⟨.leaf,0⟩ :Hp).look b=some o:=fun {b o} e=>by simp [Hp.look,T.at_leaf]at e
             refine⟨.returned (.bool b),w',g,⟨rfl,⟨x.os,x.output,fun i hi=>?_⟩,x.froz,x.size⟩,s2,by rw [f2.fn,hfn],fm,fdd.nil_inv,by rw [f2.kind,hkd],fd,by rw [f2.fn];exact hfd,g1⟩;have:=x.keep i hi (fun b o L e=>absurd e hno);rw [this];cases w.heap[i]? with
             |none=>rfl
             |some ob=>cases ob<;>simp
           ·cases h0
         ·cases h0
       ·cases h0
     ·cases h0
   ·cases hb
 ·cases hb
end
end Go.Hb
namespace Go.Hb
open Go.Proofs
variable {P :Program}
noncomputable section
end
end Go.Hb
namespace Go.Hb
open Go.Proofs
variable {P :Program}
theorem cW {f:Nat}{args:List AV}{b:Bool}{cargs:List Value}(L:List Pf)(is:List Ins)(w:World)(hv:VRs (embOf w) args cargs)(hb:mJ P f=true:=by kernel_rfl)(hk:AV.keylessL args=true:=by kernel_rfl)(h0:bHi P is (start P f args) =some (.bool b,f,L.map Pf.p) :=by kernel_rfl) :
    Calls P f ⟨cargs⟩ w fun e w'=>e= .returned (.bool b) ∧GrownO w w':=aIt hb hk h0 (bEI L) w hv
end Go.Hb
namespace Go.Hb
open Go.Proofs
noncomputable section
def aNQ(a b:Int)(c:aE)(d:List Typ)(e f:Int)(g:aE)(i:List Typ)(j:Int):TS:=⟨(tf 90 53 [kp 2 0,kp 3 1,(4,(bV false)),(5,(nI j))] [kc Tryz.f90 116,kl Tryz.f90 116,.inBlock 0,kc Tryz.f90 15]),[],[oC 0 [(nI a),(nI b),(aC c),(.ilst 4 (Typs.av d) false)],oC 1 [(nI e),(nI f),(aC g),(.ilst 4 (Typs.av i) false)]],2⟩
def bIr(e f:Int)(a:aE)(b:List Typ)(g i:Int)(c:aE)(d:List Typ):=tT 0 (start PP 90 [(.agg [(nI e),(nI f),(aC a),(.ilst 4 (Typs.av b) false)]),(.agg [(nI g),(nI i),(aC c),(.ilst 4 (Typs.av d) false)])])<|.b 15 11 (e != g) (gE 29 2 (bV false))<|.b 7 18 (f != i) (gE 22 2 (bV false))<|.b 7 25 (!(aQ a.length (aB a) c.length (aB c))) (gE 15 2 (bV false))<|gm 2 aZ b<|gm 2 aZ d<|.b 3 33 ((b.length:Int) != (d.length:Int)) (gE 6 2 (bV false))<|.W 9 2 [0,1] (aNQ e f a b g i c d 0)
def bEu:=fun a b c d e f g i j k l m=>bIr a b c d e f g i|>.f j|>.f k|>.f l|>.f m tv
def bIs(n o:Int)(p:aE)(b:List Typ)(q r:Int)(s:aE)(c:List Typ)(a:Int):=tT 0 (aNQ n o p b q r s c a)<|gm 6 aZ b<|gd 2 38 (a< (b.length:Int)) (.y fun d:Int=>.y fun e:Int=>.y fun f:aE=>.y fun g:List Typ=>.y fun i:Int=>.y fun j:Int=>.y fun k:aE=>.y fun l:List Typ=>.y fun m:Bool=>.i [rn 5,.reg (rd 3 (.ans (.idx (Typ.av (Typ.mk d e f g)))::rd 4 [.ans (.idx (Typ.av (Typ.mk i j k l))),.d,.pure (bV m),.d]))] [hA (0≤a),.a (((b)[a.toNat]?) =some (Typ.mk d e f g)) (dY aZ),hA (0≤a),.a (((c)[a.toNat]?) =some (Typ.mk i j k l)) (dY aZ),hA (Pure PP 90 [(.agg [(nI d),(nI e),(aC f),(.ilst 4 (Typs.av g) false)]),(.agg [(nI i),(nI j),(aC k),(.ilst 4 (Typs.av l) false)])] (bV m))]<|.b 0 52 (!m) (gE 6 2 (bV false))<|gw 6 40 (a+1)<|.W 3 2 [0,1] (aNQ n o p b q r s c (a+1)))<|gE 7 2 (bV true)
def bEv:=fun a b c d e f g i j k=>bIs a b c d e f g i j|>.f k tv
theorem bEw (p:Prog)(f:Int)(y0 y1:Bool)(h0:Pure PP 17 [(Prog.av p)] (bV y0))(h1: (!y0) =true)(h2:Pure PP 9 [] (bV y1)) :
  ∀ (w:World) (cargs:List Value),VRs (embOf w) [Prog.av p,.int .i64 f] cargs→Calls PP 6 ⟨cargs⟩ w fun e w'=>e= .returned (.bool y1) ∧GrownO w w':=
 fun w cargs hv=>cW [qp h0,qp h1,qp h2] [rn 9,pB y0,rn 2,bt 15,rn 3,pB y1,rn 3] w hv
theorem bEx (p:Prog)(f:Int)(y0:Bool)(y_op1 y_n2:Int)(y_text3:aE)(y_kids4:List Term)(y_pats5:List Pat)(y6 y_op7 y_n8:Int)(y_text9:aE)(y_kids10:List Term)(y_pats11:List Pat)(y12:Int)(y13:Mod)(y14:Int)(y15:Mod)(y16:Int)(y17 y18 y19:Bool)(h0:Pure PP 17 [(Prog.av p)] (bV y0))(h1: (!y0) =false)(h2:Pure PP 24 [(Prog.av p),(nI f)] (.tup [(.agg [(nI y_op1),(nI y_n2),(aC y_text3),(.ilst 5 (Terms.av y_kids4) false),(iP y_pats5)]),(nI y6)]))(h3:Pure PP 25 [(Prog.av p),(nI f)] (.tup [(.agg [(nI y_op7),(nI y_n8),(aC y_text9),(.ilst 5 (Terms.av y_kids10) false),(iP y_pats11)]),(nI y12)]))(h4:Pure PP 26 [(Prog.av p)] (.tup [(.agg [(aC y13.name),(.ilst 2 (List.map DataD.av y13.datas) false),(.ilst 15 (FunDs.av y13.funs) false)]),(nI y14)]))(h5:Pure PP 27 [(Prog.av p)] (.tup [(.agg [(aC y15.name),(.ilst 2 (List.map DataD.av y15.datas) false),(.ilst 15 (FunDs.av y15.funs) false)]),(nI y16)]))(h6: (y6==y12) =true)(h7:Pure PP 28 [(.agg [(nI y_op1),(nI y_n2),(aC y_text3),(.ilst 5 (Terms.av y_kids4) false),(iP y_pats5)]),(.agg [(nI y_op7),(nI y_n8),(aC y_text9),(.ilst 5 (Terms.av y_kids10) false),(iP y_pats11)])] (bV y17))(h8:y17=true)(h9: (y14==y16) =true)(h10:Pure PP 29 [(.agg [(aC y13.name),(.ilst 2 (List.map DataD.av y13.datas) false),(.ilst 15 (FunDs.av y13.funs) false)]),(.agg [(aC y15.name),(.ilst 2 (List.map DataD.av y15.datas) false),(.ilst 15 (FunDs.av y15.funs) false)])] (bV y18))(h11:y18=true)(h12:Pure PP 9 [] (bV y19)) :
  ∀ (w:World) (cargs:List Value),VRs (embOf w) [Prog.av p,.int .i64 f] cargs→Calls PP 6 ⟨cargs⟩ w fun e w'=>e= .returned (.bool y19) ∧GrownO w w':=
 fun w cargs hv=>cW [qp h0,qp h1,qp h2,qp h3,qp h4,qp h5,qp h6,qp h7,qp h8,qp h9,qp h10,qp h11,qp h12] [rn 9,pB y0,rn 2,bf 15,rn 6,.pure (.tup [(.agg [(nI y_op1),(nI y_n2),(aC y_text3),(.ilst 5 (Terms.av y_kids4) false),(iP y_pats5)]),(nI y6)]),rn 11,.pure (.tup [(.agg [(nI y_op7),(nI y_n8),(aC y_text9),(.ilst 5 (Terms.av y_kids10) false),(iP y_pats11)]),(nI y12)]),rn 10,.pure (.tup [(.agg [(aC y13.name),(.ilst 2 (List.map DataD.av y13.datas) false),(.ilst 15 (FunDs.av y13.funs) false)]),(nI y14)]),rn 10,.pure (.tup [(.agg [(aC y15.name),(.ilst 2 (List.map DataD.av y15.datas) false),(.ilst 15 (FunDs.av y15.funs) false)]),(nI y16)]),rn 13,bt 42,rn 2,pB y17,rn 2,bt 47,rn 5,bt 52,rn 2,pB y18,rn 2,bt 57,pB y19,rn 4] w hv
end
end Go.Hb
namespace Go.Hb
open Go.Proofs
set_option maxHeartbeats 4000000
noncomputable section
theorem aIu :Pure PP 90 [Typ.av iE,Typ.av iE] (.bool true) :=
 aM (by kernel_rfl) rfl rfl ((bEu 1 0 [] [] 1 0 [] [] (by simp) (by simp) (by rw [iW];rfl) (by simp)).ends (bEv 1 0 [] [] 1 0 [] [] 0 (by simp)))
theorem aLr (d:DataD)(c:ConD)(i:Int)(hl:c.args.length≤1000)(ht:∀t∈c.args,t=iE) :∀ (t:List Typ) (k:Nat),c.args.drop k=t →
  LeadsM PP 0 (aEV d d c.name c.args c.name c.args (k:Int) i).as (aEV d d c.name c.args c.name c.args ((max k c.args.length:Nat) :Int) i).as
 | [],k,h=>by
  have:=bD h;rw [Nat.max_eq_left (by omega)];exact LeadsM.refl _
 | y::t,k,h=>by
  obtain⟨g1,g2,g3⟩ :=bB h;have hy:=ht y (List.mem_of_getElem? g1);subst hy;have ih:=aLr d c i hl ht t (k+1) g2;rw [Nat.max_eq_right (by omega)]at ih ⊢;exact(bEc d d c.name c.args c.name c.args k i 1 0 [] [] 1 0 [] [] true sd sd sd sd aIu rfl sd).trans ih
theorem aLs (d:DataD)(hl:d.cons.length≤1000)(hc:∀c∈d.cons,c.args.length≤1000∧∀t∈c.args,t=iE) :∀ (t:List ConD) (i:Nat),d.cons.drop i=t→Ends PP 0 (aIp d d (i:Int)).as (.ret (.bool true)) (aG [] 0)
 | [],i,h=>by
  have:=bD h;exact bEb d d i sd
 | c::t,i,h=>by
  obtain⟨g1,g2,g3⟩ :=bB h;obtain⟨c1,c2⟩ :=hc c (List.mem_of_getElem? g1);have e1:=bEa d d i c c sd sd sd sd (by rw [iW];rfl) (by simp);have e2:=aLr d c i c1 c2 c.args 0 rfl;have e3:=bEd d d c.name c.args c.name c.args ((max 0 c.args.length:Nat) :Int) i (by simp) sd;exact((e1.trans e2).trans e3).ends (aLs d hl hc t (i+1) g2)
theorem bEy (d:DataD) :AV.keyless (DataD.av d) =true:=by simp [DataD.av,AV.keyless,AV.keylessL,aC]
theorem aXr (d:DataD)(hl:d.cons.length≤1000)(hc:∀c∈d.cons,c.args.length≤1000∧∀t∈c.args,t=iE) :Pure PP 89 [DataD.av d,DataD.av d] (.bool true) :=by
 refine bM (s:=bFT d d) (by kernel_rfl) (by kernel_rfl) (by simp only [AV.keylessL,bEy];rfl) rfl ?_;exact(bD9 d d (by rw [iW];rfl) (by simp)).ends (aLs d hl hc d.cons 0 rfl)
structure IntM (m:Mod) :Prop where
 datas:m.datas.length≤1000∧∀d∈m.datas,d.cons.length≤1000∧∀c∈d.cons,c.args.length≤1000∧∀t∈c.args,t=iE
 funs:m.funs.length≤1000∧∀f∈m.funs,∃n q b,f= .mk n q iE iE b∧mY b<1000000
theorem aLt {m:Mod}(h:IntM m) :∀ (t:List FunD) (i:Nat),m.funs.drop i=t→Ends PP 0 (aIo m m (i:Int)).as (.ret (.bool true)) (aG [] 0)
 | [],i,hd=>by
  have:=bD hd;exact bD8 m m i sd
 | f::t,i,hd=>by
  obtain⟨g1,g2,g3⟩ :=bB hd;obtain⟨n,q,b,rfl,hb⟩ :=h.funs.2 f (List.mem_of_getElem? g1);have hs:=aEK b hb;have hl:=h.funs.1;obtain⟨b1,b2,b3,b4,b5⟩ :=b;exact(bD7 m m i n q 1 0 [] [] 1 0 [] [] b1 b2 b3 b4 b5 n q 1 0 [] [] 1 0 [] [] b1 b2 b3 b4 b5 true true true sd sd sd sd (by rw [iW];rfl) (by rw [iW];rfl) aIu rfl aIu rfl hs rfl sd).ends (aLt h t (i+1) g2)
theorem aGs {m:Mod}(h:IntM m) :∀ (t:List DataD) (i:Nat),m.datas.drop i=t→Ends PP 0 (aIn m m (i:Int)).as (.ret (.bool true)) (aG [] 0)
 | [],i,hd=>by
  have:=bD hd;exact(bD6 m m i sd).ends (aLt h m.funs 0 rfl)
 | d::t,i,hd=>by
  obtain⟨g1,g2,g3⟩ :=bB hd;obtain⟨d1,d2⟩ :=h.datas.2 d (List.mem_of_getElem? g1);have hl:=h.datas.1;exact(bD5 m m i d d true sd sd sd sd (aXr d d1 d2) rfl sd).ends (aGs h t (i+1) g2)
theorem aXs {m:Mod}(h:IntM m) :Pure PP 29 [Mod.av m,Mod.av m] (.bool true) :=by
 refine bM (s:=bFS m m) (by kernel_rfl) (by kernel_rfl) (by simp only [AV.keylessL,aH4];rfl) rfl ?_;exact(bD4 m m (by rw [iW];rfl) (by simp) (by simp)).ends (aGs h m.datas 0 rfl)
theorem aGt {p:Prog}(hs:aN p=true)(f:Int) :mY (gW p f).1<1000000:=by
 have hz:mY ZT<1000000:=by decide
 by_cases hc:bC p=true∧aW f 0 ((p.funs.length:Int) -1) =true
 · obtain⟨a,t,_,_,_,h3,h4⟩ :=wV (Fs.of hs hc.1) hc.2;rw [h4];split
   ·exact h3
   ·exact hz
 · unfold gW;rw [if_neg hc];exact hz
theorem aNR {p:Prog}(hs:aN p=true) :IntM (dG p).1:=by
 have hz:IntM ZM:= ⟨⟨by simp,fun d hd=>by cases hd⟩,⟨by simp,fun f hf=>by cases hf⟩⟩;unfold dG;split
 · rename_i hf;split
   · have h:=Fs.of hs hf;have hh:=h.head;refine⟨⟨?_,fun d hd=>?_⟩,⟨?_,fun f hf=>?_⟩⟩
     ·simp only [aNN,hX,List.length_map,List.length_range];omega
     · obtain⟨k,hk,rfl⟩ :=List.mem_map.1 hd;refine⟨by simp [aAg];omega,fun c hc=>?_⟩;obtain⟨c0,hc0,rfl⟩ :=List.mem_map.1 hc;obtain⟨a1,a2,_⟩ :=aBd h c0 (List.mem_of_mem_drop (List.mem_of_mem_take hc0));exact⟨by simp [lI];omega,fun t ht=>List.eq_of_mem_replicate ht⟩
     ·simp only [aNN,List.length_map,List.length_range];omega
     · obtain⟨i,hi,rfl⟩ :=List.mem_map.1 hf;exact⟨_,_,_,rfl,aGt hs i⟩
   ·exact hz
 ·exact hz
theorem lBodies_calls (p:Prog)(f:Int)(hk:Pure PP 9 [] (.bool true))(w:World)(cargs:List Value)(hv:VRs (embOf w) [Prog.av p,.int .i64 f] cargs) :
  Calls Tryz.prog 6 ⟨cargs⟩ w fun e w'=>e= .returned (.bool true) ∧GrownO w w':=by
 have h0:=aCC p;cases hs:aN p with
 | false=>
  rw [hs]at h0;exact bEw p f false true h0 (by rfl) hk w cargs hv
 | true=>
  rw [hs]at h0;have a1:=aNI hs f;have a2:=aET hs f;have a3:=aEK _ (aGt hs f);generalize gW p f=B at a1 a2 a3;obtain⟨⟨b1,b2,b3,b4,b5⟩,e⟩ :=B;exact bEx p f true b1 b2 b3 b4 b5 e b1 b2 b3 b4 b5 e (dG p).1 (dG p).2 (dG p).1 (dG p).2 true true true h0 (by rfl) a1 a2 (aIs hs) (aIq hs) (beq_self_eq_true _) a3 rfl (beq_self_eq_true _) (aXs (aNR hs)) rfl hk w cargs hv
end
end Go.Hb
