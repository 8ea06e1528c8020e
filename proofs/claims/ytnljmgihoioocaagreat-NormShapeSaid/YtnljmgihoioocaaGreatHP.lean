/- A machine on abstract values, its soundness, ways, plain laws. -/
import Derived.Test.YtnljmgihoioocaaGreatHF
import Derived.Test.YtnljmgihoioocaaGreatHG
import Derived.Test.YtnljmgihoioocaaGreatHH
import Derived.Test.YtnljmgihoioocaaGreatHM
import Derived.Test.YtnljmgihoioocaaGreatHO
set_option linter.defProp false
set_option linter.unusedVariables false
set_option linter.unusedSimpArgs false
set_option linter.unusedSectionVars false
set_option maxRecDepth 100000
set_option maxHeartbeats 1000000
namespace Go.Hb
open AV (ilst int)
open Go.Proofs Tryz
noncomputable section
def NI (p:Prog)(q:List XT)(ts:List XT) :Prop:=NInv p q ts∧oI (zV p.cons) ts
theorem aEL {p:Prog}{q:List XT}:∀a,NI p q a→FineXs 1000000 a∧aD a≤100000∧a.length≤1000:=fun _ h=>aY7 h.1
theorem aEM {p:Prog}{q:List XT}:∀ (b:List XT) (a:Int) (l:List Int) (ts':List XT),NI p q b→eE b 0=a::l→atF a b 0= .did ts'→NI p q ts':=fun _ _ _ _ h d c=> ⟨aNG h.1 d c,(aR4 h.2 c).1⟩
theorem aK5 {p:Prog}(a:aF p=true)(b:aK p=true)(hc: (dD p).1=true){ts:List XT}(c:aN p ts p.funs) :NI p (ts.map nfT) ts:=by
 obtain⟨d,_,_⟩ :=kC a b;exact⟨aY9 a b hc c,aDa d ts p.funs c⟩
theorem aQY {p:Prog}{q ts:List XT}(h:NI p q ts) :∃m,aCo 1000 ts=some (q,m) ∧NI p q q∧eE q 0= [] ∧m.length≤1000:=by
 obtain⟨m,hm⟩ :=aSh 1000 ts h.1 (by have:=h.1.fs;omega);obtain⟨a,c,b⟩ :=aGJ (I:=NI p q) aEM 1000 ts q m h hm;exact⟨m,hm,a,c,b⟩
def bG2(a:Prog):TS:=cA PP 25 [(Prog.av a)] [] 0
def aQZ(a:Prog):=tT 0 (bG2 a)<|lO 8 10 [(Prog.av a)]<|fun b=>.b 1 5 b (lO 1 27 [(Prog.av a)]<|fun c=>.b 2 9 c (lO 1 58 [(Prog.av a)]<|fun d=>gE 4 1 (bV d))<|gE 6 1 (bV false))<|gE 10 1 (bV false)
def bDn:=fun a b c d e f g i j=>aQZ a b e|>.t f c g|>.t i d j tv
def bDo:=fun a b c d e f g=>aQZ a b d|>.t e c f|>.f g tv
def bDp:=fun a b c d=>aQZ a b c|>.f d tv
theorem aUV {p:Prog}:aM PP 25 [Prog.av p] (.bool (aF p&&aK p&& (dD p).1)) :=by
 refine aJ aC rfl rfl ?_;have a:=vT p;cases b:aF p
 case false=>rw [b]at a;exact bDp p false a rfl
 rw [b]at a;have hb:=b;simp only [aF,cP,decide_eq_true_eq]at hb;have c:=aBS p b;cases d:aK p
 case false=>rw [d]at c;exact bDo p true false a rfl c rfl
 rw [d]at c;obtain⟨f,_,_⟩ :=kC b d;have g:=aQr f;have e: (dD p).1=iD p (kJ p) 0 (kJ p) :=by unfold dD;rw [if_pos d]
 rw [e];exact bDn p true true _ a rfl c rfl g
structure Way (p:Prog) (q ts:List XT) :Prop where
 len:ts.length=p.funs.length
 wx:jJ p ts
 sc:∀t∈ts,vX t 1
 nf:ts.map nfT=q
 fits:vU 30 p.cons ts=true
section
variable {p :Prog} (hp:Fs p) {q:List XT}
include hp in
theorem Way.fs {ts:List XT}(h:Way p q ts) :Fs (cO ts p.main p.cons) ∧ (dD (cO ts p.main p.cons)).1=true:=aK3 hp h.len h.wx h.sc h.fits
end
def bFx(a:Node):TS:=cA PP 65 [(Node.av a)] [] 0
def bFy(a:Node):TS:=cA PP 66 [(Node.av a)] [] 0
def bFz(a:Prog):TS:=cA PP 28 [(Prog.av a)] [] 0
def zX(a:Prog)(b c:Int):TS:=⟨(tf 28 41 [kp 1 0,(2,(nI 0)),(3,(nI c)),(4,(nI b))] [kc f28 116,kl f28 116,.inBlock 0,kc f28 15]),[],[oC 0 [(iN a.nodes),(iI a.funs),(nI a.main),(iC a.cons)]],1⟩
def aCu(a:Prog)(b c d:Int):TS:=⟨(tf 28 41 [kp 1 0,(2,(nI 0)),(3,(nI b)),(4,(nI d)),(5,(nI c))] [kc f28 7460,kl f28 7460,.inBlock 2,.inBlock 1,kc f28 467,kl f28 116,.inBlock 0,kc f28 15]),[],[oC 0 [(iN a.nodes),(iI a.funs),(nI a.main),(iC a.cons)]],1⟩
def aQ0(a:Node):=tT 0 (bFx a)<|.b 12 6 (a.op==7) (gE 11 1 (nI 0))<|.b 5 10 (a.op==26) (gE 6 1 (nI 0))<|gpI 5 106 [(Node.av a)]<|fun b=>gE 3 1 (nI b)
def aZi:=fun a b=>aQ0 a|>.t b tv
def aZj:=fun a b c=>aQ0 a|>.f b|>.t c tv
def aZk:=fun a b c d e=>aQ0 a|>.f c|>.f d b e tv
def aK6(a:Node):=tT 0 (bFy a)<|.b 11 6 (a.op==1) (gE 17 1 (bV true))<|.b 5 11 (a.op==2) (gE 12 1 (bV true))<|.b 5 16 (a.op==3) (gE 7 1 (bV true))<|gE 7 1 (bV (a.op==4))
def aZl:=fun a b=>aK6 a|>.t b tv
def aZm:=fun a b c=>aK6 a|>.f b|>.t c tv
def aZn:=fun a b c d=>aK6 a|>.f b|>.f c|>.t d tv
def aZo:=fun a b c d=>aK6 a|>.f b|>.f c|>.f d tv
def aZp (a:Prog):=(tT 0 (bFz a)<|.W 16 1 [0] (zX a 0 0)) tv
def aZq(a:Prog)(b c:Int):=tT 0 (zX a b c)<|gl 6 Node.av a.nodes<|gd 2 10 (b< (a.nodes.length:Int)) (.W 10 1 [0] (aCu a c 0 b))<|gE 8 1 (nI c)
def aZr:=fun a b c d=>aZq a b c|>.t d tv
def aZs:=fun a b c d=>aZq a b c|>.f d tv
def aQ1(c:Prog)(d a b:Int):=tT 0 (aCu c d a b)<|gX Node.av 7 c.nodes b<|fun e=>gpI 1 65 [(Node.av e)]<|fun j=>gd 2 20 (a<j) (.y fun f:Int=>.y fun g:Node=>.y fun i:Bool=>.i [rn 5,.reg (rd 5 (.ans (.idx (Node.av e))::rd 3 [.ans (.idx (cC f)),.d,.ans (.idx (Node.av g)),.d,.pure (bV i),.d]))] [hA (0≤b),.a (((c.nodes)[b.toNat]?) =some e) (bC (f:=Node.av)),hA (0≤a),.a (((e.kids)[a.toNat]?) =some f) (bC (f:=cC)),hA (0≤f),.a (((c.nodes)[f.toNat]?) =some g) (bC (f:=Node.av)),hA (aM PP 66 [(Node.av g)] (bV i))]<|.b 0 37 (!i) (gw 4 39 (d+1)<|gw 6 22 (a+1)<|.W 3 1 [0] (aCu c (d+1) (a+1) b))<|gw 6 22 (a+1)<|.W 3 1 [0] (aCu c d (a+1) b))<|gw 6 12 (b+1)<|.W 3 1 [0] (zX c (b+1) d)
def aZt:=fun c d e f g i j k l a b m n o p q r s t u v=>aQ1 c d e f g a b i m|>.t n j k l a b o p q r s|>.t t u v tv
def aZu:=fun c d e f g i j k l a b m n o p q r s t u=>aQ1 c d e f g a b i m|>.t n j k l a b o p q r s|>.f t u tv
def aZv:=fun a b c d e f g i j k l=>aQ1 a b c d e g i f j|>.f k l tv
def bDq (x:Node) :Bool:=decide (x.op=1) ||decide (x.op=2) ||decide (x.op=3) ||decide (x.op=4)
theorem aIw (x:Node) :aM PP 66 [Node.av x] (.bool (bDq x)) :=by
 refine aJ aC rfl rfl ?_;unfold bDq;by_cases a:x.op=1
 · rw [show(decide (x.op=1) ||decide (x.op=2) ||decide (x.op=3) ||decide (x.op=4)) =true by simp [a]];exact aZl x (by simpa using a)
 by_cases b:x.op=2
 · rw [show(decide (x.op=1) ||decide (x.op=2) ||decide (x.op=3) ||decide (x.op=4)) =true by simp [b]];exact aZm x (by simpa using a) (by simpa using b)
 by_cases c:x.op=3
 · rw [show(decide (x.op=1) ||decide (x.op=2) ||decide (x.op=3) ||decide (x.op=4)) =true by simp [c]];exact aZn x (by simpa using a) (by simpa using b) (by simpa using c)
 have e:=aZo x (by simpa using a) (by simpa using b) (by simpa using c);rw [show(decide (x.op=1) ||decide (x.op=2) ||decide (x.op=3) ||decide (x.op=4)) = (x.op== (4:Int))by simp [a,b,c,Bool.beq_eq_decide_eq]];exact e
theorem aDf {p:Prog}{x:Node}(h:aP p x=true) :aM PP 65 [Node.av x] (.int .i64 ((aT x.op x.kids.length:Nat) :Int)) :=by
 refine aJ aC rfl rfl ?_;by_cases a:x.op=7
 · rw [show((aT x.op x.kids.length:Nat) :Int) =0 by rw [a];rfl];exact aZi x (by simpa using a)
 by_cases b:x.op=26
 · rw [show((aT x.op x.kids.length:Nat) :Int) =0 by rw [b];rfl];exact aZj x (by simpa using a) (by simpa using b)
 rw [←aYK (fun c d=>aRR h c d) a b];exact aZk x _ (by simpa using a) (by simpa using b) (aUN x)
def cK (p:Prog) :List Int→Nat→Nat
 | [],_=>0
 |_::_,0=>0
 |k::ks,m+1=> (match p.nodes[k.toNat]? with|some y=>if bDq y=true then 0 else 1|none=>0) +cK p ks m
theorem bEe (p:Prog) :∀ (a:List Int) (m:Nat),cK p a m≤a.length
 | [],_=>by simp [cK]
 |k::a,0=>by simp [cK]
 | k::a,m+1=>by
  have:=bEe p a m;simp only [cK,mO];split
  ·split<;>omega
  ·omega
def cN (p:Prog)(x:Node) :Nat:=cK p x.kids (aT x.op x.kids.length)
def cpL (p:Prog) :List Node→Nat
 | [] =>0
 |x::l=>cN p x+cpL p l
section
variable {p :Prog} (hp:Fs p)
include hp in
theorem aQ3 {i:Nat}{x:Node}(c:p.nodes[i]?=some x) :∀ (b:List Int) (j m:Nat) (n:Nat),x.kids.drop j=b→j+m=aT x.op x.kids.length→n+20<1000000+j →
  LeadsM PP 0 (aCu p (n:Int) (j:Int) (i:Int)).as (zX p ((i+1:Nat) :Int) ((n+cK p b m:Nat) :Int)).as
 | b,j,0,n,h,hm,l=>by
  have a:= (hp.node i x c).1;have e:cK p b 0=0:=by cases b<;>rfl
  rw [e,Nat.add_zero];have z:= (zq0.1 c).1;have o:=hp.head.1;have s:=aZv p (n:Int) (j:Int) (i:Int) x _ (by omega) (by rw [kZ];exact c) (aDf a) (by rw [decide_eq_false_iff_not];omega) (wrap64 (by omega) (by omega));exact s
 | [],j,m+1,n,h,hm,l=>by
  have a:= (hp.node i x c).1;have:=aQv a;have:=bL h;omega
 | k::b,j,m+1,n,h,hm,l=>by
  have a:= (hp.node i x c).1;obtain⟨f,q,u⟩ :=bI h;obtain⟨_,v,t⟩ :=hp.fine.node i x c;have hk:=t k (kS f);obtain⟨y,d⟩ :∃y,p.nodes[k.toNat]?=some y:= ⟨_,kR (by omega)⟩;have w:j<10:=by have:= (zq0.1 f).1;omega
  cases g:bDq y
  case true=>
   have s:=aZu p (n:Int) (j:Int) (i:Int) x _ k y true (by omega) (by rw [kZ];exact c) (aDf a) (by rw [decide_eq_true_iff];omega) (by omega) (by rw [kZ];exact f) (by omega) d (by have:=aIw y;rw [g]at this;exact this) rfl (wrap64 (by omega) (by omega));have r:=aQ3 c b (j+1) m n q (by omega) (by omega);rw [show cK p (k::b) (m+1) =cK p b m by simp only [cK,d,g,if_true,eM]];exact LeadsM.trans s r
  have s:=aZt p (n:Int) (j:Int) (i:Int) x _ k y false (by omega) (by rw [kZ];exact c) (aDf a) (by rw [decide_eq_true_iff];omega) (by omega) (by rw [kZ];exact f) (by omega) d (by have:=aIw y;rw [g]at this;exact this) rfl (wrap64 (by omega) (by omega)) (wrap64 (by omega) (by omega));have r:=aQ3 c b (j+1) m (n+1) q (by omega) (by omega);rw [show n+cK p (k::b) (m+1) =n+1+cK p b m by simp only [cK,d,g,rN,if_false];omega];exact LeadsM.trans s r
include hp in
theorem aSm :∀ (a:List Node) (i n:Nat),p.nodes.drop i=a→i≤p.nodes.length→n≤10*i →
  LeadsM PP 0 (zX p (i:Int) (n:Int)).as (zX p ((p.nodes.length:Nat) :Int) ((n+cpL p a:Nat) :Int)).as
 | [],i,n,h,g,f=>by
  have:=bL h;obtain rfl:i=p.nodes.length:=by omega
  exact LeadsM.refl _
 | x::a,i,n,h,g,f=>by
  obtain⟨b,k,m⟩ :=bI h;have j:= (zq0.1 b).1;have c:=hp.head.1;obtain⟨_,e,_⟩ :=hp.fine.node i x b;have hc:cN p x≤10:=Nat.le_trans (bEe p x.kids _) e;have d:=aZr p (i:Int) (n:Int) (by rw [decide_eq_true_iff];omega);have l:=aQ3 hp b x.kids 0 _ n rfl (eM _) (by omega);have r:=aSm a (i+1) (n+cN p x) k (by omega) (by omega);rw [show n+cpL p (x::a) =n+cN p x+cpL p a by simp only [cpL];omega];exact LeadsM.trans d (LeadsM.trans l r)
include hp in
theorem aNJ :aM PP 28 [Prog.av p] (.int .i64 ((cpL p p.nodes:Nat) :Int)) :=by
 refine aJ aC rfl rfl ?_;have r:=aSm hp p.nodes 0 0 rfl (Nat.zero_le _) (Nat.zero_le _);rw [eM]at r;exact((aZp p).trans r).ends (aZs p _ _ (by simp))
end
def cpO :List XT→Nat→Nat
 | [],_=>0
 |_::_,0=>0
 |k::ks,m+1=> (if bJ k=true then 0 else 1) +cpO ks m
mutual
def cpT :XT→Nat
 | .mk o _ ks _=>cpO ks (aT o ks.length) +lR ks
def lR :List XT→Nat
 | [] =>0
 |t::ts=>cpT t+lR ts
end
theorem aDW :∀ (a b:List XT),lR (a++b) =lR a+lR b
 | [],b=>by simp [lR]
 |x::a,b=>by simp only [vV,lR,aDW a b];omega
mutual
theorem aZw {p:Prog}:∀ (t:XT),WX p t→∀ (b:List Int) (z:Int),qK (eF t b z) =cB t+2*cpT t
 | .mk o n a h,c,b,z=>by
  have g:=c;simp only [WX]at c;simp only [eF];by_cases f:bJ (.mk o n a h) =true
  · rw [if_pos f];obtain rfl:=g.kids0 f;simp only [qK,aD,List.length_nil,aEI,cB,cpT,cpO,lR]
  · rw [if_neg f];by_cases d:o=7
    · rw [if_pos d];obtain⟨_,_,hl⟩ :=c.1.let7 d;have:=bHZ a c.2 hl b z;have e:cpO a (aT o a.length) =0:=by rw [d];cases a<;>rfl
      simp only [cB,cpT,e];omega
    · rw [if_neg d];have k:=bFA a c.2 (aT o a.length) b z;have l:=bFB o h a c.2 0 (aT o a.length) b (z+ ((mR a (aT o a.length) b z).1.length:Nat));have j:aD a=aD (a.take (aT o a.length)) +aD (a.drop (aT o a.length)) :=by rw [←gQ,List.take_append_drop]
      have i:lR a=lR (a.take (aT o a.length)) +lR (a.drop (aT o a.length)) :=by rw [←aDW,List.take_append_drop]
      simp only [qK,cB,gQ,cpT];omega
theorem bHZ {p:Prog}:∀ (c:List XT),jJ p c→c.length=2→∀ (b:List Int) (z:Int),qK (flL c b z) =1+aD c+2*lR c
 | [],_,hl,b,z=>by cases hl
 | a::c,d,hl,b,z=>by
  simp only [jJ]at d;have e:=aZw a d.1 b z;have f:=bH0 c d.2 (by simp only [mO]at hl;omega) (b++ [z+ ((eF a b z).binds.length:Nat)]) (z+ ((eF a b z).binds.length+1:Nat));simp only [flL,qK,gQ,aD,lR,vP,mO]at e f ⊢;omega
theorem bH0 {p:Prog}:∀ (a:List XT),jJ p a→a.length=1→∀ (c:List Int) (z:Int),qK (flB a c z) =aD a+2*lR a
 | [],_,hl,c,z=>by cases hl
 | [b],d,_,c,z=>by
  simp only [jJ]at d;have e:=aZw b d.1 c z;simp only [flB,aD,lR];omega
 |_::_::_,_,hl,_,_=>by simp at hl
theorem bFA {p:Prog}:∀ (a:List XT),jJ p a→∀ (m:Nat) (b:List Int) (z:Int),aD (mR a m b z).1+ (mR a m b z).1.length+aD (mR a m b z).2=aD (a.take m) +2* (cpO a m+lR (a.take m))
 | [],_,m,b,z=>by simp [mR,aD,cpO,lR]
 |k::a,_,0,b,z=>by simp [mR,aD,cpO,lR]
 | k ::a,d,m+1,b,z=>by
  simp only [jJ]at d;simp only [mR,List.take_succ_cons,aD,cpO,lR];by_cases c:bJ k=true
  · rw [if_pos c,if_pos c];have f:=bFA a d.2 m b z;have i:cpT k=0:=by
     obtain⟨o,n,h,g⟩ :=k;obtain rfl:=d.1.kids0 c;rfl
    simp only [aD,aEI];omega
  · rw [if_neg c,if_neg c];have e:=aZw k d.1 b z;have f:=bFA a d.2 m b (z+ ((eF k b z).binds.length+1:Nat));simp only [qK]at e;simp only [gQ,aD,vP,mO,cB];omega
theorem bFB {p:Prog}(o:Int)(ps:List Pat) :∀ (a:List XT),jJ p a→∀ (i m:Nat) (b:List Int) (n:Int),aD (vW o ps a i m b n) =aD (a.drop m) +2*lR (a.drop m)
 | [],_,i,m,b,n=>by simp [vW,aD,lR]
 | k::a,c,i,m+1,b,n=>by
  simp only [jJ]at c;simp only [vW,List.drop_succ_cons];exact bFB o ps a c.2 (i+1) m b n
 | k::a,c,i,0,b,n=>by
  simp only [jJ]at c;have d:=aZw k c.1 (plc b n (bK o ps (i:Int))) (n+bK o ps (i:Int));have e:=bFB o ps a c.2 (i+1) 0 b n;rw [List.drop_zero]at e;simp only [vW,List.drop_zero,aD,clF,aGK,lR];simp only [qK]at d;omega
end
theorem bEf {p:Prog}:∀ {a:List XT},jJ p a→aD (a.map nfT) =aD a+2*lR a
 | [],_=>by simp [aD,lR]
 | t::a,h=>by
  simp only [jJ]at h;have b:=aZw t h.1 [0] 1;have c:=bEf h.2;simp only [eI,aD,nfT,clF,aGK,lR];simp only [qK]at b;omega
mutual
theorem bDr :∀ (t:XT) (a:Int),stT t a= [] →cpT t=0
 | .mk o n b d,a,h=>by
  have c:cG (.mk o n b d) =none:=by
   cases c:cG (.mk o n b d)with
   |none=>rfl
   |some s=>rw [tG a c]at h;cases h
  rw [tD a c]at h;have q:=aGZ b _ h;have i:cpO b (aT o b.length) =0:=by
   by_cases e:o=7
   ·rw [e];cases b<;>rfl
   · simp only [cG,if_neg e,Option.map_eq_none_iff]at c;have f:=rJ c;have:∀ (l:List XT) (m:Nat),(∀ (j:Nat) (x:XT),j<m→l[j]?=some x→bJ x=true) →cpO l m=0:=by
      intro l
      induction l with
      |nil=>intro m _;rfl
      | cons k l g=>
       intro m hm;cases m with
       |zero=>rfl
       |succ m=>simp only [cpO];rw [if_pos (hm 0 k (by omega) rfl),g m fun j x r p=>hm (j+1) x (by omega) (by simpa using p)]
     exact this b _ f
  simp only [cpT,q,i]
theorem aGZ :∀ (b:List XT) (a:Int),eE b a= [] →lR b=0
 | [],_,_=>rfl
 | t::b,a,h=>by
  simp only [eE,List.append_eq_nil_iff]at h;simp only [lR,bDr t _ h.1,aGZ b _ h.2]
end
section
variable {P p:Prog}
mutual
theorem bDs :∀ (t:XT) (a:Nat) (f:Int),(∀ (j:Nat) (x:Node),(dQ t a)[j]?=some x→P.nodes[a+j]?=some x) →WX p t→stT t f= [] →∀ (j:Nat) (x:Node),(dQ t a)[j]?=some x→x.op=7→∃ (y:Int) (z:Node),x.kids[0]?=some y∧0≤y∧P.nodes[y.toNat]?=some z∧z.op≠7
 | .mk o n e l,a,f,hl,k,h,j,x,c,g=>by
  have d:cG (.mk o n e l) =none:=by
   cases d:cG (.mk o n e l)with
   |none=>rfl
   |some s=>rw [tG f d]at h;cases h
  rw [tD f d]at h;simp only [WX]at k;cases j with
  | zero=>
   rw [dQ]at c;simp only [jK,Option.some.injEq]at c;subst c;simp only at g;subst g;obtain⟨_,_,i⟩ :=k.1.let7 rfl
   match e,i with
   | [.mk q m v u,b],_=>
    have r:=hl 1 ⟨q,m,(aW v (a+1+1)).1,u⟩ (by rw [dQ];simp only [aW,dQ];rfl);exact⟨((a+1:Nat) :Int),_,by simp only [aW];rfl,by omega,by rw [kZ];exact r,aBa d⟩
  | succ j=>
   exact aG0 e (a+1) _ (fun j x c=>by
    have:=hl (j+1) x (by rw [dQ,lS];exact c);rw [show a+1+j=a+ (j+1)by omega];exact this) k.2 h j x (by rw [dQ,lS]at c;exact c) g
theorem aG0 :∀ (c:List XT) (a:Nat) (d:Int),(∀ (j:Nat) (x:Node),(aW c a).2[j]?=some x→P.nodes[a+j]?=some x) →jJ p c→eE c d= [] →∀ (j:Nat) (x:Node),(aW c a).2[j]?=some x→x.op=7→∃ (y:Int) (z:Node),x.kids[0]?=some y∧0≤y∧P.nodes[y.toNat]?=some z∧z.op≠7
 | [],a,d,_,_,_,j,x,b,_=>by simp [aW]at b
 | t ::c,a,d,hl,e,h,j,x,b,f=>by
  simp only [eE,List.append_eq_nil_iff]at h;simp only [jJ]at e;simp only [aW]at hl b;by_cases g:j<cB t
  · rw [hP (by rw [bB];exact g)]at b;exact bDs t a _ (fun j x b=>hl j x (by rw [hP (zq0.1 b).1];exact b)) e.1 h.1 j x b f
  · rw [iQ (by rw [bB];omega),bB]at b;rw [bB]at hl
    exact aG0 c (a+cB t) _ (fun j x b=>by
     have:=hl (cB t+j) x (by rw [iQ (by rw [bB];omega),bB,show cB t+j-cB t=j by omega];exact b);rw [show a+cB t+j=a+ (cB t+j)by omega];exact this) e.2 h.2 _ x b f
end
end
def cI (p:Prog) :List Int→Nat
 | [] =>0
 |k::l=> (match p.nodes[k.toNat]? with|some x=>cN p x|none=>0) +cI p l
theorem aIx {p:Prog}:∀ (a b:List Int),cI p (a++b) =cI p a+cI p b
 | [],b=>by simp [cI]
 |x::a,b=>by simp only [vV,cI,aIx a b];omega
theorem bDt {p:Prog}{a b:List Int}(h:a.Perm b) :cI p a=cI p b:=by
 induction h with
 |nil=>rfl
 |cons x _ d=>simp only [cI,d]
 |swap x y l=>simp only [cI];omega
 |trans _ _ c e=>rw [c,e]
theorem aNK {p:Prog}:∀ (l:List Node) (i:Nat),p.nodes.drop i=l→cI p ((List.range' i l.length).map fun(j:Nat) => (j:Int)) =cpL p l
 | [],i,h=>by simp [cI,cpL]
 | x::l,i,h=>by
  obtain⟨a,b,c⟩ :=bI h;rw [mO,List.range'_succ,eI];simp only [cI,cpL,kZ,a];rw [aNK l (i+1) b]
theorem bG3 {p:Prog}:∀ (a:List XT) (l:List Int) (m:Nat),aN p a l→cK p l m=cpO a m
 | [],l,m,h=>by simp only [aN]at h;subst h;rfl
 | .mk o n i f::a,l,m,h=>by
  simp only [aN]at h;obtain⟨k,d,rfl,b,e⟩ :=h;cases m with
  |zero=>rfl
  | succ m=>
   simp only [IsTree]at b;obtain⟨g,nd,c,rfl,rfl,rfl,_⟩ :=b;simp only [cK,cpO,c,bG3 a d m e];rfl
mutual
theorem bFC {p:Prog}(hp:FineP p) :∀ (t:XT) (a:Int) (f:Nat),IsTree p t a→p.nodes.length-a.toNat≤f→cI p (pre p f a) =cpT t
 | .mk o n i l,a,f,h,e=>by
  simp only [IsTree]at h;obtain⟨m,nd,b,rfl,rfl,rfl,c⟩ :=h;have j:= (zq0.1 b).1;obtain⟨_,_,hk⟩ :=hp.node _ nd b
  match f,e with
  |0,e=>omega
  | g+1,e=>
   simp only [pre,b,cI,cpT];rw [aK7 hp i nd.kids g c (fun k d=>by have:=hk k d;omega),cN,bG3 i nd.kids _ c,eY c]
theorem aK7 {p:Prog}(hp:FineP p) :∀ (a:List XT) (l:List Int) (g:Nat),aN p a l→ (∀k∈l,p.nodes.length-k.toNat≤g) →cI p ((l.map (pre p g)).flatten) =lR a
 | [],l,g,h,_=>by simp only [aN]at h;subst h;rfl
 | t::a,l,g,h,hk=>by
  simp only [aN]at h;obtain⟨k,d,rfl,b,e⟩ :=h;simp only [eI,aCv,aIx,lR];rw [bFC hp t k g b (hk k (cQ ..)),aK7 hp a d g e (fun x c=>hk x (cH _ c))]
end
theorem aQ4 {l:List Int}{n:Nat}(m:l.Nodup)(hl:l.length=n)(c:∀x∈l,0≤x∧x< (n:Int)) :l.Perm ((List.range' 0 n).map fun(j:Nat) => (j:Int)) :=by
 have f: (l.map Int.toNat).Nodup:=by
  rw [List.nodup_iff_pairwise_ne]at m ⊢;refine List.pairwise_map.2 (m.imp_of_mem (fun {a b} ha hb hne e=>?_));have:=c a ha;have:=c b hb;exact hne (by omega)
 have hr: ((List.range' 0 n).map fun(j:Nat) => (j:Int)).Nodup:=by
  rw [List.nodup_iff_pairwise_ne];refine List.pairwise_map.2 ?_;have:=List.nodup_range' (s:=0) (n:=n) (step:=1);rw [List.nodup_iff_pairwise_ne]at this;exact this.imp fun h e=>h (by omega)
 refine List.perm_iff_count.2 fun k=>?_;have hm :k∈l↔k∈ ((List.range' 0 n).map fun(j:Nat) => (j:Int)) :=by
  refine⟨fun h=>?_,fun h=>?_⟩
  · have:=c k h;exact zq24.2 ⟨k.toNat,List.mem_range'_1.2 (by omega),by omega⟩
  · obtain⟨j,o,rfl⟩ :=zq24.1 h;have o:=List.mem_range'_1.1 o;by_cases hm: ((j:Nat) :Int) ∈l
    ·exact hm
    · have p:=tC n (j::l.map Int.toNat) (List.nodup_cons.2 ⟨fun g=>by
       obtain⟨y,d,e⟩ :=zq24.1 g;have:=c y d;exact hm ((show y= ((j:Nat) :Int)by omega) ▸ d),f⟩) (fun x i=>by
       rcases zq7.1 i with rfl|i
       ·omega
       · obtain⟨y,d,rfl⟩ :=zq24.1 i;have:=c y d;omega)
      rw [mO,lB]at p;omega
 rw [m.count,hr.count];simp only [hm]
theorem aNL {p:Prog}(a:aF p=true)(b:aK p=true){ts:List XT}(g:aN p ts p.funs) :cpL p p.nodes=lR ts:=by
 obtain⟨e,_,_⟩ :=kC a b;obtain⟨c,f,d,_⟩ :=aA4 a b;rw [←aK7 e ts p.funs p.nodes.length g (fun k _=>by omega),←aNK p.nodes 0 rfl];exact(bDt (aQ4 c f d)).symm
abbrev aBc (a:Prog)(b:Int):AV:=.tup [(Prog.av a),(nI b)]
def bG4(a:Prog):TS:=cA PP 8 [(Prog.av a)] [] 0
def yL(a:Prog)(b:List Node)(c:List Int)(d:Int)(e:List Con)(f:Int):TS:=⟨(tf 8 152 [kp 1 0,(2,(bV false)),kp 3 1,(5,(nI f))] [kc Tryz.f8 1012,kl Tryz.f8 1012,.inBlock 0,kc Tryz.f8 127]),[],[oC 0 [(iN a.nodes),(iI a.funs),(nI a.main),(iC a.cons)],oC 1 [(iN b),(iI c),(nI d),(iC e)]],2⟩
def aZx (b:Prog):=fun k a j c d e f g i l m n o p q r s t u v w x y z A B C=>(tT 0 (bG4 b)<|lO 9 25 [(Prog.av b)]<|fun k=>.b 2 15 (!k) .x<|.y fun a:Prog=>.y fun j:Int=>gp 5 12 [(Prog.av b)] (aBc a j)<|.b 13 23 (j != 0) .x<|.y fun c:Bool=>.y fun d:Bool=>.y fun e:Prog=>.y fun f:Bool=>.y fun g:Int=>.y fun i:Int=>.i [rn 4,.reg (.d::.pure (bV c)::.d::.d::.b 28 false::.d::.pure (bV d)::rd 3 (.b 33 false::.d::.d::.pure (Prog.av e)::.pure (bV f)::rd 3 (.b 40 false::.d::.d::.ans (.len (a.nodes.length:Int))::.d::.d::.ans (.len (b.nodes.length:Int))::.d::.pure (nI g)::rd 5 (.b 53 false::.d::.pure (nI i)::rd 3 (.b 58 false::.d::.d::.ans (.len (a.funs.length:Int))::.d::.d::.ans (.len (b.funs.length:Int))::rd 3 (.b 67 false::rd 7 [.b 74 false,.d,.d,.ans (.len (a.cons.length:Int)),.d,.d,.ans (.len (b.cons.length:Int)),.d,.d]))))))] [hA (aM PP 10 [(Prog.av a)] (bV c)),hA ((!c) =false),hA (aM PP 27 [(Prog.av a)] (bV d)),hA ((!d) =false),hA (aM PP 26 [(Prog.av a)] (Prog.av e)),hA (aM PP 16 [(Prog.av a),(Prog.av e)] (bV f)),hA ((!f) =false),hl Node.av a.nodes,hl Node.av b.nodes,hA (aM PP 28 [(Prog.av b)] (nI g)),hA (((a.nodes.length:Int) != (IntKind.i64.wrap ((b.nodes.length:Int) + (IntKind.i64.wrap (2*g))))) =false),hA (aM PP 28 [(Prog.av a)] (nI i)),hA ((i != 0) =false),hl cC a.funs,hl cC b.funs,hA (((a.funs.length:Int) != (b.funs.length:Int)) =false),hA ((a.main != b.main) =false),hl Con.av a.cons,hl Con.av b.cons,.q (p:=(nI ((jN b.nodes).length:Int)) = (nI (b.nodes.length:Int))) (congrArg (int .i64) (aAt _ _)),.q (p:=(nI ((jN b.nodes).length:Int)) = (nI (b.nodes.length:Int))) (congrArg (int .i64) (aAt _ _)),hr (ilst 4 (jN b.nodes) false),hr (ilst 4 (jN b.nodes) false),.q (p:=(nI ((jN a.nodes).length:Int)) = (nI (a.nodes.length:Int))) (congrArg (int .i64) (aAt _ _)),.q (p:=(nI ((jN a.nodes).length:Int)) = (nI (a.nodes.length:Int))) (congrArg (int .i64) (aAt _ _)),hr (ilst 4 (jN a.nodes) false),hr (ilst 4 (jN a.nodes) false),hr (Prog.av a),hr (Prog.av a)]<|.b 0 82 ((a.cons.length:Int) != (b.cons.length:Int)) .x<|.W 9 2 [0,1] (yL b a.nodes a.funs a.main a.cons 0)) k l|>.f m a j n|>.f o c d e f g i p q r s t u v w x y z A B|>.f C tv
def aZy(d:Prog)(a:List Node)(e:List Int)(f:Int)(g:List Con)(b:Int):=tT 0 (yL d a e f g b)<|gl 6 Node.av a<|gd 2 87 (b< (a.length:Int)) (gX Node.av 9 a b<|fun i=>.o (.y fun c:Int=>.y fun j:Node=>.i [rn 5,.reg (rd 4 (.b 98 true::rd 4 (.ans (.idx (cC c))::.d::.ans (.idx (Node.av j))::rd 4 [])))] [hA ((i.op== (7:Int)) =true),hA (0≤ (0:Int)),.a (((i.kids)[(0:Int).toNat]?) =some c) (bC (f:=cC)),hA (0≤c),.a (((a)[c.toNat]?) =some j) (bC (f:=Node.av))]<|.b 0 109 (j.op== (7:Int)) .x<|gw 6 89 (b+ (1:Int))<|.W 3 3 [0,1] (yL d a e f g (b+ (1:Int))))<|.i [rn 5,.reg (rd 4 (.b 98 false::rd 11 []))] [hA ((i.op== (7:Int)) =false)]<|gw 6 89 (b+ (1:Int))<|.W 3 3 [0,1] (yL d a e f g (b+ (1:Int)))) .x
def bDu:=fun a b c d e f g i j k l m n o p q r s t=>aZy a b c d e f|>.t k g l m|>.1 i j n o p q r|>.f s t tv
def bDv:=fun a b c d e f g i j k l m=>aZy a b c d e f|>.t i g j k|>.2 l m tv
theorem aZz (p:Prog)(b c:Bool)(d:aM PP 25 [(Prog.av p)] (bV b))(h1: (!b) =true)(h2:aM PP 11 [] (bV c)) :
  ∀ (w:World) (a:List Value),VRs (embOf w) [(Prog.av p)] a→Calls PP 8 ⟨a⟩ w fun e w'=>e= .returned (.bool c) ∧GrownO w w':=
 fun w a f=>cW [qp d,qp h1,qp h2] [rn 9,pB b,rn 2,bt 15,rn 3,pB c,rn 3] w f
theorem aZA (p:Prog)(b:Bool)(f:Prog)(d:Int)(c:Bool)(h:aM PP 25 [(Prog.av p)] (bV b))(h1: (!b) =false)(h2:aM PP 12 [(Prog.av p)] (aBc f d))(i: (d != (0:Int)) =true)(g:aM PP 11 [] (bV c)) :
  ∀ (w:World) (a:List Value),VRs (embOf w) [(Prog.av p)] a→Calls PP 8 ⟨a⟩ w fun e w'=>e= .returned (.bool c) ∧GrownO w w':=
 fun w a j=>cW [qp h,qp h1,qp h2,qp i,qp g] [rn 9,pB b,rn 2,bf 15,rn 5,.pure (aBc f d),rn 13,bt 23,rn 3,pB c,rn 3] w j
theorem aZB (p:Prog)(a:List Node)(d:List Int)(b:Int)(c:List Con)(v:Int)(n:Bool)(r:Int)(l:Prog)(j:Int)(t h:Prog)(o:Int)(q k u:Bool)(z:decide (v< (a.length:Int)) =false)(h1:aM PP 14 [(.agg [(iN a),(iI d),(nI b),(iC c)])] (.tup [(bV n),(nI r)]))(h2:aM PP 12 [(.agg [(iN a),(iI d),(nI b),(iC c)])] (aBc l j))(B:aM PP 26 [(Prog.av p)] (Prog.av t))(y:aM PP 12 [(Prog.av t)] (aBc h o))(D: (r== (0:Int)) =true)(C:n=true)(A: (j== (0:Int)) =true)(F:aM PP 16 [(Prog.av l),(.agg [(iN a),(iI d),(nI b),(iC c)])] (bV q))(x:q=true)(m: (o== (0:Int)) =true)(s:aM PP 16 [(Prog.av h),(.agg [(iN a),(iI d),(nI b),(iC c)])] (bV k))(i:k=true)(g:aM PP 11 [] (bV u))(hl:LeadsM PP 0 (start PP 8 [(Prog.av p)]).as (yL p a d b c v).as) :
  ∀ (w:World) (f:List Value),VRs (embOf w) [(Prog.av p)] f→Calls PP 8 ⟨f⟩ w fun e w'=>e= .returned (.bool u) ∧GrownO w w':=
 fun w f G=>cL hl [ql Node.av a,qp z,qp h1,qp h2,qp B,qp y,qp D,qp C,qp A,qp F,qp x,qp m,qp s,qp i,qp g] [rn 6,aL a,rn 2,bf 87,rn 5,.pure (.tup [(bV n),(nI r)]),rn 9,.pure (aBc l j),rn 10,.pure (Prog.av t),.pure (aBc h o),rn 12,bt 128,rn 3,bt 131,rn 4,bt 135,rn 2,pB q,rn 2,bt 140,rn 4,bt 144,rn 2,pB k,rn 2,bt 149,pB u,rn 4] w G
theorem aG1 (p:Prog)(q:List XT)(f:jJ p q)(a:eE q 0= [])(c:aD q≤300) :∀ (d i:Nat),i+d=aD q →
  LeadsM PP 0 (yL p (cO q p.main p.cons).nodes (cO q p.main p.cons).funs p.main p.cons (i:Int)).as (yL p (cO q p.main p.cons).nodes (cO q p.main p.cons).funs p.main p.cons ((aD q:Nat) :Int)).as
 | 0,i,h=>by
  obtain rfl:i=aD q:=by omega
  exact LeadsM.refl _
 | d +1,i,h=>by
  have n:=rK q p.main p.cons;obtain⟨x,b⟩ :∃x,(cO q p.main p.cons).nodes[i]?=some x:= ⟨_,kR (by omega)⟩;have r:=aG1 p q f a c d (i+1) (by omega);by_cases e:x.op=7
  · obtain⟨y,z,g,l,m,k⟩ :=aG0 (P:=cO q p.main p.cons) q 0 0 (fun j x b=>by rw [eM];exact b) f a i x b e;exact LeadsM.trans (bDu p _ _ _ _ (i:Int) x y z (by rw [decide_eq_true_iff];omega) (by omega) (by rw [kZ];exact b) (by simpa using e) (by decide) g l m (by simpa using k) (wrap64 (by omega) (by omega))) r
  ·exact LeadsM.trans (bDv p _ _ _ _ (i:Int) x (by rw [decide_eq_true_iff];omega) (by omega) (by rw [kZ];exact b) (by simpa using e) (wrap64 (by omega) (by omega))) r
theorem aNM {p o:Prog}(d:aF o=true)(e:aK o=true)(hc: (dD o).1=true)(hm:o.main=p.main)(c:o.cons=p.cons){ts q:List XT}(f:aN o ts o.funs)(g:ts.map nfT=q)(hz:vU 30 p.cons q=true) :aM PP 12 [Prog.av o] (.tup [Prog.av (cO q p.main p.cons),.int .i64 0]) :=by
 have a:=aK5 d e hc f;obtain⟨m,hr,_,_,_⟩ :=aQY a;have b:=aIr d (I:=NI o (ts.map nfT)) (ts:=ts) aEL aEM (fun _ _=> ⟨f,a,hr⟩);unfold aIq at b;rw [e,hc,c,hm,g,hz]at b;exact b
theorem nShape_calls (p:Prog)(hk:aM PP 11 [] (.bool true)) :
  ∀ (w:World) (c:List Value),VRs (embOf w) [Prog.av p] c→Calls PP 8 ⟨c⟩ w fun e w'=>e= .returned (.bool true) ∧GrownO w w':=by
 have o:=aUV (p:=p);cases g: (aF p&&aK p&& (dD p).1)
 case false=>rw [g]at o;exact aZz p false true o rfl hk
 rw [g]at o;simp only [cP]at g;obtain⟨⟨l,t⟩,hc⟩ :=g;have i:=Fs.of l t;obtain⟨ts,k⟩ :=aX7 i.fine;have b:=aK5 l t hc k;obtain⟨m,hm,j,h,R⟩ :=aQY b;have r:=aIr l (I:=NI p (ts.map nfT)) (ts:=ts) aEL aEM (fun _ _=> ⟨k,b,hm⟩);have Q:aIq p (ts.map nfT) =if vU 30 p.cons (ts.map nfT)then(cO (ts.map nfT) p.main p.cons,0)else(aGy,3) :=by
  unfold aIq;rw [t,hc];rfl
 rw [Q]at r;cases hz:vU 30 p.cons (ts.map nfT)
 case false=>rw [hz]at r;exact aZA p true aGy 3 true o rfl r rfl hk
 rw [hz]at r;have s:=eY k;have f:=zW j.1.wx j.1.sc h;have hsz:=bEf b.1.wx;have O:=aNL l t k;have T:=aA5 l t k;have u:Way p (ts.map nfT) (ts.map nfT) := ⟨by rw [lB];exact s,j.1.wx,j.1.sc,f,hz⟩;have U:Way p (ts.map nfT) ts:= ⟨s,b.1.wx,b.1.sc,rfl,bDm b.1.wx hz⟩;obtain⟨a,y⟩ :=u.fs i;obtain⟨G,Y⟩ :=U.fs i;generalize B:ts.map nfT=q at *;have d:=yK q p.main p.cons;have D:=i.head.1;have K:=rK q p.main p.cons;have C:=aGT q p.main p.cons;have x:=a.head.1;have H:=vT (cO q p.main p.cons);rw [a.sm]at H;have F:=aBS (cO q p.main p.cons) a.sm;rw [a.fo]at F;have W:=aDV a d
 have v:=aQB (cO q p.main p.cons) (by
  obtain⟨S,f2,f3⟩ :=aEL _ j;exact aUU S j.2 (by omega) (by have:=i.fine.fsmall;have:=u.len;omega) (by have:=i.head.2.2.2.2.2.1;omega))
 have X:=aNJ i;have J:=aNJ a;rw [aNL a.sm a.fo d,aGZ q 0 h]at J;have N:IntKind.i64.wrap ((2:Int) * ((cpL p p.nodes:Nat) :Int)) =2* ((cpL p p.nodes:Nat) :Int) :=wrap64 (by omega) (by omega);have Z:IntKind.i64.wrap (((p.nodes.length:Nat) :Int) +2* ((cpL p p.nodes:Nat) :Int)) = ((p.nodes.length:Nat) :Int) +2* ((cpL p p.nodes:Nat) :Int) :=wrap64 (by omega) (by omega);have L: (((cO q p.main p.cons).nodes.length:Nat) :Int) = ((p.nodes.length:Nat) :Int) +2* ((cpL p p.nodes:Nat) :Int) :=by omega
 have st:=aZx p true (cO q p.main p.cons) 0 true true (cO q p.main p.cons) true _ _ o rfl r rfl H rfl F rfl W v rfl X
  (by rw [N,Z,L];simp) J rfl (by rw [C,u.len];simp) (by simp [cO]) (by simp [cO])
 have lp:=aG1 p q j.1.wx h (by omega) (aD q) 0 (by omega);have st:LeadsM PP 0 (start PP 8 [Prog.av p]).as (yL p (cO q p.main p.cons).nodes (cO q p.main p.cons).funs p.main p.cons ((0:Nat) :Int)).as:=Eq.mp aC st;have n:=aK5 a.sm a.fo y d;obtain⟨m2,A,_,_,_⟩ :=aQY n;have z:=aNB a.sm (I:=NI (cO q p.main p.cons) (q.map nfT)) (ts:=q) (q:=q.map nfT) aEL aEM (fun _ _=> ⟨d,n,A⟩);unfold aEH at z;rw [a.fo,y,aA9 h]at z;have c2:=aNM a.sm a.fo y (p:=p) rfl rfl d f hz;have M:=aDV i k;have V:=aNM G.sm G.fo Y (p:=p) rfl rfl (yK ts p.main p.cons) B hz;exact aZB p _ _ _ _ _ true 0 (cO q p.main p.cons) 0 (cO ts p.main p.cons) (cO q p.main p.cons) 0 true true true (by rw [decide_eq_false_iff_not];omega) z c2 M V rfl rfl rfl v rfl rfl v rfl hk (LeadsM.trans st lp)
end
end Go.Hb
