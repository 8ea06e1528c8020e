/-
  OWN WORK (S23, S24, S25, S26, S27, V1, V2, V2r, V2n): a machine on abstract values, its soundness, ways through the text (the ways WRITTEN BY A PROGRAM), plain laws.
-/
import Derived.Test.YtabmpnmmkeieiaaGreatHC
import Derived.RowKit3
set_option linter.unusedVariables false
set_option linter.unusedSimpArgs false
set_option linter.unusedSectionVars false
set_option maxRecDepth 100000
namespace Go.Hb
variable {P :Program}
theorem aB7 {call:bZ}{nt:Nat}{l:List Oper}:∀ {ps:List Plan} {r r':RS},nU P call nt l ps r=some r'→r'.next=r.next+oZ ps
 | [],r,r',h0=>by simp [nU]at h0;subst h0;rfl
 | p ::ps,r,r',h0=>by
  simp only [nU]at h0
  split at h0
  · rename_i r1 hr1
    obtain⟨a,_,c⟩ :=aB6 hr1
    have e1:=aB7 h0
    have e2:=c.next
    rw [e1,e2]
    simp only [oZ]
    cases hk:p.kd<;>simp [hk] <;>omega
  ·cases h0
theorem aQK {call:bZ}{nt:Nat}{ops:Array Oper}{tm:T AV}{h:Hp}{r:RS}(hok: (lU ops).ok=true)
  (h0:nU P call nt (lU ops).ops (lU ops).plans {tm,h:={h with nb:=h.nb+ (lU ops).fresh},stages:=[],s:=0,pend:=[],next:=h.nb,again:=[]}=some r)
  (hch:wT P (r.h::r.stages) r.s r.again) :
  ∃ (R:Nat→RS) (A:Nat→AV),Trace P call ops.toList nt R A∧R 0= {tm,h:={h with nb:=h.nb+ (lU ops).fresh},stages:=[],s:=0,pend:=[],next:=h.nb,again:=[]}∧R ops.toList.length=r:=by
 obtain⟨R,e1,e2,e3⟩ :=aAx h0
 have hlen: (lU ops).plans.length=ops.toList.length:=uZ _ _ _ _
 have hget:∀i o,ops.toList[i]?=some o→ (lU ops).plans[i]?=some (sL ops.toList i o) :=fun i o ho=>by
  have:=aB5 (lT ops.toList []) (fO ops.toList 0) ops.toList 0 i
  rw [ho,Option.map_some,Nat.zero_add]at this
  exact this
 have hstep:∀i,∃a,∀o,ops.toList[i]?=some o→jB (R i).tm nt o.dst a=some (R (i+1)).tm∧RC P call ops.toList (sL ops.toList i o) (R i) (R (i+1)) a:=fun i=>by
  cases ho:ops.toList[i]? with
  |none=>exact⟨.undef,fun o h=>by cases h⟩
  | some o=>
   obtain⟨a,g1,g2⟩ :=aB6 (e3 i _ (hget i o ho))
   exact⟨a,fun o' h=>by cases h;exact⟨g1,g2⟩⟩
 obtain⟨A,hA⟩ :=Classical.axiomOfChoice hstep
 rw [hlen]at e2
 simp only [lU,Bool.and_eq_true]at hok
 obtain⟨⟨⟨⟨h1,h2⟩,h3⟩,h4⟩,h5⟩ :=hok
 refine⟨R,A,⟨fun i o ho=>hA i o ho,h1,h2,fun i o ho e he hb=>?_,by rw [e1],by rw [e1],by rw [e1],by rw [e1],?_,by rw [e2];exact hch⟩,e1,e2⟩
 · have hlt:=sO ho
   obtain⟨g1,g2⟩ :=uY h3 i o ho e he hb
   have hr:∀x,x<ops.size→ (List.range ops.size).getD x 0=x:=fun x hx=>by simp [List.getD_eq_getElem?_getD,hx]
   rw [Nat.zero_add,hr _ g1,hr _ (by simpa using hlt)]at g2
   exact g2
 ·rw [e2,aB7 h0,e1];exact Nat.le_refl _
theorem aOE {tm0:T AV}{dst:Nat→Option Nat}{A:Nat→AV}{D:Nat→Prop}[DecidablePred D](hD:∀k,¬D k)(n t:Nat) :eG tm0 dst A D n t=tm0.at t:=by
 rw [wS (i:=0) (Nat.zero_le n) (fun k _ _ _=>hD k)];rfl
theorem yD {call:bZ}(hc:eW P call){nt:Nat}{ops:Array Oper}{tm:T AV}{h:Hp}{rr:RS}(hok: (lU ops).ok=true)
  (hrr:nU P call nt (lU ops).ops (lU ops).plans {tm,h:={h with nb:=h.nb+ (lU ops).fresh},stages:=[],s:=0,pend:=[],next:=h.nb,again:=[]}=some rr)
  (hch:wT P (rr.h::rr.stages) rr.s rr.again) {E:Emb} {w:World} {tmps:Array Value} (r:Rel E h w.heap) (htm:TR E tm nt tmps)
  (id:Nat) (fn:FuncId) (ds:List Deferred) (kd:CallKind) (ro:Option Nat) (k:List Item) (cs:List Frame) :
  ∃E' w' tmps',Steps P (lone (rf fn tmps (.code (.region id ops true) ::k) ds kd ro) cs w) (lone (rf fn tmps' k ds kd ro) cs w') ∧TR E' rr.tm nt tmps'∧Rel E' (aV rr.h rr.s rr.pend) w'.heap∧Ext E h w E' (aV rr.h rr.s rr.pend) w':=by
 obtain⟨R,A,T,e0,eN⟩ :=aQK hok hrr hch
 have hσ0:cP ops.toList R 0= {h with nb:=h.nb+ (lU ops).fresh}:=by
  have:=T.stage (i:=0) (Nat.zero_le _)
  rw [T.s0]at this
  rw [this,e0]
 have I:Inv P ops.toList nt R A E h w (fun k=> (fun _:Nat=>false) k=true) 0 E {w with drawn:=w.drawn+1} tmps:=by
  refine⟨fun i o _ hd=>by simp at hd,fun i hd=>by simp at hd,fun q e _=>by simp,Nat.zero_le _,?_,by rw [hσ0,e0];exact Nat.le_refl _,?_,htm.1,fun t a ha=>?_,fun f o _ ho hk=>?_,fun f ob p=>?_,fun f ob p=>?_,by rw [e0],fun b o hb hE=>?_,fun f g ob ob' L L' p=>?_⟩
  · rw [hσ0]
    exact⟨Emb.le.refl E,Nat.le_refl _,fun _ _ _=>rfl,fun b o L h1 h2 _=> ⟨b,o,L,h1,h2,rfl⟩,Nat.le_add_right _ _,rfl,rfl,rfl,fun _ _=>rfl,fun _ _=>rfl,fun _ _ e _=>.inl e,fun _ o e _=> ⟨o,e⟩⟩
  ·rw [hσ0];exact r.sub (fun _ _ e=>e) (Nat.le_add_right _ _)
  · rw [aOE (by simp),e0]at ha
    exact htm.2 t a ha
  · have:= (T.id_lt ho hk).1
    rw [e0]at this
    exact r.fresh _ this
  ·have:=p.done;simp at this
  ·have:=p.done;simp at this
  ·rw [hσ0]at hb;exact .inl (r.keys b o hb)
  ·have:=p.done;simp at this
 obtain⟨D',j',E',w',tmps',s1,I',hall⟩ :=aLG (fn:=fn) (ds:=ds) (kd:=kd) (ro:=ro) (k:=k) (cs:=cs) hc T (by rw [e0]) (aDn hok (P.follows .mixedOrders) (w.tape w.drawn (.order fn id))) I
 have hj:j'=rr.s:=by
  rw [←eN,T.sEnd]
  have:=I'.jle
  rcases Nat.lt_or_ge j' (fO ops.toList 0).length with g|g
  · have he: (fO ops.toList 0)[j']?=some ((fO ops.toList 0)[j']) :=List.getElem?_eq_getElem g
    obtain⟨_,h2,_⟩ := (iW ops.toList 0).1 _ _ he
    have:= (I'.eff _ _ he).1 (hall _ (by omega))
    omega
  ·omega
 have hps:∀x ob,(j',x,ob) ∈rr.pend→∃f,Pd P ops.toList R A (fun k=>D' k=true) j' f ob∧xQ ops.toList f=j'∧x= (R f).next:=fun x ob hx=>by
  rw [←eN]at hx
  obtain⟨f,o,h1,h2,h3,h4,h5,h6,h7⟩ :=T.pend_mem _ (Nat.le_refl _) j' x ob hx
  exact⟨f,⟨hall f h1,⟨o,h2,h3,h4,h5⟩,by omega⟩,h6.symm,h7⟩
 obtain⟨p1,p2,_⟩ :=I'.publish T hps
 have hst:cP ops.toList R j'=rr.h:=by rw [hj,←eN];exact T.stage (Nat.le_refl _)
 rw [hst,hj]at p1 p2
 refine⟨E',w',tmps',.head (aTM id) (s1.trans (.one xZ)),⟨I'.size,fun t a ha=>?_⟩,p1,p2⟩
 refine I'.tv t a ?_
 rw [←eN,T.view t _ (Nat.le_refl _)]at ha
 rw [←ha]
 exact sN fun k hk _=> ⟨fun _=>trivial,fun _=>hall k hk⟩
theorem aHe {call:bZ}(hc:eW P call){nt:Nat}{ops:Array Oper}{tm tm':T AV}{h h':Hp}(h0:aCN P call nt ops tm h=some (tm',h')){E:Emb}{w:World}{tmps:Array Value}(r:Rel E h w.heap)(htm:TR E tm nt tmps)
  (id:Nat) (fn:FuncId) (ds:List Deferred) (kd:CallKind) (ro:Option Nat) (k:List Item) (cs:List Frame) :
  ∃E' w' tmps',Steps P (lone (rf fn tmps (.code (.region id ops true) ::k) ds kd ro) cs w) (lone (rf fn tmps' k ds kd ro) cs w') ∧TR E' tm' nt tmps'∧Rel E' h' w'.heap∧Ext E h w E' h' w':=by
 unfold aCN at h0
 simp only at h0
 cases hok: (lU ops).ok with
 |false=>rw [hok]at h0;cases h0
 | true=>
  rw [hok]at h0
  simp only [cond]at h0
  split at h0
  · rename_i rr hrr
    cases hch:rG P (rr.h::rr.stages) rr.s rr.again with
    |false=>rw [hch]at h0;cases h0
    | true=>
     rw [hch]at h0
     simp only [Option.some.injEq,Prod.mk.injEq]at h0
     obtain⟨rfl,rfl⟩ :=h0
     exact yD hc hok hrr (aDo hch) r htm id fn ds kd ro k cs
  ·cases h0
end Go.Hb
namespace Go.Hb
variable {P :Program} {E:Emb} {h h':Hp} {w w':World}
theorem vC {l:Nat}{L:Loop}{ob':Obj}(hl:w.heap[l]?=some (.loop L)) : (setObj l ob').run P w= .ok () (cN w l ob') :=pC hl (fun _ _ _ e=>by cases e)
theorem aAA (r:Rel E h w.heap){l:Nat}{L:Loc}(hE:E l=some L){st pe fn tm nt ps aS bd df}(hl:h.look l=some (.loop st pe fn tm nt ps aS bd df)) :
  ∃tmps Ld,w.heap[L.blk]?=some (.loop {state:=st,pending:=pe,fn,tmps,params:= ⟨ps⟩,assign:=aS,body:=bd,defers:=Ld.blk}) ∧E df=some Ld∧TR E tm nt tmps:=by
 obtain⟨L',g1,g2⟩ :=r.obj _ _ hl
 rw [hE]at g1;cases g1
 exact g2
theorem qS (r:Rel E h w.heap){l:Nat}{L:Loc}(hE:E l=some L){st pe fn tm nt ps aS bd df tmps}{Ld:Loc}(hl:h.look l=some (.loop st pe fn tm nt ps aS bd df))(hd:E df=some Ld)(ht:TR E tm nt tmps)(st':LoopState)(pe':Option Code) :
  Rel E (h.set l (.loop st' pe' fn tm nt ps aS bd df)) (cN w L.blk (.loop {state:=st',pending:=pe',fn,tmps,params:= ⟨ps⟩,assign:=aS,body:=bd,defers:=Ld.blk})).heap ∧
  Ext E h w E (h.set l (.loop st' pe' fn tm nt ps aS bd df)) (cN w L.blk (.loop {state:=st',pending:=pe',fn,tmps,params:= ⟨ps⟩,assign:=aS,body:=bd,defers:=Ld.blk})) :=
 r.setObj (.loop {state:=st',pending:=pe',fn,tmps,params:= ⟨ps⟩,assign:=aS,body:=bd,defers:=Ld.blk}) hl hE rfl rfl (fun H' hH=> ⟨tmps,Ld,hH,hd,ht⟩)
theorem aBq (r:Rel E h w.heap){l:Nat}{L:Loc}(hE:E l=some L){pe fn tm nt ps aS bd df}(hl:h.look l=some (.loop .ready pe fn tm nt ps aS bd df)) :
  ∃w',(Instr.beginRound L.blk).run P w= .ok () w'∧Rel E (h.set l (.loop .busy pe fn tm nt ps aS bd df)) w'.heap∧Ext E h w E (h.set l (.loop .busy pe fn tm nt ps aS bd df)) w':=by
 obtain⟨tmps,Ld,g1,g2,g3⟩ :=aAA r hE hl
 have:=qS r hE hl g2 g3 .busy pe
 exact⟨_,by simp [Instr.beginRound,run_getLoop g1,vC g1],this⟩
theorem vD (r:Rel E h w.heap){l:Nat}{L:Loc}(hE:E l=some L){jump:Option Code}(h0:lE h l jump=some h') :
  ∃w',(Instr.endRound L.blk jump).run P w= .ok (.bool jump.isNone) w'∧Rel E h' w'.heap∧Ext E h w E h' w':=by
 unfold lE at h0
 split at h0
 · rename_i st pe fn tm nt ps aS bd df hl
   cases h0
   obtain⟨tmps,Ld,g1,g2,g3⟩ :=aAA r hE hl
   have:=qS r hE hl g2 g3 (match jump with|none=>.ready|some _=>.done) jump
   refine⟨_,?_,this⟩
   cases jump<;>simp [Instr.endRound,run_getLoop g1,vC g1]
 ·cases h0
theorem aFi (r:Rel E h w.heap){l:Nat}{L:Loc}(hE:E l=some L){st pe fn tm nt ps aS bd df}(hst:st≠ .busy)(hl:h.look l=some (.loop st pe fn tm nt ps aS bd df)) :
  ∃w',(Instr.endLoop L.blk).run P w= .ok pe w'∧Rel E (h.set l (.loop .exhausted pe fn tm nt ps aS bd df)) w'.heap∧Ext E h w E (h.set l (.loop .exhausted pe fn tm nt ps aS bd df)) w':=by
 obtain⟨tmps,Ld,g1,g2,g3⟩ :=aAA r hE hl
 have:=qS r hE hl g2 g3 .exhausted pe
 refine⟨_,?_,this⟩
 cases st<;>first|exact absurd rfl hst|simp [Instr.endLoop,run_getLoop g1,vC g1]
theorem pD (r:Rel E h w.heap){b:Nat}{L:Loc}(hE:E b=some L)(hb:h.look b=some (.defd false)) :
  ∃w',(Instr.takeDeferred L.blk).run P w= .ok [] w'∧Rel E (h.set b (.defd true)) w'.heap∧Ext E h w E (h.set b (.defd true)) w':=by
 obtain⟨L',g1,g2⟩ :=r.obj _ _ hb
 rw [hE]at g1;cases g1
 have:=r.setObj (o':=.defd true) (.deferred none) hb hE rfl rfl (fun H' hH=>hH)
 have g2':w.heap[L.blk]?=some (.deferred (some [])) :=g2
 refine⟨cN w L.blk (.deferred none),?_,this⟩
 have e1: (getObj L.blk).run P w= .ok (.deferred (some [])) w:=by simp [getObj,Sem.run,g2']
 have e2: (setObj L.blk (.deferred none)).run P w= .ok () (cN w L.blk (.deferred none)) :=pC g2' (fun _ _ _ e=>by cases e)
 simp [Instr.takeDeferred,e1,e2]
theorem aDq (r:Rel E h w.heap){fn:FuncId}{tm:T AV}{nt:Nat}{tmps:Array Value}(ht:TR E tm nt tmps)(ps:List Nat)(aS bd:Code) :
  ∃ (L Ld:Loc) (w':World) (E':Emb),(Instr.enterLoop fn tmps ⟨ps⟩ aS bd none).run P w= .ok (L.blk,[{target:=.collected Ld.blk,args:= #[]}]) w'∧E' h.nb=some Ld∧E' (h.nb+1) =some L ∧
   Rel E' ((h.new (.defd false)).new (.loop .ready none fn tm nt ps aS bd h.nb)) w'.heap∧Ext E h w E' ((h.new (.defd false)).new (.loop .ready none fn tm nt ps aS bd h.nb)) w':=by
 obtain⟨r1,x1⟩ :=r.new (.defd false) (.deferred (some [])) 0 (fun _ _ _ _ hH=>hH)
 obtain⟨r2,x2⟩ :=Rel.new (w:={w with heap:=w.heap.push (.deferred (some []))}) r1 (.loop .ready none fn tm nt ps aS bd h.nb)
  (.loop {state:=.ready,pending:=none,fn,tmps,params:= ⟨ps⟩,assign:=aS,body:=bd,defers:=w.heap.size}) 0
  (fun E' H' hle _ hH=> ⟨tmps,⟨w.heap.size,0,0⟩,hH,hle.1 _ _ (Emb.put_same _ _ _),(ht.mono x1.le).mono hle⟩)
 refine⟨⟨(w.heap.push (.deferred (some []))).size,0,0⟩,⟨w.heap.size,0,0⟩,_,_,?_,?_,Emb.put_same _ _ _,r2,x1.trans x2⟩
 · simp [Instr.enterLoop,newObj,Sem.run]
   rfl
 ·exact x2.le.1 _ _ (Emb.put_same _ _ _)
theorem aDr (r:Rel E h w.heap){o:Nat}{Lo:Loc}(hE:E o=some Lo){st pe fn' tm' nt' ps' as' bd' df}(hl:h.look o=some (.loop st pe fn' tm' nt' ps' as' bd' df)){fn:FuncId}{tm:T AV}{nt:Nat}{tmps:Array Value}(ht:TR E tm nt tmps)(ps:List Nat)(aS bd:Code) :
  ∃ (L:Loc) (w':World) (E':Emb),(Instr.enterLoop fn tmps ⟨ps⟩ aS bd (some Lo.blk)).run P w= .ok (L.blk,[]) w'∧E' h.nb=some L ∧
   Rel E' (h.new (.loop .ready none fn tm nt ps aS bd df)) w'.heap∧Ext E h w E' (h.new (.loop .ready none fn tm nt ps aS bd df)) w':=by
 obtain⟨tmps',Ld,g1,g2,g3⟩ :=aAA r hE hl
 obtain⟨r2,x2⟩ :=r.new (.loop .ready none fn tm nt ps aS bd df)
  (.loop {state:=.ready,pending:=none,fn,tmps,params:= ⟨ps⟩,assign:=aS,body:=bd,defers:=Ld.blk}) 0
  (fun E' H' hle _ hH=> ⟨tmps,Ld,hH,hle.1 _ _ g2,ht.mono hle⟩)
 exact⟨_,_,_,by simp [Instr.enterLoop,run_getLoop g1,newObj,Sem.run],Emb.put_same _ _ _,r2,x2⟩
def aFH (tmps:Array Value) :ResultVar→Sem Value
 | .tmp t=>pure (tmps.getD t Go.undef)
 | .cell a t=>do loadVar t (←asAddr (tmps.getD a Go.undef))
theorem aLH (fd:Func)(tmps:Array Value) :results fd tmps= (do let vs ←fd.results.mapM (aFH tmps);pure (if h:vs.size=1 then vs[0]else .tuple vs) :Sem Value) :=by
 unfold results
 rfl
theorem vE {fd:Func}{tm:T AV}{nt:Nat}{tmps:Array Value}(r:Rel E h w.heap)(ht:TR E tm nt tmps){vs:List AV}(h0:lV P h tm fd.results.toList=some vs) :
  ∃cv,(results fd tmps).run P w= .ok cv w∧VR E (aBh vs) cv:=by
 have key :∀ (rs:List ResultVar) (vs:List AV) (acc:Array Value),lV P h tm rs=some vs→∃cvs,(rs.foldlM (fun(bs:Array Value) a=>Functor.map bs.push (aFH tmps a)) acc).run P w= .ok (acc++ (⟨cvs⟩ :Array Value)) w∧VRs E vs cvs:=by
  intro rs
  induction rs with
  |nil=>intro vs acc h0;simp [lV]at h0;subst h0;exact⟨[],by simp,VRs.nil E⟩
  | cons x rs ih=>
   intro vs acc h0
   simp only [lV]at h0
   split at h0
   · rename_i v vs' h1 h2
     cases h0
     have hx:∃cv,(aFH tmps x).run P w= .ok cv w∧VR E v cv:=by
      unfold aNI at h1
      split at h1
      · rename_i t
        obtain⟨cv,g1,g2⟩ :=ht.2 _ _ h1
        exact⟨cv,by simp [aFH,Array.getD_eq_getD_getElem?,g1],g2⟩
      · rename_i a t
        split at h1
        · rename_i b off hb
          obtain⟨cv,g1,g2⟩ :=ht.2 _ _ hb
          simp only [VR]at g2
          obtain⟨L,hL,rfl⟩ :=g2
          obtain⟨cv,k1,k2⟩ :=aB0 r h1 hL
          exact⟨cv,by simp [aFH,Array.getD_eq_getD_getElem?,g1,asAddr,k1],k2⟩
        ·cases h1
     obtain⟨cv,k1,k2⟩ :=hx
     obtain⟨cvs,q1,q2⟩ :=ih vs' (acc.push cv) h2
     refine⟨cv::cvs,?_,VRs.cons k2 q2⟩
     rw [List.foldlM_cons,Sem.run_bind,Sem.run_map,k1]
     simp only [Result.andThen_ok]
     rw [q1]
     congr 1
     apply Array.ext';simp
   ·cases h0
 obtain⟨cvs,k1,k2⟩ :=key _ _ #[] h0
 have hm: (fd.results.mapM (aFH tmps)).run P w= .ok (⟨cvs⟩ :Array Value) w:=by
  rw [Array.mapM_eq_foldlM,←Array.foldlM_toList,k1]
  congr 1
  apply Array.ext';simp
 rw [aLH]
 simp only [Sem.run_bind,hm,Result.andThen_ok,Sem.run_pure]
 refine⟨_,rfl,?_⟩
 have hlen:=k2.length
 unfold aBh
 split
 · rename_i v
   obtain⟨u,us,rfl,g1,g2⟩ :=k2.cons_inv
   rw [g2.nil_inv]
   exact g1
 · rename_i hv
   have:¬ (⟨cvs⟩ :Array Value).size=1:=fun e=>by
    have e':cvs.length=1:=e
    match vs,hlen with
    | [x],_=>exact hv x rfl
    | [],h=>simp [e']at h
    |_::_::_,h=>simp [e']at h
   rw [dif_neg this]
   simp only [VR]
   exact⟨cvs,rfl,k2⟩
theorem CR.noGoexit :∀ {aS:List (AV×Bool)} {ps:List PanicEntry},CR E aS ps→ps.dropWhile (!·.goexit) = []
 | [],_,h=>by simp only [CR]at h;subst h;rfl
 | _::_,_,h=>by
  simp only [CR]at h
  obtain⟨v,ps,rfl,_,h2⟩ :=h
  simp [h2.noGoexit]
theorem aHf {a:AMode}{m:FrameMode}(h0:MR E a m) :MR E (aGQ a) (settle m) :=by
 cases a with
 |run=>simp only [MR]at h0;subst h0;exact rfl
 |ret=>simp only [MR]at h0;subst h0;exact rfl
 | pan chain=>
  simp only [MR]at h0
  obtain⟨ps,rfl,h1⟩ :=h0
  cases chain with
  |nil=>simp only [CR]at h1;subst h1;exact⟨[],rfl,by simp [CR]⟩
  | cons x xs=>
   obtain⟨v,b⟩ :=x
   have h1':=h1
   simp only [CR]at h1
   obtain⟨cv,ps',rfl,h2,h3⟩ :=h1
   cases b with
   |true=>simp only [aGQ,settle,h3.noGoexit];exact rfl
   |false=>exact⟨_,rfl,h1'⟩
theorem vF {a:AFrame}{c:Frame}(f:FR E a c){vs:List (AV×Bool)}{ps:List PanicEntry}(hv:CR E vs ps) :FR E (a.raise vs) (c.raise ps) :=by
 unfold AFrame.raise Frame.raise
 have hm:=f.mode
 cases hma:a.mode with
 |run=>rw [hma]at hm;simp only [MR]at hm;rw [hm];exact⟨f.fn,f.tm,f.todo,f.defers,⟨ps,rfl,hv⟩,f.kind,f.round⟩
 |ret=>rw [hma]at hm;simp only [MR]at hm;rw [hm];exact⟨f.fn,f.tm,f.todo,f.defers,⟨ps,rfl,hv⟩,f.kind,f.round⟩
 | pan chain=>
  rw [hma]at hm;simp only [MR]at hm
  obtain⟨qs,h1,h2⟩ :=hm
  rw [h1]
  exact⟨f.fn,f.tm,f.todo,f.defers,⟨_,rfl,hv.append h2⟩,f.kind,f.round⟩
theorem sP (id:Nat) :∀ {k k':List AItem} {ck:List Item},nE id k=some k'→IRs E k ck→∃ck',exitTo id ck=some ck'∧IRs E k' ck'
 | [],_,_,h,_=>by simp [nE]at h
 | i ::k,k',ck,h,r=>by
  obtain⟨ci,ck0,rfl,h1,h2⟩ :=r.cons_inv
  cases i<;>simp only [nE]at h<;>simp only [IR]at h1
  case inBlock id'=>
   subst h1
   rw [bW]at h
   simp only [exitTo]
   by_cases e:id'=id
   · simp only [e,decide_true,cond,Option.some.injEq]at h
     subst h
     exact⟨ck0,by simp [e],h2⟩
   · simp only [e,decide_false,cond]at h
     obtain⟨ck',g1,g2⟩ :=sP id h h2
     exact⟨ck',by simp [e,g1],g2⟩
  all_goals
   obtain⟨ck',g1,g2⟩ :=sP id h h2
   refine⟨ck',?_,g2⟩
   first
    | (subst h1;simpa [exitTo]using g1)
    | (obtain⟨L,_,rfl⟩ :=h1;simpa [exitTo]using g1)
    | (obtain⟨rfl,_⟩ :=h1;simpa [exitTo]using g1)
theorem qA (id:Nat) :∀ {k:List AItem} {ck:List Item},nE id k=none→IRs E k ck→exitTo id ck=none
 | [],_,_,r=>by rw [r.nil_inv];rfl
 | i ::k,ck,h,r=>by
  obtain⟨ci,ck0,rfl,h1,h2⟩ :=r.cons_inv
  cases i<;>simp only [nE]at h<;>simp only [IR]at h1
  case inBlock id'=>
   subst h1
   rw [bW]at h
   simp only [exitTo]
   by_cases e:id'=id
   ·simp only [e,decide_true,cond]at h;cases h
   · simp only [e,decide_false,cond]at h
     simp [e,qA id h h2]
  all_goals
   have g1:=qA id h h2
   first
    | (subst h1;simpa [exitTo]using g1)
    | (obtain⟨L,_,rfl⟩ :=h1;simpa [exitTo]using g1)
    | (obtain⟨rfl,_⟩ :=h1;simpa [exitTo]using g1)
theorem sQ (l:Nat) :∀ {k k':List AItem} {ck:List Item},nF l k=some k'→IRs E k ck→∃ck',gotoIn l ck=some ck'∧IRs E k' ck'
 | [],_,_,h,_=>by simp [nF]at h
 | i ::k,k',ck,h,r=>by
  obtain⟨ci,ck0,rfl,h1,h2⟩ :=r.cons_inv
  cases i<;>simp only [nF]at h<;>simp only [IR]at h1
  case inScope body=>
   subst h1
   simp only [gotoIn]
   split at h
   · rename_i rest hr
     cases h
     exact⟨.code rest:: .inScope body::ck0,by simp [hr],IRs.cons rfl (IRs.cons rfl h2)⟩
   · rename_i hr
     obtain⟨ck',g1,g2⟩ :=sQ l h h2
     exact⟨ck',by simp [hr,g1],g2⟩
  all_goals
   obtain⟨ck',g1,g2⟩ :=sQ l h h2
   refine⟨ck',?_,g2⟩
   first
    | (subst h1;simpa [gotoIn]using g1)
    | (obtain⟨L,_,rfl⟩ :=h1;simpa [gotoIn]using g1)
    | (obtain⟨rfl,_⟩ :=h1;simpa [gotoIn]using g1)
theorem qB (l:Nat) :∀ {k:List AItem} {ck:List Item},nF l k=none→IRs E k ck→gotoIn l ck=none
 | [],_,_,r=>by rw [r.nil_inv];rfl
 | i ::k,ck,h,r=>by
  obtain⟨ci,ck0,rfl,h1,h2⟩ :=r.cons_inv
  cases i<;>simp only [nF]at h<;>simp only [IR]at h1
  case inScope body=>
   subst h1
   simp only [gotoIn]
   split at h
   ·cases h
   · rename_i hr
     simp [hr,qB l h h2]
  all_goals
   have g1:=qB l h h2
   first
    | (subst h1;simpa [gotoIn]using g1)
    | (obtain⟨L,_,rfl⟩ :=h1;simpa [gotoIn]using g1)
    | (obtain⟨rfl,_⟩ :=h1;simpa [gotoIn]using g1)
end Go.Hb
namespace Go.Hb
variable {P :Program} {E:Emb} {h h':Hp} {w w':World}
def Goes (P:Program)(E:Emb)(h:Hp)(fr:Frame)(cs:List Frame)(w:World)(base:List Frame)(s':AS) :Prop:=
 ∃E' fr' cs' w',Steps P (lone fr (cs++base) w) (lone fr' (cs'++base) w') ∧FR E' s'.fr fr'∧FRs E' s'.cs cs'∧Rel E' s'.h w'.heap∧Ext E h w E' s'.h w'
section
variable {fn :FuncId} {tmps:Array Value} {ds:List Deferred} {kd:CallKind} {ro:Option Nat} {k:List Item} {ccs base:List Frame} {todo:List Item}
theorem drop_cons {α:Type}{l:List α}{i:Nat}{x:α}{xs:List α}(h:x::xs=l.drop i) :l[i]?=some x∧xs=l.drop (i+1) :=by
 have h1: (l.drop i)[0]?=some x:=by rw [←h];rfl
 rw [List.getElem?_drop,Nat.add_zero]at h1
 refine⟨h1,?_⟩
 have:l.drop (i+1) = (l.drop i).drop 1:=by rw [List.drop_drop]
 rw [this,←h];rfl
theorem aAB {all:Array Oper}{i:Nat}{o:Oper}{rest:List Oper}{it:Item}(h0:IR E (.ops all i (o::rest)) it) :
  it= .inRegion all (i::List.range' (i+1) rest.length) ∧all[i]?=some o∧IR E (.ops all (Nat.succ i) rest) (.inRegion all (List.range' (i+1) rest.length)) :=by
 simp only [IR]at h0
 obtain⟨rfl,h1⟩ :=h0
 obtain⟨g1,g2⟩ :=drop_cons h1
 exact⟨by simp [List.range'_succ],by rw [←Array.getElem?_toList];exact g1,rfl,g2⟩
theorem lZ {c c':AFrame}{v:AV}{cc:Frame}{cv:Value}(h0:c.finish v=some c')(f:FR E c cc)(hv:VR E v cv) :FR E c' (cc.finish cv) :=by
 unfold AFrame.finish at h0
 have ft:=f.todo
 split at h0
 · rename_i all i o rest k ht
   split at h0
   · rename_i tm' htm
     cases h0
     rw [ht]at ft
     obtain⟨it,k',e,h1,h2⟩ :=ft.cons_inv
     obtain⟨rfl,g1,g2⟩ :=aAB h1
     have hp:=yT f.tm htm hv
     unfold Frame.finish
     rw [e]
     simp only [g1,Option.bind_some]
     refine⟨f.fn,?_,IRs.cons g2 h2,f.defers,f.mode,f.kind,f.round⟩
     unfold yS at hp
     exact hp
   ·cases h0
 · rename_i l k ht
   cases h0
   rw [ht]at ft
   obtain⟨it,k',e,h1,h2⟩ :=ft.cons_inv
   simp only [IR]at h1
   obtain⟨L,g1,rfl⟩ :=h1
   unfold Frame.finish
   rw [e]
   exact⟨f.fn,f.tm,IRs.cons ⟨L,g1,rfl⟩ h2,f.defers,f.mode,f.kind,f.round⟩
 ·cases h0
theorem yE {fr:AFrame}{cfr:Frame}(hk:cfr.kind=fr.kind){cs:List AFrame}(fs:FRs E cs ccs){v:AV}{cv:Value}{s':AS}(h0:aAj fr cs v h=some s')(hv:VR E v cv) :
  ∃c cs1,ccs=c::cs1∧FR E s'.fr (handed cfr c cv) ∧FRs E s'.cs cs1∧s'.h=h∧ (cfr.kind= .normal∨cfr.kind= .deferred) :=by
 unfold aAj at h0
 split at h0
 ·cases h0
 · rename_i c cs
   obtain⟨cc,cs1,rfl,f1,f2⟩ :=fs.cons_inv
   refine⟨cc,cs1,rfl,?_⟩
   split at h0
   · rename_i hkd
     split at h0
     · rename_i c' hc'
       cases h0
       refine⟨?_,f2,rfl,.inl (by rw [hk,hkd])⟩
       simp only [handed,hk,hkd]
       exact lZ hc' f1 hv
     ·cases h0
   · rename_i hkd
     cases h0
     refine⟨?_,f2,rfl,.inr (by rw [hk,hkd])⟩
     simp only [handed,hk,hkd]
     exact⟨f1.fn,f1.tm,f1.todo,f1.defers,aHf f1.mode,f1.kind,f1.round⟩
   ·cases h0
theorem Goes.one {s':AS}{fr fr':Frame}{cs':List Frame}{E':Emb}(h1:step P (lone fr (ccs++base) w) = .next (lone fr' (cs'++base) w'))(f:FR E' s'.fr fr')(fs:FRs E' s'.cs cs')(r:Rel E' s'.h w'.heap)(x:Ext E h w E' s'.h w') :Goes P E h fr ccs w base s':=
 ⟨E',fr',cs',w',.one h1,f,fs,r,x⟩
theorem sR {l:Nat}(hr:RR E (some l) ro) :∃L,E l=some L∧ro=some L.blk:=by simpa only [RR]using hr
theorem oK {fr:AFrame}{cs:List AFrame}{jump:Option Code}{s':AS}(r:Rel E h w.heap)(f:FR E fr (rf fn tmps todo ds kd ro))(fs:FRs E cs ccs)(h0:qM fr cs h jump=some s')
  (ht: (todo= [] ∧jump=none) ∨ (∃k,todo= .code .ret::k∧jump=some .ret) ∨ (∃id k,todo= .code (.exit id) ::k∧jump=some (.exit id) ∧exitTo id k=none) ∨ (∃t k,todo= .code (.goto t) ::k∧jump=some (.goto t) ∧gotoIn t k=none)) :
  Goes P E h (rf fn tmps todo ds kd ro) ccs w base s':=by
 unfold qM at h0
 have fr0:=f.round
 split at h0
 · rename_i hro
   rw [hro]at fr0
   simp only [RR]at fr0
   subst fr0
   have fin:∀td,(step P (lone (rf fn tmps td ds kd none) (ccs++base) w) = .next (lone {rf fn tmps td ds kd none with mode:=.returning} (ccs++base) w)) →td=todo→some ⟨{fr with mode:=.ret},cs,h⟩ =some s'→Goes P E h (rf fn tmps todo ds kd none) ccs w base s':=fun td hs e h0=>by
    cases h0
    subst e
    exact Goes.one hs ⟨f.fn,f.tm,f.todo,f.defers,rfl,f.kind,by rw [show({fr with mode:=AMode.ret}:AFrame).roundOf=fr.roundOf from rfl,hro];exact rfl⟩ fs r (Ext.refl _ _ _)
   split at h0
   · rcases ht with⟨e,_⟩ | ⟨_,_,e⟩ | ⟨_,_,_,e,_⟩ | ⟨_,_,_,e,_⟩
     ·exact fin [] aWs e.symm h0
     ·cases e
     ·cases e
     ·cases e
   · rcases ht with⟨_,e⟩ | ⟨k,e,_⟩ | ⟨_,_,_,e,_⟩ | ⟨_,_,_,e,_⟩
     ·cases e
     ·exact fin _ aWt e.symm h0
     ·cases e
     ·cases e
   ·cases h0
 · rename_i l hro
   rw [hro]at fr0
   obtain⟨L,hE,rfl⟩ :=sR fr0
   split at h0
   · rename_i h1 hh1
     obtain⟨w1,g1,g2,g3⟩ :=vD (P:=P) r hE hh1
     have hv:VR E (.bool jump.isNone) (.bool jump.isNone) :=by simp only [VR]
     obtain⟨c,cs1,rfl,k1,k2,k3,k4⟩ :=yE (cfr:=rf fn tmps todo ds kd (some L.blk)) f.kind fs h0 hv
     refine Goes.one (cs':=cs1) (uU k4 ht g1) k1 k2 (by rw [k3];exact g2) (by rw [k3];exact g3)
   ·cases h0
theorem FR.run {fr:AFrame}{c:Frame}(f:FR E fr c)(hm:fr.mode= .run) :c=rf c.fn c.tmps c.todo c.defers c.kind c.roundOf:=by
 have:=f.mode
 rw [hm]at this
 simp only [MR]at this
 cases c
 simp only at this
 subst this
 rfl
theorem iH {fr:AFrame}{cs:List AFrame}{s':AS}{td:List AItem}{td':List Item}(r:Rel E h w.heap)(f:FR E fr (rf fn tmps todo ds kd ro))(hm:fr.mode= .run)(fs:FRs E cs ccs)(h0:toC fr td cs h=some s')(ht:IRs E td td')
  (h1:step P (lone (rf fn tmps todo ds kd ro) (ccs++base) w) = .next (lone (rf fn tmps td' ds kd ro) (ccs++base) w)) :Goes P E h (rf fn tmps todo ds kd ro) ccs w base s':=by
 unfold toC at h0
 cases h0
 exact Goes.one h1 ⟨f.fn,f.tm,ht,f.defers,f.mode,f.kind,f.round⟩ fs r (Ext.refl _ _ _)
theorem aOF (r:Rel E h w.heap){fr:AFrame}{cs:List AFrame}{call:bZ}{all:Array Oper}{i:Nat}{o:Oper}{rest:List Oper}{ak:List AItem}(hm:fr.mode= .run)(htd:fr.todo= .ops all i (o::rest) ::ak)
  (f:FR E fr (rf fn tmps todo ds kd ro)) (fs:FRs E cs ccs) {s':AS} (h0:lW P call ⟨fr,cs,h⟩ =some s') :Goes P E h (rf fn tmps todo ds kd ro) ccs w base s':=by
 unfold lW at h0
 simp only [hm,htd]at h0
 have ft:=f.todo
 rw [htd]at ft
 obtain⟨it,k,e,i1,i2⟩ :=ft.cons_inv
 simp only at e
 subst e
 obtain⟨rfl,ho,i3⟩ :=aAB i1
 have hd: (all[i]?).bind (·.dst) =o.dst:=by rw [ho];rfl
 have hwant:∀ {b},bY fr.tm all.toList o=some b→Region.wanted o (yielded all tmps) =b:=fun h=>qQ f.tm h
 have hρ:=TR.reads (E:=E) f.tm fn (.inRegion all (i::List.range' (i+1) rest.length) ::k) ds kd ro (· ∈o.op.operands)
 have put:∀ {E':Emb} {tm':T AV} {v:AV} {cv:Value},E.le E'→jB fr.tm fr.nt o.dst v=some tm'→VR E' v cv→TR E' tm' fr.nt (match o.dst with|some d=>tmps.setIfInBounds d cv|none=>tmps) :=fun hle hp hv=>by
  have:=yT (f.tm.mono hle) hp hv
  unfold yS at this
  exact this
 split at h0
 ·cases h0
 · rename_i hw
   split at h0
   · rename_i tm' htm
     cases h0
     refine Goes.one (xY ho (hwant hw)) ⟨f.fn,?_,IRs.cons i3 i2,f.defers,by simp only [hm];exact rfl,f.kind,f.round⟩ fs r (Ext.refl _ _ _)
     simp only [Frame.finish,hd]
     exact put (Emb.le.refl E) htm (rH E)
   ·cases h0
 · rename_i hw
   split at h0
   · rename_i v h2 hop
     split at h0
     · rename_i tm' htm
       cases h0
       have hnd:=aFG hop
       obtain⟨E',w',cv,g1,g2,g3,g4⟩ :=lH r hρ hop
       have ff:FR E' {fr with tm:=tm',todo:=.ops all (Nat.succ i) rest::ak,mode:=.run} ((rf fn tmps (.inRegion all (i::List.range' (i+1) rest.length) ::k) ds kd ro).finish cv) :=by
        simp only [Frame.finish,hd]
        exact⟨f.fn,put g4.le htm g2,IRs.cons (i3.mono g4.le) (i2.mono g4.le),f.defers.mono g4.le,by simp only [hm];exact rfl,f.kind,f.round.mono g4.le⟩
       rcases g1 with g1| ⟨g1,rfl⟩
       ·exact Goes.one (sK ho (hwant hw) (.inr hnd) g1) ff (fs.mono g4.le) g3 g4
       ·exact Goes.one (aDk ho (hwant hw) (.inr hnd) g1) ff (fs.mono g4.le) g3 g4
     ·cases h0
   · rename_i c hop
     unfold qN at h0
     split at h0
     · rename_i g hg
       cases h0
       have hnd:=yV hop
       obtain⟨nx,G,g1,g2,g3⟩ :=qR r hg (lH r hρ hop)
       have fss:FRs E (fr::cs) (rf fn tmps (.inRegion all (i::List.range' (i+1) rest.length) ::k) ds kd ro::ccs) :=FRs.cons f fs
       rcases g2 with⟨f',args,rfl,rfl⟩ | ⟨l,f',t,aS,bd,rfl,rfl⟩
       ·exact Goes.one (yR ho (hwant hw) (.inr hnd) g1) g3 fss r (Ext.refl _ _ _)
       ·exact Goes.one (aDl ho (hwant hw) (.inr hnd) g1) g3 fss r (Ext.refl _ _ _)
     ·cases h0
   · rename_i d hop
     split at h0
     · rename_i tm' hro htm
       cases h0
       have fr0:=f.round
       rw [hro]at fr0
       simp only [RR]at fr0
       subst fr0
       obtain⟨cd,g1,g2⟩ :=lH r hρ hop
       refine Goes.one (aIK ho (hwant hw) g1) ?_ fs r (Ext.refl _ _ _)
       simp only [Frame.finish,hd]
       exact⟨f.fn,put (Emb.le.refl E) htm (rH E),IRs.cons i3 i2,DRs.cons g2 f.defers,by simp only [hm];exact rfl,f.kind,by simp only [hro];exact rfl⟩
     ·cases h0
   · rename_i v hop
     cases h0
     obtain⟨cv,g1,g2⟩ :=lH r hρ hop
     have hnd:∀c,o.op≠ .defer c:=by
      intro c hc
      unfold lD at hop
      split at hop
      ·rename_i r hr;cases hop;obtain⟨d,e⟩ :=yU c hc hr;cases e
      ·rw [aBo c hc]at hop;cases hop
     exact Goes.one (aIL ho (hwant hw) (.inr hnd) g1) (vF f (ps:=[{v:=cv,recovered:=false}]) ⟨cv,[],rfl,g2,rfl⟩) fs r (Ext.refl _ _ _)
   · rename_i hop
     split at h0
     · rename_i c cs' hro hkd
       have fr0:=f.round
       rw [hro]at fr0
       simp only [RR]at fr0
       subst fr0
       have fk:=f.kind
       rw [hkd]at fk
       simp only at fk
       subst fk
       obtain⟨cc,ccs',rfl,f1,f2⟩ :=fs.cons_inv
       have g1: (execOp (rf fn tmps (.inRegion all (i::List.range' (i+1) rest.length) ::k) ds .deferred none).eval o).run P w= .ok .recover w:=lH r hρ hop
       have hst:=aFf (P:=P) (k:=k) (ds:=ds) (cs:=ccs'++base) (fn:=fn) (rest:=List.range' (i+1) rest.length) (tmps:=tmps) ho (hwant hw) (c:=cc) g1
       have fm:=f1.mode
       split at h0
       · rename_i v older hcm
         split at h0
         · rename_i tm' htm
           cases h0
           rw [hcm]at fm
           simp only [MR,CR]at fm
           obtain⟨ps,e1,cv,ps',rfl,e2,e3⟩ :=fm
           rw [e1]at hst
           simp only at hst
           refine Goes.one (cs':={cc with mode:=.panicking ({v:=cv,recovered:=true}::ps')}::ccs') hst ?_ (FRs.cons ⟨f1.fn,f1.tm,f1.todo,f1.defers,⟨_,rfl,cv,ps',rfl,e2,e3⟩,f1.kind,f1.round⟩ f2) r (Ext.refl _ _ _)
           simp only [Frame.finish,hd]
           exact⟨f.fn,put (Emb.le.refl E) htm e2,IRs.cons i3 i2,f.defers,by simp only [hm];exact rfl,f.kind,f.round⟩
         ·cases h0
       · rename_i hno
         split at h0
         · rename_i tm' htm
           cases h0
           have hst':step P (lone (rf fn tmps (.inRegion all (i::List.range' (i+1) rest.length) ::k) ds .deferred none) (cc:: (ccs'++base)) w) = .next (lone ((rf fn tmps (.inRegion all (i::List.range' (i+1) rest.length) ::k) ds .deferred none).finish .nilIface) (cc:: (ccs'++base)) w) :=by
            rw [hst]
            split
            · rename_i v older hcm
              exfalso
              cases hma:c.mode with
              |run=>rw [hma]at fm;simp only [MR]at fm;rw [fm]at hcm;cases hcm
              |ret=>rw [hma]at fm;simp only [MR]at fm;rw [fm]at hcm;cases hcm
              | pan chain=>
               rw [hma]at fm
               simp only [MR]at fm
               obtain⟨ps,e1,e2⟩ :=fm
               rw [e1]at hcm
               cases hcm
               cases chain with
               |nil=>simp only [CR]at e2;cases e2
               | cons x xs=>
                obtain⟨xv,xb⟩ :=x
                simp only [CR]at e2
                obtain⟨cv,ps',e2,_,_⟩ :=e2
                cases e2
                exact hno _ _ hma
            ·rfl
           refine Goes.one (cs':=cc::ccs') hst' ?_ (FRs.cons f1 f2) r (Ext.refl _ _ _)
           simp only [Frame.finish,hd]
           exact⟨f.fn,put (Emb.le.refl E) htm (by simp only [VR]),IRs.cons i3 i2,f.defers,by simp only [hm];exact rfl,f.kind,f.round⟩
         ·cases h0
     ·cases h0
   ·cases h0
end
end Go.Hb
namespace Go.Hb
variable {P :Program} {E:Emb} {h h':Hp} {w w':World}
section
variable {fn :FuncId} {tmps:Array Value} {ds:List Deferred} {kd:CallKind} {ro:Option Nat} {ccs base:List Frame} {todo:List Item}
theorem aQL (r:Rel E h w.heap){fr:AFrame}{cs:List AFrame}{call:bZ}{g:Operand}{ps:Array Nat}{assign body:Code}{ak:List AItem}(hm:fr.mode= .run)(htd:fr.todo= .code (.rangeFunc g ps assign body) ::ak)
  (f:FR E fr (rf fn tmps todo ds kd ro)) (fs:FRs E cs ccs) {s':AS} (h0:lW P call ⟨fr,cs,h⟩ =some s') :Goes P E h (rf fn tmps todo ds kd ro) ccs w base s':=by
 unfold lW at h0
 simp only [hm,htd]at h0
 have ft:=f.todo
 rw [htd]at ft
 obtain⟨it,k,e,i1,i2⟩ :=ft.cons_inv
 simp only at e
 subst e
 simp only [IR]at i1
 subst i1
 have hfn:fn=fr.fn:=f.fn
 split at h0
 ·cases h0
 · rename_i fv hfv
   have fr0:=f.round
   have res:∀ {E':Emb} {h2:Hp} {w2:World} {L:Loc} {la:Nat} {mark:List Deferred} {todo':List AItem} {defers':List ADef} {c:AIn},Ext E h w E' h2 w2→Rel E' h2 w2.heap→E' la=some L →
     (Instr.enterLoop fn tmps ps assign body ro).run P w= .ok (L.blk,mark) w2→sA P fv [.yield la] =some (.call c) →DRs E' defers' (mark++ds) →IRs E' todo' (.inRangeFunc L.blk::k) →
     qN P {fr with todo:=todo',defers:=defers'} cs h2 c=some s'→Goes P E h (rf fn tmps (.code (.rangeFunc g ps assign body) ::k) ds kd ro) ccs w base s':=by
    intro E' h2 w2 L la mark todo' defers' c x r2 hL he hc hds htd' h0
    unfold qN at h0
    split at h0
    · rename_i G hG
      cases h0
      have hρ:=TR.reads (E:=E') (f.tm.mono x.le) fn (.inRangeFunc L.blk::k) (mark++ds) kd ro (fun _=>True)
      obtain⟨d,k1,k2⟩ :=aAp (P:=P) (cargs:=[.func (.yield L.blk) #[] #[]]) r2 hc (hρ g trivial _ hfv) (VRs.cons (by simp only [VR];exact⟨L,hL,rfl⟩) (VRs.nil E'))
      obtain⟨nx,CG,g1,g2,g3⟩ :=qR r2 hG k2
      have hres: (resolve (rf fn tmps (.inRangeFunc L.blk::k) (mark++ds) kd ro).eval {callee:=.value g,args:= #[.const (.func (.yield L.blk) #[] #[])],argTypes:= #[]} 0).run P w2= .ok d w2:=by
       simp only [resolve]
       rw [show(#[Operand.const (.func (.yield L.blk) #[] #[])] :Array Operand).map (rf fn tmps (.inRangeFunc L.blk::k) (mark++ds) kd ro).eval= ⟨[.func (.yield L.blk) #[] #[]]⟩from by simp [Frame.eval]]
       exact k1
      exact Goes.one (cs':=rf fn tmps (.inRangeFunc L.blk::k) (mark++ds) kd ro::ccs) (aG8 he hres g1 g2) g3
       (FRs.cons ⟨f.fn,f.tm.mono x.le,htd',hds,by simp only [hm];exact rfl,f.kind,f.round.mono x.le⟩ (fs.mono x.le)) r2 x
    ·cases h0
   have hps:ps= ⟨ps.toList⟩ :=rfl
   split at h0
   · rename_i hro
     rw [hro]at fr0
     simp only [RR]at fr0
     subst fr0
     obtain⟨L,Ld,w2,E',e1,e2,e3,r2,x⟩ :=aDq (P:=P) r f.tm ps.toList assign body (fn:=fn)
     split at h0
     · rename_i c hc
       refine res (E':=E') (w2:=w2) (L:=L) (la:=h.nb+1) (mark:=[{target:=.collected Ld.blk,args:= #[]}]) (todo':=.inRF (h.nb+1) ::ak) (defers':=.col h.nb::fr.defers) (h2:= (h.new (.defd false)).new (.loop .ready none fr.fn fr.tm fr.nt ps.toList assign body h.nb)) (c:=c) ?_ ?_ e3 e1 hc ?_ ?_ ?_
       ·rw [←hfn];exact x
       ·rw [←hfn];exact r2
       ·exact DRs.cons ⟨Ld,e2,rfl⟩ (f.defers.mono x.le)
       ·exact IRs.cons ⟨L,e3,rfl⟩ (i2.mono x.le)
       ·simp only [hm];exact h0
     ·cases h0
   · rename_i o hro
     rw [hro]at fr0
     obtain⟨Lo,hEo,rfl⟩ :=sR fr0
     split at h0
     · rename_i st pe fn' tm' nt' ps' as' bd' df hl
       obtain⟨L,w2,E',e1,e3,r2,x⟩ :=aDr (P:=P) r hEo hl f.tm ps.toList assign body (fn:=fn)
       split at h0
       · rename_i c hc
         refine res (E':=E') (w2:=w2) (L:=L) (la:=h.nb) (mark:=[]) (todo':=.inRF h.nb::ak) (defers':=fr.defers) (h2:=h.new (.loop .ready none fr.fn fr.tm fr.nt ps.toList assign body df)) (c:=c) ?_ ?_ e3 e1 hc ?_ ?_ ?_
         ·rw [←hfn];exact x
         ·rw [←hfn];exact r2
         ·exact f.defers.mono x.le
         ·exact IRs.cons ⟨L,e3,rfl⟩ (i2.mono x.le)
         ·simpa [hm,hro]using h0
       ·cases h0
     ·cases h0
theorem vG {call:bZ}(hc:eW P call){s s':AS}(h0:lW P call s=some s'){fr:Frame}(f:FR E s.fr fr)(fs:FRs E s.cs ccs)(r:Rel E s.h w.heap)(base:List Frame) :Goes P E s.h fr ccs w base s':=by
 obtain⟨afr,cs,h⟩ :=s
 simp only at f fs r ⊢
 cases hm:afr.mode with
 | run =>
  have e:=f.run hm
  generalize fr.fn=fn at e
  generalize fr.tmps=tmps at e
  generalize fr.todo=todo at e
  generalize fr.defers=ds at e
  generalize fr.kind=kd at e
  generalize fr.roundOf=ro at e
  subst e
  have ft:=f.todo
  simp only at ft
  cases htd:afr.todo with
  | nil=>
   rw [htd]at ft
   have e:=ft.nil_inv
   subst e
   unfold lW at h0
   simp only [hm,htd]at h0
   exact oK r f fs h0 (.inl ⟨rfl,rfl⟩)
  | cons it ak=>
   rw [htd]at ft
   obtain⟨ci,ck,e,i1,i2⟩ :=ft.cons_inv
   subst e
   have h00:=h0
   unfold lW at h0
   simp only [hm,htd]at h0
   cases it with
   | code c=>
    simp only [IR]at i1
    subst i1
    cases c with
    |ret=>exact oK r f fs h0 (.inr (.inl ⟨ck,rfl,rfl⟩))
    |skip=>exact iH r f hm fs h0 i2 aTK
    |label l=>exact iH r f hm fs h0 i2 (aQD l)
    |seq a b=>exact iH r f hm fs h0 (IRs.cons rfl (IRs.cons rfl i2)) (aWr a b)
    | cond c x y=>
     simp only at h0
     have hρ:=TR.reads (E:=E) f.tm fn (.code (.cond c x y) ::ck) ds kd ro (fun _=>True)
     split at h0
     · rename_i hcv
       have:=hρ c trivial _ hcv
       simp only [VR]at this
       exact iH r f hm fs h0 (IRs.cons rfl i2) (aNJ c x y true this)
     · rename_i hcv
       have:=hρ c trivial _ hcv
       simp only [VR]at this
       exact iH r f hm fs h0 (IRs.cons rfl i2) (aNJ c x y false this)
     ·cases h0
    |block id c=>exact iH r f hm fs h0 (IRs.cons rfl (IRs.cons rfl i2)) (aQE id c)
    |loop c=>exact iH r f hm fs h0 (IRs.cons rfl (IRs.cons rfl i2)) (aTL c)
    |scope c=>exact iH r f hm fs h0 (IRs.cons rfl (IRs.cons rfl i2)) (aQF c)
    | exit id=>
     simp only at h0
     split at h0
     · rename_i k' hk'
       obtain⟨ck',g1,g2⟩ :=sP id hk' i2
       exact iH r f hm fs h0 g2 (aTN id g1)
     · rename_i hk'
       exact oK r f fs h0 (.inr (.inr (.inl ⟨id,ck,rfl,rfl,qA id hk' i2⟩)))
    | goto l=>
     simp only at h0
     split at h0
     · rename_i k' hk'
       obtain⟨ck',g1,g2⟩ :=sQ l hk' i2
       exact iH r f hm fs h0 g2 (aTO l g1)
     · rename_i hk'
       exact oK r f fs h0 (.inr (.inr (.inr ⟨l,ck,rfl,rfl,qB l hk' i2⟩)))
    | region id ops draw=>
     cases draw with
     | false=>
      refine iH r f hm fs h0 (IRs.cons ⟨?_,rfl⟩ i2) (aOB id)
      rw [List.range_eq_range'];simp
     | true=>
      simp only at h0
      split at h0
      · rename_i tm' h' hr
        cases h0
        obtain⟨E',w',tmps',s1,t1,r1,x1⟩ :=aHe hc hr r f.tm id fn ds kd ro ck (ccs++base)
        exact⟨E',_,ccs,w',s1,⟨f.fn,t1,i2.mono x1.le,f.defers.mono x1.le,by simp only [hm];exact rfl,f.kind,f.round.mono x1.le⟩,fs.mono x1.le,r1,x1⟩
      ·cases h0
    |rangeFunc g ps assign body=>exact aQL r hm htd f fs h00
    |refuse _=>cases h0
   |inBlock id=>simp only [IR]at i1;subst i1;exact iH r f hm fs h0 i2 (aLB id)
   |inLoop c=>simp only [IR]at i1;subst i1;exact iH r f hm fs h0 (IRs.cons rfl (IRs.cons rfl i2)) (aOA c)
   |inScope c=>simp only [IR]at i1;subst i1;exact iH r f hm fs h0 i2 (aLC c)
   | ops all i rest=>
    cases rest with
    | nil=>
     simp only [IR]at i1
     obtain⟨rfl,_⟩ :=i1
     exact iH r f hm fs h0 i2 (by simpa using xZ)
    |cons o rest=>exact aOF r hm htd f fs h00
   |inRF l=>cases h0
   | endRF l=>
    simp only [IR]at i1
    obtain⟨L,hE,rfl⟩ :=i1
    simp only at h0
    split at h0
    ·cases h0
    · rename_i st pe fn' tm' nt' ps' as' bd' df hno hl
      cases h0
      obtain⟨w',g1,g2,g3⟩ :=aFi (P:=P) r hE (fun e=>hno e) hl
      refine Goes.one (cs':=ccs) (aQG g1) ⟨f.fn,f.tm,?_,f.defers,by simp only [hm];exact rfl,f.kind,f.round⟩ fs g2 g3
      cases pe with
      |none=>simpa using i2
      |some c=>simpa using IRs.cons (E:=E) (a:=.code c) (i:=.code c) rfl i2
    ·cases h0
   | beginRound=>
    simp only [IR]at i1
    subst i1
    simp only at h0
    split at h0
    ·cases h0
    · rename_i l hro
      have fr0:=f.round
      rw [hro]at fr0
      obtain⟨L,hE,rfl⟩ :=sR fr0
      split at h0
      · rename_i pe fn' tm' nt' ps' as' bd' df hl
        cases h0
        obtain⟨w',g1,g2,g3⟩ :=aBq (P:=P) r hE hl
        exact Goes.one (cs':=ccs) (aFh g1) ⟨f.fn,f.tm,i2,f.defers,by simp only [hm];exact rfl,f.kind,by simp only [hro];exact⟨L,hE,rfl⟩⟩ fs g2 g3
      ·cases h0
 | ret =>
  have fm:=f.mode
  rw [hm]at fm
  simp only [MR]at fm
  have hnr:fr.mode≠ .run:=by rw [fm];intro e;cases e
  have fd:=f.defers
  unfold lW at h0
  simp only [hm]at h0
  split at h0
  · rename_i b dl hdl
    rw [hdl]at fd
    obtain⟨d,ds',e,d1,d2⟩ :=fd.cons_inv
    obtain⟨L,hE,rfl⟩ :=d1
    split at h0
    · rename_i hb
      cases h0
      obtain⟨w',g1,g2,g3⟩ :=pD (P:=P) r hE hb
      exact Goes.one (cs':=ccs) (aAv hnr e g1) ⟨f.fn,f.tm,f.todo,d2,by simp only [hm];exact fm,f.kind,f.round⟩ fs g2 g3
    ·cases h0
  · rename_i g args dl hdl
    rw [hdl]at fd
    obtain⟨d,ds',e,d1,d2⟩ :=fd.cons_inv
    obtain⟨cap,a,rfl,ha⟩ :=d1
    cases hcl:eF P g with
    |false=>rw [hcl]at h0;cases h0
    | true=>
     rw [hcl]at h0
     simp only [cond]at h0
     split at h0
     · rename_i G hG
       cases h0
       have:=jV hG ha
       refine Goes.one (cs':={fr with defers:=ds'}::ccs) (aB4 hnr e hcl) ?_ (FRs.cons ⟨f.fn,f.tm,f.todo,d2,by simp only [hm];exact fm,f.kind,f.round⟩ fs) r (Ext.refl _ _ _)
       rw [show(⟨a⟩ :Array Value) ++ ⟨cap⟩ = ⟨a++cap⟩by apply Array.ext';simp]
       exact this
     ·cases h0
  · rename_i hdl
    rw [hdl]at fd
    have e:=fd.nil_inv
    split at h0
    ·cases h0
    · rename_i fdd hfd
      split at h0
      · rename_i vs hvs
        obtain⟨cv,g1,g2⟩ :=vE r f.tm hvs
        obtain⟨c,cs1,rfl,k1,k2,k3,k4⟩ :=yE f.kind fs h0 g2
        refine Goes.one (cs':=cs1) (aIM fm e (by rw [f.fn];exact hfd) g1 k4) k1 k2 (by rw [k3];exact r) (by rw [k3];exact Ext.refl _ _ _)
      ·cases h0
 | pan chain=>
  have fm:=f.mode
  rw [hm]at fm
  simp only [MR]at fm
  obtain⟨ps,fm,hcr⟩ :=fm
  have hnr:fr.mode≠ .run:=by rw [fm];intro e;cases e
  have fd:=f.defers
  unfold lW at h0
  simp only [hm]at h0
  split at h0
  · rename_i b dl hdl
    rw [hdl]at fd
    obtain⟨d,ds',e,d1,d2⟩ :=fd.cons_inv
    obtain⟨L,hE,rfl⟩ :=d1
    split at h0
    · rename_i hb
      cases h0
      obtain⟨w',g1,g2,g3⟩ :=pD (P:=P) r hE hb
      exact Goes.one (cs':=ccs) (aAv hnr e g1) ⟨f.fn,f.tm,f.todo,d2,by simp only [hm];exact⟨ps,fm,hcr⟩,f.kind,f.round⟩ fs g2 g3
    ·cases h0
  · rename_i g args dl hdl
    rw [hdl]at fd
    obtain⟨d,ds',e,d1,d2⟩ :=fd.cons_inv
    obtain⟨cap,a,rfl,ha⟩ :=d1
    cases hcl:eF P g with
    |false=>rw [hcl]at h0;cases h0
    | true=>
     rw [hcl]at h0
     simp only [cond]at h0
     split at h0
     · rename_i G hG
       cases h0
       have:=jV hG ha
       refine Goes.one (cs':={fr with defers:=ds'}::ccs) (aB4 hnr e hcl) ?_ (FRs.cons ⟨f.fn,f.tm,f.todo,d2,by simp only [hm];exact⟨ps,fm,hcr⟩,f.kind,f.round⟩ fs) r (Ext.refl _ _ _)
       rw [show(⟨a⟩ :Array Value) ++ ⟨cap⟩ = ⟨a++cap⟩by apply Array.ext';simp]
       exact this
     ·cases h0
  · rename_i hdl
    rw [hdl]at fd
    have e:=fd.nil_inv
    split at h0
    · rename_i fdd c cs' hfd
      cases h0
      obtain⟨cc,ccs',rfl,f1,f2⟩ :=fs.cons_inv
      exact Goes.one (cs':=ccs') (aDm fm e (by rw [f.fn];exact hfd)) (vF f1 hcr) f2 r (Ext.refl _ _ _)
    ·cases h0
end
end Go.Hb
namespace Go.Hb
def GrownO (W W':World) :Prop:=W.keptBut W' (fun _=>False) ∧ (∀a:Addr,a.block<W.heap.size→W'.frozen? a=W.frozen? a) ∧W.heap.size≤W'.heap.size
variable {P :Program} {E:Emb} {h h':Hp} {w w':World}
theorem aB8 {s:AS}{v:AV}{h':Hp}(h0:aBY P s=some (v,h')){fr:Frame}(f:FR E s.fr fr)(r:Rel E s.h w.heap)(cl:Frame)(base:List Frame) :
  s.cs= [] ∧∃cv w',step P (lone fr (cl::base) w) = .next (lone (cl.finish cv) base w') ∧VR E v cv∧Rel E h' w'.heap∧Ext E s.h w E h' w':=by
 obtain⟨afr,cs,h⟩ :=s
 unfold aBY at h0
 simp only at h0 f r ⊢
 split at h0
 · rename_i hk
   refine⟨rfl,?_⟩
   have fk:=f.kind
   rw [hk]at fk
   have fm:=f.mode
   have fd:=f.defers
   have fro:=f.round
   have ft:=f.todo
   have rnd:∀ {l:Nat} {jump:Option Code} {h1:Hp} {b:Bool},afr.mode= .run→afr.roundOf=some l→lE h l jump=some h1→b=jump.isNone →
     ((fr.todo= [] ∧jump=none) ∨ (∃k,fr.todo= .code .ret::k∧jump=some .ret) ∨ (∃id k,fr.todo= .code (.exit id) ::k∧jump=some (.exit id) ∧exitTo id k=none) ∨ (∃t k,fr.todo= .code (.goto t) ::k∧jump=some (.goto t) ∧gotoIn t k=none)) →
     some (AV.bool b,h1) =some (v,h') →∃cv w',step P (lone fr (cl::base) w) = .next (lone (cl.finish cv) base w') ∧VR E v cv∧Rel E h' w'.heap∧Ext E h w E h' w':=by
    intro l jump h1 b hm hl he hb ht h0
    cases h0
    rw [hl]at fro
    obtain⟨L,hE,e3⟩ :=sR fro
    have e:=f.run hm
    rw [e3,fk]at e
    obtain⟨w1,g1,g2,g3⟩ :=vD (P:=P) r hE he
    rw [e]
    refine⟨.bool jump.isNone,w1,?_,by rw [hb];simp only [VR],g2,g3⟩
    exact uU (.inl rfl) ht g1
   split at h0
   · rename_i hm hro
     split at h0
     · rename_i fdd hdl hfd
       rw [hm]at fm
       simp only [MR]at fm
       rw [hdl]at fd
       split at h0
       · rename_i vs hvs
         cases h0
         obtain⟨cv,g1,g2⟩ :=vE r f.tm hvs
         refine⟨cv,w,?_,g2,r,Ext.refl _ _ _⟩
         rw [aIM fm fd.nil_inv (by rw [f.fn];exact hfd) g1 (.inl fk)]
         simp only [handed,fk]
       ·cases h0
     ·cases h0
   · rename_i l hm hro htd
     rw [htd]at ft
     split at h0
     · rename_i h1 he
       exact rnd hm hro he rfl (.inl ⟨ft.nil_inv,rfl⟩) h0
     ·cases h0
   · rename_i l k hm hro htd
     rw [htd]at ft
     obtain⟨ci,ck,e,i1,i2⟩ :=ft.cons_inv
     simp only [IR]at i1
     subst i1
     split at h0
     · rename_i h1 he
       exact rnd hm hro he rfl (.inr (.inl ⟨ck,e,rfl⟩)) h0
     ·cases h0
   · rename_i l id k hm hro htd
     rw [htd]at ft
     obtain⟨ci,ck,e,i1,i2⟩ :=ft.cons_inv
     simp only [IR]at i1
     subst i1
     split at h0
     ·cases h0
     · rename_i hx
       split at h0
       · rename_i h1 he
         exact rnd hm hro he rfl (.inr (.inr (.inl ⟨id,ck,e,rfl,qA id hx i2⟩))) h0
       ·cases h0
   · rename_i l t k hm hro htd
     rw [htd]at ft
     obtain⟨ci,ck,e,i1,i2⟩ :=ft.cons_inv
     simp only [IR]at i1
     subst i1
     split at h0
     ·cases h0
     · rename_i hx
       split at h0
       · rename_i h1 he
         exact rnd hm hro he rfl (.inr (.inr (.inr ⟨t,ck,e,rfl,qB t hx i2⟩))) h0
       ·cases h0
   ·cases h0
 ·cases h0
theorem aDs {call:bZ}(hc:eW P call) :∀ {n:Nat} {s:AS} {v:AV} {h':Hp},aQw P call n s=some (v,h') →∀ (E:Emb) (w:World) (fr:Frame) (ccs:List Frame),FR E s.fr fr→FRs E s.cs ccs→Rel E s.h w.heap→∀cl base,
  ∃cv w' E',Steps P (lone fr (ccs++cl::base) w) (lone (cl.finish cv) base w') ∧VR E' v cv∧Rel E' h' w'.heap∧Ext E s.h w E' h' w'
 |0,s,v,h',h0=>by simp [aQw]at h0
 | n + 1,s,v,h',h0=>by
  intro E w fr ccs f fs r cl base
  simp only [aQw]at h0
  split at h0
  · rename_i x hx
    cases h0
    obtain⟨e1,cv,w',g1,g2,g3,g4⟩ :=aB8 hx f r cl base
    rw [e1]at fs
    rw [fs.nil_inv]
    exact⟨cv,w',E,.one g1,g2,g3,g4⟩
  · split at h0
    · rename_i s' hs'
      obtain⟨E1,fr1,cs1,w1,s1,f1,fs1,r1,x1⟩ :=vG hc hs' f fs r (cl::base)
      obtain⟨cv,w',E',s2,g2,g3,g4⟩ :=aDs hc h0 E1 w1 fr1 cs1 f1 fs1 r1 cl base
      exact⟨cv,w',E',s1.trans s2,g2,g3,x1.trans g4⟩
    ·cases h0
theorem aAC (n:Nat) :∀d,eW P (aC7 P n d)
 |0=>fun _ c h v h' h0=>by simp [aC7]at h0
 | d +1=>fun _ c h v h' h0=>by
  simp only [aC7]at h0
  split at h0
  · rename_i g hg
    refine⟨g,hg,fun E w G r f hk cl base=>?_⟩
    obtain⟨cv,w',E',s1,g2,g3,g4⟩ :=aDs (aAC n d) h0 E w G [] f rfl r cl base
    exact⟨cv,w',E',s1,g2,g3,g4⟩
  ·cases h0
noncomputable def aBr (P:Program)(call:bZ) :Nat→AS→Option AS
 |0,s=>some s
 | n+1,s=>match lW P call s with
  |some s'=>aBr P call n s'
  |none=>none
def Leads (P:Program)(s s':AS) :Prop:=∀ (E:Emb) (fr:Frame) (ccs:List Frame) (w:World) (base:List Frame),FR E s.fr fr→FRs E s.cs ccs→Rel E s.h w.heap→Goes P E s.h fr ccs w base s'
theorem Leads.trans {a b c:AS}(h1:Leads P a b)(h2:Leads P b c) :Leads P a c:=fun E fr ccs w base f fs r=>by
 obtain⟨E1,fr1,cs1,w1,s1,f1,fs1,r1,x1⟩ :=h1 E fr ccs w base f fs r
 obtain⟨E2,fr2,cs2,w2,s2,f2,fs2,r2,x2⟩ :=h2 E1 fr1 cs1 w1 base f1 fs1 r1
 exact⟨E2,fr2,cs2,w2,s1.trans s2,f2,fs2,r2,x1.trans x2⟩
theorem Leads.refl (a:AS) :Leads P a a:=fun E fr ccs w base f fs r=> ⟨E,fr,ccs,w,Steps.refl _ _,f,fs,r,Ext.refl _ _ _⟩
theorem vH {call:bZ}(hc:eW P call) :∀ {n:Nat} {s s':AS},aBr P call n s=some s'→Leads P s s'
 |0,s,s',h0=>by simp [aBr]at h0;subst h0;exact Leads.refl s
 | n +1,s,s',h0=>by
  simp only [aBr]at h0
  split at h0
  · rename_i s1 hs1
    exact Leads.trans (fun E fr ccs w base f fs r=>vG hc hs1 f fs r base) (vH hc h0)
  ·cases h0
theorem yW (call:bZ) :∀ (n:Nat) (s:AS),aAk P call n s=aBr P call n s
 |0,_=>rfl
 | n+1,s=>by
  show(match aQx P call s with|some s'=>aAk P call n s'|none=>none) = (match lW P call s with|some s'=>aBr P call n s'|none=>none)
  rw [aQy P call s]
  cases lW P call s with
  |none=>rfl
  |some s'=>exact yW call n s'
end Go.Hb
namespace Go.Hb
variable {P :Program}
structure ExtM (m:Nat) (E:Emb) (h:Hp) (w:World) (E':Emb) (h':Hp) (w':World) :Prop where
 low:∀b,b<m→E' b=E b
 imm:∀k C,E.imm k=some C→E'.imm k=some C
 size:w.heap.size≤w'.heap.size
 keep:∀i,i<w.heap.size→ (∀b o L,h.look b=some o→E b=some L→L.blk≠i) →w'.heap[i]?=w.heap[i]?
 own:∀b' o' L',h'.look b'=some o'→E' b'=some L'→L'.blk<w.heap.size→∃b o L,h.look b=some o∧E b=some L∧L.blk=L'.blk
 nb:m≤h'.nb
 os:w'.os=w.os
 tape:w'.tape=w.tape
 output:w'.output=w.output
 froz:∀a,a.block<w.heap.size→w'.frozen? a=w.frozen? a
 immo:∀k C,E'.imm k=some C→k<w.heap.size→E.imm k=some C∨∃b o L,h.look b=some o∧E b=some L∧L.blk=k
 keys:∀b o,h'.look b=some o→b<m→∃o0,h.look b=some o0
theorem Ext.toM {E E':Emb}{h h':Hp}{w w':World}(x:Ext E h w E' h' w'){m:Nat}(hm:m≤h.nb) :ExtM m E h w E' h' w':=
 ⟨fun b hb=>x.low b (Nat.lt_of_lt_of_le hb hm),x.le.2,x.size,x.keep,x.own,Nat.le_trans hm x.nb,x.os,x.tape,x.output,x.froz,x.immo,fun b o e hb=>x.keys b o e (Nat.lt_of_lt_of_le hb hm)⟩
theorem ExtM.le {E E':Emb}{h h':Hp}{w w':World}(x:ExtM h.nb E h w E' h' w')(r:Rel E h w.heap) :E.le E':=
 ⟨fun b L e=>by rw [x.low b (r.nb_gt e)];exact e,x.imm⟩
theorem ExtM.toExt {E E':Emb}{h h':Hp}{w w':World}(x:ExtM h.nb E h w E' h' w')(r:Rel E h w.heap) :Ext E h w E' h' w':=
 ⟨x.le r,x.size,x.keep,x.own,x.nb,x.os,x.tape,x.output,x.low,x.froz,x.immo,x.keys⟩
theorem ExtM.trans {m:Nat}{E1 E2 E3:Emb}{h1 h2 h3:Hp}{w1 w2 w3:World}(a:ExtM m E1 h1 w1 E2 h2 w2)(b:ExtM m E2 h2 w2 E3 h3 w3) :ExtM m E1 h1 w1 E3 h3 w3 where
 low:=fun x hx=> (b.low x hx).trans (a.low x hx)
 imm:=fun k C e=>b.imm k C (a.imm k C e)
 size:=Nat.le_trans a.size b.size
 keep:=fun i hi hn=>by
  rw [b.keep i (Nat.lt_of_lt_of_le hi a.size) fun x o L hx hE hb=>by
   subst hb
   obtain⟨b0,o0,L0,g1,g2,g3⟩ :=a.own x o L hx hE hi
   exact hn b0 o0 L0 g1 g2 g3]
  exact a.keep i hi hn
 own:=fun x o L hx hE hlt=>by
  obtain⟨b2,o2,L2,g1,g2,g3⟩ :=b.own x o L hx hE (Nat.lt_of_lt_of_le hlt a.size)
  obtain⟨b1,o1,L1,k1,k2,k3⟩ :=a.own b2 o2 L2 g1 g2 (by rw [g3];exact hlt)
  exact⟨b1,o1,L1,k1,k2,k3.trans g3⟩
 nb:=b.nb
 os:=b.os.trans a.os
 tape:=b.tape.trans a.tape
 output:=b.output.trans a.output
 froz:=fun x hx=> (b.froz x (Nat.lt_of_lt_of_le hx a.size)).trans (a.froz x hx)
 immo:=fun k C e hk=>by
  rcases b.immo k C e (Nat.lt_of_lt_of_le hk a.size)with g| ⟨x,o,L,g1,g2,g3⟩
  ·exact a.immo k C g hk
  ·subst g3;exact .inr (a.own x o L g1 g2 hk)
 keys:=fun x o e hx=>by
  obtain⟨o1,e1⟩ :=b.keys x o e hx
  exact a.keys x o1 e1 hx
theorem ExtM.refl {m:Nat}{E:Emb}{h:Hp}{w:World}(hm:m≤h.nb) :ExtM m E h w E h w:= (Ext.refl E h w).toM hm
def LeadsM (P:Program)(m:Nat)(s s':AS) :Prop:=m≤s.h.nb→∀ (E:Emb) (fr:Frame) (ccs:List Frame) (w:World) (base:List Frame),FR E s.fr fr→FRs E s.cs ccs→Rel E s.h w.heap →
 ∃E' fr' cs' w',Steps P (lone fr (ccs++base) w) (lone fr' (cs'++base) w') ∧FR E' s'.fr fr'∧FRs E' s'.cs cs'∧Rel E' s'.h w'.heap∧ExtM m E s.h w E' s'.h w'
theorem LeadsM.trans {m:Nat}{a b c:AS}(h1:LeadsM P m a b)(h2:LeadsM P m b c) :LeadsM P m a c:=fun hm E fr ccs w base f fs r=>by
 obtain⟨E1,fr1,cs1,w1,s1,f1,fs1,r1,x1⟩ :=h1 hm E fr ccs w base f fs r
 obtain⟨E2,fr2,cs2,w2,s2,f2,fs2,r2,x2⟩ :=h2 x1.nb E1 fr1 cs1 w1 base f1 fs1 r1
 exact⟨E2,fr2,cs2,w2,s1.trans s2,f2,fs2,r2,x1.trans x2⟩
theorem LeadsM.refl {m:Nat}(a:AS) :LeadsM P m a a:=fun hm E fr ccs w _ f fs r=> ⟨E,fr,ccs,w,Steps.refl _ _,f,fs,r,ExtM.refl hm⟩
theorem Leads.toM {m:Nat}{a b:AS}(h:Leads P a b) :LeadsM P m a b:=fun hm E fr ccs w base f fs r=>by
 obtain⟨E1,fr1,cs1,w1,s1,f1,fs1,r1,x1⟩ :=h E fr ccs w base f fs r
 exact⟨E1,fr1,cs1,w1,s1,f1,fs1,r1,x1.toM hm⟩
def aBs :bZ:=fun _ _ _=>none
theorem cX :eW P aBs:=fun _ _ _ _ _ e=>by cases e
theorem dZ {call:bZ}(hc:eW P call){m:Nat}{s s':AS}(h0:lW P call s=some s') :LeadsM P m s s':=
 Leads.toM fun _ _ _ _ base f fs r=>vG hc h0 f fs r base
inductive Res where
 |ret (v:AV)
 |pan (chain:List (AV×Bool))
def Got (E:Emb)(cl:Frame) :Res→Frame→Prop
 | .ret v,cl'=>∃cv,cl'=cl.finish cv∧VR E v cv
 | .pan ch,cl'=>∃ps,cl'=cl.raise ps∧CR E ch ps
def Ends (P:Program)(m:Nat)(s:AS)(res:Res)(h':Hp) :Prop:=m≤s.h.nb→∀ (E:Emb) (fr:Frame) (ccs:List Frame) (w:World),FR E s.fr fr→FRs E s.cs ccs→Rel E s.h w.heap→∀ (cl:Frame) (base:List Frame),
 ∃cl' w' E',Steps P (lone fr (ccs++cl::base) w) (lone cl' base w') ∧Got E' cl res cl'∧Rel E' h' w'.heap∧ExtM m E s.h w E' h' w'
theorem LeadsM.ends {m:Nat}{a b:AS}{res:Res}{h':Hp}(h1:LeadsM P m a b)(h2:Ends P m b res h') :Ends P m a res h':=fun hm E fr ccs w f fs r cl base=>by
 obtain⟨E1,fr1,cs1,w1,s1,f1,fs1,r1,x1⟩ :=h1 hm E fr ccs w (cl::base) f fs r
 obtain⟨cl',w2,E2,s2,g2,r2,x2⟩ :=h2 x1.nb E1 fr1 cs1 w1 f1 fs1 r1 cl base
 exact⟨cl',w2,E2,s1.trans s2,g2,r2,x1.trans x2⟩
theorem aDt {m:Nat}{s:AS}{v:AV}{h':Hp}(h0:aBY P s=some (v,h')) :Ends P m s (.ret v) h':=fun hm E fr ccs w f fs r cl base=>by
 obtain⟨e1,cv,w',g1,g2,g3,g4⟩ :=aB8 h0 f r cl base
 rw [e1]at fs
 rw [fs.nil_inv]
 exact⟨_,w',E,.one g1,⟨cv,rfl,g2⟩,g3,g4.toM hm⟩
def Spec (P:Program)(c:AIn)(h:Hp)(res:Res)(h':Hp) :Prop:=∃g,gC P h c=some g∧Ends P h.nb ⟨g,[],h⟩ res h'
def aE (P:Program)(f:Nat)(args:List AV)(v:AV) :Prop:=∀h,Spec P (.enter f args) h (.ret v) h
def aWv (P:Program)(f:Nat)(args:List AV)(ch:List (AV×Bool)) :Prop:=∀h,Spec P (.enter f args) h (.pan ch) h
theorem Spec.sound {c:AIn}{h h':Hp}{v:AV}(s:Spec P c h (.ret v) h') :∃g,gC P h c=some g ∧
  ∀ (E:Emb) (w:World) (G:Frame),Rel E h w.heap→FR E g G→G.kind= .normal→∀cl base,∃cv w' E',Steps P (lone G (cl::base) w) (lone (cl.finish cv) base w') ∧VR E' v cv∧Rel E' h' w'.heap∧Ext E h w E' h' w':=by
 obtain⟨g,hg,he⟩ :=s
 refine⟨g,hg,fun E w G r f _ cl base=>?_⟩
 obtain⟨cl',w',E',s1,⟨cv,rfl,g2⟩,r2,x2⟩ :=he (Nat.le_refl _) E G [] w f rfl r cl base
 exact⟨cv,w',E',s1,g2,r2,x2.toExt r⟩
theorem yF {m:Nat}{s:AS}{g fr2 fr3:AFrame}{cs:List AFrame}{h2 h3:Hp}{v:AV}(h0:LeadsM P m s ⟨g,fr2::cs,h2⟩)(h1:Ends P h2.nb ⟨g,[],h2⟩ (.ret v) h3)(hf:fr2.finish v=some fr3) :LeadsM P m s ⟨fr3,cs,h3⟩ :=fun hm E fr ccs w base f fs r=>by
 obtain⟨E1,fr1,cs1,w1,s1,f1,fs1,r1,x1⟩ :=h0 hm E fr ccs w base f fs r
 obtain⟨c1,ccs1,rfl,k1,k2⟩ :=fs1.cons_inv
 obtain⟨cl',w2,E2,s2,⟨cv,rfl,g2⟩,r2,x2⟩ :=h1 (Nat.le_refl _) E1 fr1 [] w1 f1 rfl r1 c1 (ccs1++base)
 have hle:=x2.le r1
 exact⟨E2,_,ccs1,w2,s1.trans s2,lZ hf (k1.mono hle) g2,k2.mono hle,r2,x1.trans ((x2.toExt r1).toM x1.nb)⟩
theorem vI {m:Nat}{s:AS}{g fr2:AFrame}{cs:List AFrame}{h2 h3:Hp}{ch:List (AV×Bool)}(h0:LeadsM P m s ⟨g,fr2::cs,h2⟩)(h1:Ends P h2.nb ⟨g,[],h2⟩ (.pan ch) h3) :LeadsM P m s ⟨fr2.raise ch,cs,h3⟩ :=fun hm E fr ccs w base f fs r=>by
 obtain⟨E1,fr1,cs1,w1,s1,f1,fs1,r1,x1⟩ :=h0 hm E fr ccs w base f fs r
 obtain⟨c1,ccs1,rfl,k1,k2⟩ :=fs1.cons_inv
 obtain⟨cl',w2,E2,s2,⟨ps,rfl,g2⟩,r2,x2⟩ :=h1 (Nat.le_refl _) E1 fr1 [] w1 f1 rfl r1 c1 (ccs1++base)
 have hle:=x2.le r1
 exact⟨E2,_,ccs1,w2,s1.trans s2,vF (k1.mono hle) g2,k2.mono hle,r2,x1.trans ((x2.toExt r1).toM x1.nb)⟩
def vJ (m:Nat)(h h':Hp)(v v':AV) :Prop:=∀ (E:Emb) (w:World),Rel E h w.heap→∃E',E.le E'∧Rel E' h' w.heap∧ExtM m E h w E' h' w∧∀cv,VR E v cv→VR E' v' cv
theorem kS {m:Nat}{fr:AFrame}{cs:List AFrame}{h h':Hp}{j:Nat}{v v':AV}(hj:fr.tm.at j=some v)(ht:m≤h.nb→vJ m h h' v v') :LeadsM P m ⟨fr,cs,h⟩ ⟨{fr with tm:=fr.tm.put j v'},cs,h'⟩ :=fun hm E cf ccs w base f fs r=>by
 obtain⟨E',hle,r',x',hv⟩ :=ht hm E w r
 refine⟨E',cf,ccs,w,Steps.refl _ _,⟨f.fn,⟨f.tm.1,fun t a e=>?_⟩,f.todo.mono hle,f.defers.mono hle,f.mode.mono hle,f.kind,f.round.mono hle⟩,fs.mono hle,r',x'⟩
 rw [T.at_put]at e
 split at e
 · rename_i ht;cases e;subst ht
   obtain⟨cv,g1,g2⟩ :=f.tm.2 _ _ hj
   exact⟨cv,g1,hv cv g2⟩
 · obtain⟨cv,g1,g2⟩ :=f.tm.2 t a e
   exact⟨cv,g1,g2.mono hle⟩
theorem aFI {m:Nat}{h:Hp}{v v':AV}(hv:∀E cv,VR E v cv→VR E v' cv) :m≤h.nb→vJ m h h v v':=fun hm E w r=> ⟨E,Emb.le.refl E,r,ExtM.refl hm,hv E⟩
theorem aFJ {m:Nat}{h:Hp}(e:Nat) :m≤h.nb→vJ m h (h.new (.lst e [])) .nils (.gl h.nb e 0 0 false) :=fun hm E w r=>by
 obtain⟨q1,q2⟩ :=aFE r e
 refine⟨E,Emb.le.refl E,q1,q2.toM hm,fun cv hv=>?_⟩
 simp only [VR]at hv ⊢
 exact .inl ⟨trivial,none,hv⟩
theorem aDu {m:Nat}{h:Hp}(e:Nat) :m≤h.nb→vJ m h h .nils (.ilst e [] true) :=aFI fun E cv hv=>by
 simp only [VR]at hv ⊢
 exact⟨[],VRs.nil _,fun _ hu=>by(cases hu),.inl ⟨rfl,none,0,hv,fun _=>rfl,fun _=>rfl⟩⟩
mutual
def AV.frz (b:Nat)(ys:List AV) :AV→AV
 | .gl b' e off len ex=>bif Nat.beq b' b then .ilst e ys ex else .gl b' e off len ex
 | .func f fs cs=>.func f (AV.frzL b ys fs) (AV.frzL b ys cs)
 | .meth n r=>.meth n (AV.frz b ys r)
 | .via t f p r=>.via t f p (AV.frz b ys r)
 | .iface t v=>.iface t (AV.frz b ys v)
 | .agg vs=>.agg (AV.frzL b ys vs)
 | .tup vs=>.tup (AV.frzL b ys vs)
 |v=>v
def AV.frzL (b:Nat)(ys:List AV) :List AV→List AV
 | [] =>[]
 |a::aS=>AV.frz b ys a::AV.frzL b ys aS
end
mutual
def AV.frzOk (b e:Nat)(xs ys:List AV) :AV→Prop
 | .gl b' e' off len _=>b'=b→e'=e∧off+len≤xs.length∧ (xs.drop off).take len=ys
 | .func _ fs cs=>AV.frzOkL b e xs ys fs∧AV.frzOkL b e xs ys cs
 | .meth _ r=>AV.frzOk b e xs ys r
 | .via _ _ _ r=>AV.frzOk b e xs ys r
 | .iface _ v=>AV.frzOk b e xs ys v
 | .agg vs=>AV.frzOkL b e xs ys vs
 | .tup vs=>AV.frzOkL b e xs ys vs
 |_=>True
def AV.frzOkL (b e:Nat)(xs ys:List AV) :List AV→Prop
 | [] =>True
 |a::aS=>AV.frzOk b e xs ys a∧AV.frzOkL b e xs ys aS
end
mutual
theorem aBt {E E':Emb}(hle:E.le E'){b e:Nat}{xs ys:List AV}(hg:∀off len ex cv,off+len≤xs.length→ (xs.drop off).take len=ys→VR E (.gl b e off len ex) cv→VR E' (.ilst e ys ex) cv) :
  ∀ (v:AV) (cv:Value),AV.frzOk b e xs ys v→VR E v cv→VR E' (AV.frz b ys v) cv
 | .gl b' e' off len ex,cv,k,r=>by
  simp only [AV.frz,bW,cond_eq_ite,decide_eq_true_eq]
  split
  · rename_i hb
    simp only [AV.frzOk]at k
    obtain⟨rfl,k2,k3⟩ :=k hb
    subst hb
    exact hg off len ex cv k2 k3 r
  ·exact r.mono hle
 | .func _ fs cs,cv,k,r=>by
  simp only [AV.frzOk]at k
  simp only [AV.frz,VR]at r ⊢;obtain⟨a,b,h1,h2,h3⟩ :=r;exact⟨a,b,h1,aAD hle hg fs a k.1 h2,aAD hle hg cs b k.2 h3⟩
 | .meth _ a,cv,k,r=>by
  simp only [AV.frzOk]at k
  simp only [AV.frz,VR]at r ⊢;obtain⟨u,h1,h2⟩ :=r;exact⟨u,h1,aBt hle hg a u k h2⟩
 | .via _ _ _ a,cv,k,r=>by
  simp only [AV.frzOk]at k
  simp only [AV.frz,VR]at r ⊢;obtain⟨u,h1,h2⟩ :=r;exact⟨u,h1,aBt hle hg a u k h2⟩
 | .iface _ a,cv,k,r=>by
  simp only [AV.frzOk]at k
  simp only [AV.frz,VR]at r ⊢;obtain⟨u,h1,h2⟩ :=r;exact⟨u,h1,aBt hle hg a u k h2⟩
 | .agg vs,cv,k,r=>by
  simp only [AV.frzOk]at k
  simp only [AV.frz,VR]at r ⊢;obtain⟨u,h1,h2⟩ :=r;exact⟨u,h1,aAD hle hg vs u k h2⟩
 | .tup vs,cv,k,r=>by
  simp only [AV.frzOk]at k
  simp only [AV.frz,VR]at r ⊢;obtain⟨u,h1,h2⟩ :=r;exact⟨u,h1,aAD hle hg vs u k h2⟩
 | .bool _,_,_,r=>r.mono hle
 | .int _ _,_,_,r=>r.mono hle
 | .str _ _,_,_,r=>r.mono hle
 | .ptr _ _,_,_,r=>r.mono hle
 | .nilp,_,_,r=>r.mono hle
 | .slice ..,_,_,r=>r.mono hle
 | .nils,_,_,r=>r.mono hle
 | .map _,_,_,r=>r.mono hle
 | .nilm,_,_,r=>r.mono hle
 | .yield _,_,_,r=>r.mono hle
 | .nilf,_,_,r=>r.mono hle
 | .nili,_,_,r=>r.mono hle
 | .ilst ..,_,_,r=>r.mono hle
 | .iptr _,_,_,r=>r.mono hle
 | .ep ..,_,_,r=>r.mono hle
 | .val _,_,_,r=>r.mono hle
theorem aAD {E E':Emb}(hle:E.le E'){b e:Nat}{xs ys:List AV}(hg:∀off len ex cv,off+len≤xs.length→ (xs.drop off).take len=ys→VR E (.gl b e off len ex) cv→VR E' (.ilst e ys ex) cv) :
  ∀ (vs:List AV) (cvs:List Value),AV.frzOkL b e xs ys vs→VRs E vs cvs→VRs E' (AV.frzL b ys vs) cvs
 | [],_,_,r=>by simpa [AV.frzL,VRs]using r
 | a::aS,_,k,r=>by
  simp only [AV.frzOkL]at k
  simp only [AV.frzL,VRs]at r ⊢;obtain⟨u,us,h1,h2,h3⟩ :=r;exact⟨u,us,h1,aBt hle hg a u k.1 h2,aAD hle hg aS us k.2 h3⟩
end
theorem wU {m:Nat}{h:Hp}{b e:Nat}{xs ys:List AV}{v:AV}(hb:h.look b=some (.lst e xs))(hk:AV.keylessL xs=true)(ho:AV.frzOk b e xs ys v) :m≤h.nb→vJ m h (h.del b) v (AV.frz b ys v) :=fun hm E w r=>by
 obtain⟨rd,xd⟩ :=r.drop b
 rcases r.obj0 b _ hb with⟨u1,u2⟩ | ⟨L,hE,C,el,vs,o1,o2,o3,o4,o5⟩
 · cases xs with
   |cons x xs=>cases u1
   | nil=>
    refine⟨E,Emb.le.refl E,rd,xd.toM hm,fun cv hv=>aBt (Emb.le.refl E) (fun off len ex cv k2 k3 hg=>?_) v cv ho hv⟩
    have:ys= [] :=by rw [←k3];simp
    subst this
    simp only [VR]at hg ⊢
    rcases hg with⟨_,a,rfl⟩ | ⟨L,a,cap,hE,_⟩
    ·exact⟨[],VRs.nil _,fun _ hu=>by(cases hu),.inl ⟨rfl,a,0,rfl,fun _=>rfl,fun _=>rfl⟩⟩
    ·rw [u2]at hE;cases hE
 · have hni :=r.apart b _ L hb hE
   let E':Emb:= ⟨E.loc,fun k=>if k=L.blk then some C else E.imm k⟩
   have hle:E.le E':= ⟨fun _ _ e=>e,fun k D e=>by
    show(if k=L.blk then some C else E.imm k) =some D
    rw [if_neg (fun hh=>by rw [hh,hni]at e;cases e)];exact e⟩
   have hlook:∀ {x o},(h.del b).look x=some o→x≠b∧h.look x=some o:=fun {x o} e=>by
    rw [nM]at e;split at e
    ·cases e
    ·rename_i hx;exact⟨hx,e⟩
   have hvl:=o3.length
   have hkl:=fR hk o3
   refine⟨E',hle,⟨fun x o hx=>?_,rd.kin,rd.fresh,fun k D e=>?_,fun x o Lx hx hEx=>?_,rd.keys⟩,⟨fun _ _=>rfl,hle.2,Nat.le_refl _,fun _ _ _=>rfl,xd.own,Nat.le_trans hm (Nat.le_refl _),rfl,rfl,rfl,fun _ _=>rfl,fun k D e hlt=>?_,fun x o e _=> ⟨o,(hlook e).2⟩⟩,fun cv hv=>aBt hle (fun off len ex cv k2 k3 hg=>?_) v cv ho hv⟩
   · rcases rd.obj0 x o hx with u| ⟨Lx,g1,g2⟩
     ·exact .inl u
     ·exact .inr ⟨Lx,g1,g2.mono hle⟩
   · simp only [E']at e
     split at e
     ·rename_i hk';cases e;subst hk';exact⟨el,(0,0),o1⟩
     ·exact r.imm k D e
   · obtain⟨h1,h2⟩ :=hlook hx
     show(if Lx.blk=L.blk then some C else E.imm Lx.blk) =none
     rw [if_neg (wQ r hb hE h2 hEx h1)]
     exact r.apart x o Lx h2 hEx
   · simp only [E']at e
     split at e
     ·rename_i hk';subst hk';exact .inr ⟨b,_,L,hb,hE,rfl⟩
     ·exact .inl e
   · simp only [VR]at hg ⊢
     have okd:∀u∈vs.drop off,okE e u:=fun u hu=>o4 u (List.mem_of_mem_drop hu)
     have okt:∀u∈ (vs.drop off).take len,okE e u:=fun u hu=>okd u (List.mem_of_mem_take hu)
     have hlen: ((vs.drop off).take len).length=len:=by rw [List.length_take,List.length_drop];omega
     refine⟨(vs.drop off).take len,?_,okt,?_⟩
     ·rw [←k3];exact((hkl.drop off).take len).mono hle.pp
     · rcases hg with⟨rfl,a,rfl⟩ | ⟨L',a,cap,hE',rfl,g2,g3,g4⟩
       ·exact .inl ⟨by simp,a,0,rfl,fun _=>rfl,fun _=>rfl⟩
       · rw [hE]at hE';cases hE'
         by_cases hc:cap=0
         · subst hc
           have:len=0:=by omega
           subst this
           exact .inl ⟨by simp,_,0,rfl,fun _=>rfl,fun _=>rfl⟩
         · obtain⟨rfl,g5⟩ :=g4 hc
           refine .inr ⟨L.blk,_,cap,C,by rw [hlen],by simp [E'],by rw [hlen];exact g2,fun he=>by rw [hlen];exact g3 he,fun j hj=>?_⟩
           rw [hlen]at hj
           have h6:off*e+len*e≤vs.length*e:=by rw [←Nat.add_mul];exact Nat.mul_le_mul_right _ (by omega)
           rw [rK _ okd,oQ _ o4,List.getElem?_take_of_lt hj,List.getElem?_drop,←o5 _ (by omega)]
           congr 1;omega
end Go.Hb
namespace Go.Hb
variable {P :Program}
theorem Rel.reobj {E:Emb}{h:Hp}{H:Array Obj}(r:Rel E h H){k:Nat}{o o':AObj}(hk:h.look k=some o)(hu:uI o=false)(ho:∀L,E k=some L→OR E H L o')
  (h1:dA o'=dA o) (h2:oG o'=oG o) (h3:nOf o'=nOf o) :Rel E (h.set k o') H:=by
 have un:∀ {x ox},(h.set k o').look x=some ox→∃o0,h.look x=some o0∧dA ox=dA o0∧oG ox=oG o0∧nOf ox=nOf o0:=fun {x ox} e=>by
  rw [bL]at e;split at e
  ·rename_i hx;cases e;subst hx;exact⟨o,hk,h1,h2,h3⟩
  ·exact⟨ox,e,rfl,rfl,rfl⟩
 refine⟨fun x ox e=>?_,fun x y ox oy Lx Ly ex ey kx ky hbl hne=>?_,fun x hx=>r.fresh x hx,r.imm,fun x ox L e kx=>?_,fun x ox e=>?_⟩
 · rw [bL]at e;split at e
   · rename_i hx;cases e;subst hx
     obtain⟨L,g1,_⟩ :=r.obj _ _ hk hu
     exact .inr ⟨L,g1,ho L g1⟩
   ·exact r.obj0 x ox e
 · obtain⟨o1,a1,a2,a3,a4⟩ :=un ex
   obtain⟨o2,b1,b2,b3,b4⟩ :=un ey
   have:=r.kin x y o1 o2 Lx Ly a1 b1 kx ky hbl hne
   unfold Kin at this ⊢
   rw [a2,a3,a4,b2,b3,b4];exact this
 ·obtain⟨o1,a1,_⟩ :=un e;exact r.apart x o1 L a1 kx
 ·obtain⟨o1,a1,_⟩ :=un e;exact r.keys x o1 a1
theorem mA {m:Nat}{E E':Emb}{h h1:Hp}{w w':World}(x:ExtM m E h w E' h1 w'){k:Nat}{o o':AObj}(hk:h1.look k=some o) :ExtM m E h w E' (h1.set k o') w':=by
 have un:∀ {x ox},(h1.set k o').look x=some ox→∃o0,h1.look x=some o0:=fun {x ox} e=>by
  rw [bL]at e;split at e
  ·rename_i hx;subst hx;exact⟨o,hk⟩
  ·exact⟨ox,e⟩
 exact⟨x.low,x.imm,x.size,x.keep,fun b' o' L' e kb hlt=>by obtain⟨o1,a1⟩ :=un e;exact x.own b' o1 L' a1 kb hlt,x.nb,x.os,x.tape,x.output,x.froz,x.immo,fun b o e hb=>by obtain⟨o1,a1⟩ :=un e;exact x.keys b o1 a1 hb⟩
theorem pE {m:Nat}{fr:AFrame}{cs:List AFrame}{h h1:Hp}{k o n:Nat}{t:T AV}{ol:List Nat}{sup:Bool}{v v':AV}(hk:h.look k=some (.cells t n ol sup))(hk1:h1.look k=some (.cells t n ol sup))(hv:t.at o=some v)(ht:m≤h.nb→vJ m h h1 v v') :
  LeadsM P m ⟨fr,cs,h⟩ ⟨fr,cs,h1.set k (.cells (t.put o v') n ol sup)⟩ :=fun hm E cf ccs w base f fs r=>by
 obtain⟨E',hle,r',x',hvv⟩ :=ht hm E w r
 have hr:Rel E' (h1.set k (.cells (t.put o v') n ol sup)) w.heap:=by
  refine r'.reobj hk1 rfl (fun L hL=>?_) rfl rfl rfl
  obtain⟨L0,hE,C,el,o1,o2,o3⟩ :=r.obj _ _ hk
  have:=hle.1 _ _ hE
  rw [hL]at this;cases this
  refine⟨C,el,o1,o2,fun i a ha=>?_⟩
  rw [T.at_put]at ha
  split at ha
  · rename_i hi;cases ha;subst hi
    obtain⟨g1,cv,g2,g3⟩ :=o3 _ _ hv
    exact⟨g1,cv,g2,hvv cv g3⟩
  · obtain⟨g1,cv,g2,g3⟩ :=o3 i a ha
    exact⟨g1,cv,g2,g3.mono hle⟩
 exact⟨E',cf,ccs,w,Steps.refl _ _,f.mono hle,fs.mono hle,hr,mA x' hk1⟩
theorem wV {m:Nat}{h:Hp}{b n c e k:Nat}{x g:Bool}{t:T AV}{cs:List AV}(hb:h.look b=some (.cells t k [] false))(hg:getCells t 0 (n*e) =some cs)(h1:cV cs=true)(he:g=false→e=1) :
  m≤h.nb→vJ m h (h.set b (.lst e (rF g e n cs))) (.slice b 0 n c e x) (.gl b e 0 n (x&&Nat.beq c n)) :=fun hm E w r=>by
 obtain⟨L,hE,C,el,o1,o2,o3⟩ :=r.obj _ _ hb
 obtain⟨hcl,hcg⟩ :=nG hg
 have hc:∀j,j<n*e→∃v,C[L.sh+j]?=some v∧∀a,cs[j]?=some a→VR E a v:=fun j hj=>by
  have e1:=hcg j hj
  have e2:cs[j]?=some (cs[j]'(by omega)) :=by simp
  rw [e2,Nat.zero_add]at e1
  obtain⟨_,v,k1,k2⟩ :=o3 _ _ e1
  exact⟨v,k1,fun a ha=>by rw [e2]at ha;cases ha;exact k2⟩
 have hsz:L.sh+n*e≤C.size∨n*e=0:=by
  by_cases h0:n*e=0
  ·exact .inr h0
  · obtain⟨v,k1,_⟩ :=hc (n*e-1) (by omega)
    have:= (Array.getElem?_eq_some_iff.1 k1).1
    exact .inl (by omega)
 let us:= (C.extract L.sh (L.sh+n*e)).toList
 have hul:us.length=n*e:=by simp [us];omega
 have hug:∀j,j<n*e→us[j]?=C[L.sh+j]?:=fun j hj=>by
  simp only [us]
  rw [Array.getElem?_toList,Array.getElem?_extract,if_pos (by rcases hsz with h|h<;>omega)]
 have hvs:VRs E cs us:=VRs.of_get (by omega) fun i a ha=>by
  have hi:i<n*e:=by have:= (List.getElem?_eq_some_iff.1 ha).1;omega
  obtain⟨v,k1,k2⟩ :=hc i hi
  exact⟨v,by rw [hug i hi];exact k1,k2 a ha⟩
 obtain⟨vs,q1,q2,q3,q4⟩ :=uS g he n hvs hul (hvs.ones h1)
 have hob:OR E w.heap L (.lst e (rF g e n cs)) := ⟨C,el,vs,o1,o2,q1,q4,fun j hj=>by
  rw [q3]at hj;rw [q2,hug j hj]⟩
 obtain⟨s1,s2⟩ :=r.setObj (o':=.lst e (rF g e n cs)) (.cells C el (0,0)) hb hE rfl rfl (fun H' hH=> ⟨C,el,vs,hH,o2,q1,q4,fun j hj=>by
  rw [q3]at hj;rw [q2,hug j hj]⟩)
 have hp: ({w with heap:=w.heap.setIfInBounds L.blk (.cells C el (0,0))}:World) =w:=pV o1
 have hp2:w.heap.setIfInBounds L.blk (.cells C el (0,0)) =w.heap:=congrArg World.heap hp
 rw [hp2]at s1
 rw [hp]at s2
 refine⟨E,Emb.le.refl E,s1,s2.toM hm,fun cv hv=>?_⟩
 simp only [VR]at hv ⊢
 obtain⟨L',off,cap,hE',rfl,g1,g2,g3,g4,g5⟩ :=hv
 rw [hE]at hE';cases hE'
 refine .inr ⟨L,off,cap,hE,rfl,by omega,fun he=>?_,fun hc0=> ⟨by rw [g4 hc0];omega,g5⟩⟩
 simp only [Bool.and_eq_true]at he
 have:=Nat.eq_of_beq_eq_true he.2
 have:=g3 he.1
 omega
mutual
def AV.ren (τ:Nat→Nat) :AV→AV
 | .ptr b o=>.ptr (τ b) o
 | .slice b o l c e x=>.slice (τ b) o l c e x
 | .map r=>.map (τ r)
 | .func f fs cs=>.func f (AV.renL τ fs) (AV.renL τ cs)
 | .yield l=>.yield (τ l)
 | .meth n r=>.meth n (AV.ren τ r)
 | .via t f p r=>.via t f p (AV.ren τ r)
 | .iface t v=>.iface t (AV.ren τ v)
 | .agg vs=>.agg (AV.renL τ vs)
 | .tup vs=>.tup (AV.renL τ vs)
 | .gl b e o l x=>.gl (τ b) e o l x
 | .ep b e i o=>.ep (τ b) e i o
 |v=>v
def AV.renL (τ:Nat→Nat) :List AV→List AV
 | [] =>[]
 |a::aS=>AV.ren τ a::AV.renL τ aS
end
def Emb.ren (τ:Nat→Nat)(E:Emb) :Emb:= ⟨fun b=>E (τ b),E.imm⟩
mutual
theorem eZ (τ:Nat→Nat)(E:Emb) :∀ (v:AV) (cv:Value),VR E (AV.ren τ v) cv↔VR (E.ren τ) v cv
 | .bool _,_=>by simp [AV.ren,VR]
 | .int _ _,_=>by simp [AV.ren,VR]
 | .str _ _,_=>by simp [AV.ren,VR]
 | .ptr _ _,_=>by simp [AV.ren,VR,Emb.ren]
 | .nilp,_=>by simp [AV.ren,VR]
 | .slice ..,_=>by simp [AV.ren,VR,Emb.ren]
 | .nils,_=>by simp [AV.ren,VR]
 | .map _,_=>by simp [AV.ren,VR,Emb.ren]
 | .nilm,_=>by simp [AV.ren,VR]
 | .func f fs cs,_=>by simp only [AV.ren,VR,nH τ E fs,nH τ E cs]
 | .yield _,_=>by simp [AV.ren,VR,Emb.ren]
 | .meth n r,_=>by simp only [AV.ren,VR,eZ τ E r]
 | .via _ _ _ r,_=>by simp only [AV.ren,VR,eZ τ E r]
 | .nilf,_=>by simp [AV.ren,VR]
 | .iface _ v,_=>by simp only [AV.ren,VR,eZ τ E v]
 | .nili,_=>by simp [AV.ren,VR]
 | .agg vs,_=>by simp only [AV.ren,VR,nH τ E vs]
 | .tup vs,_=>by simp only [AV.ren,VR,nH τ E vs]
 | .ilst ..,_=>by simp only [AV.ren,VR];exact Iff.rfl
 | .iptr _,_=>by simp only [AV.ren,VR];exact Iff.rfl
 | .gl ..,_=>by simp [AV.ren,VR,Emb.ren]
 | .ep ..,_=>by simp [AV.ren,VR,Emb.ren]
 | .val _,_=>by simp [AV.ren,VR]
theorem nH (τ:Nat→Nat)(E:Emb) :∀ (vs:List AV) (cvs:List Value),VRs E (AV.renL τ vs) cvs↔VRs (E.ren τ) vs cvs
 | [],_=>by simp [AV.renL,VRs]
 |a::aS,_=>by simp only [AV.renL,VRs,eZ τ E a,nH τ E aS]
end
mutual
theorem lK (τ:Nat→Nat) :∀ (v:AV),AV.keyless v=true→AV.ren τ v=v
 | .bool _,_=>by simp [AV.ren]
 | .int _ _,_=>by simp [AV.ren]
 | .str _ _,_=>by simp [AV.ren]
 | .ptr _ _,k=>by simp [AV.keyless]at k
 | .nilp,_=>by simp [AV.ren]
 | .slice ..,k=>by simp [AV.keyless]at k
 | .nils,_=>by simp [AV.ren]
 | .map _,k=>by simp [AV.keyless]at k
 | .nilm,_=>by simp [AV.ren]
 | .func f fs cs,k=>by simp only [AV.keyless,Bool.and_eq_true]at k;simp only [AV.ren,mB τ fs k.1,mB τ cs k.2]
 | .yield _,k=>by simp [AV.keyless]at k
 | .meth n r,k=>by simp only [AV.keyless]at k;simp only [AV.ren,lK τ r k]
 | .via _ _ _ r,k=>by simp only [AV.keyless]at k;simp only [AV.ren,lK τ r k]
 | .nilf,_=>by simp [AV.ren]
 | .iface _ v,k=>by simp only [AV.keyless]at k;simp only [AV.ren,lK τ v k]
 | .nili,_=>by simp [AV.ren]
 | .agg vs,k=>by simp only [AV.keyless]at k;simp only [AV.ren,mB τ vs k]
 | .tup vs,k=>by simp only [AV.keyless]at k;simp only [AV.ren,mB τ vs k]
 | .ilst ..,_=>by simp [AV.ren]
 | .iptr _,_=>by simp [AV.ren]
 | .gl ..,k=>by simp [AV.keyless]at k
 | .ep ..,k=>by simp [AV.keyless]at k
 | .val _,_=>by simp [AV.ren]
theorem mB (τ:Nat→Nat) :∀ (vs:List AV),AV.keylessL vs=true→AV.renL τ vs=vs
 | [],_=>rfl
 |a::aS,k=>by simp only [AV.keylessL,Bool.and_eq_true]at k;simp only [AV.renL,lK τ a k.1,mB τ aS k.2]
end
theorem aD {α:Type}(f:α→AV)(hf:∀a,AV.keyless (f a) =true) :∀ (l:List α),AV.keylessL (l.map f) =true
 | [] =>rfl
 |a::aS=>by simp [AV.keylessL,hf a,aD f hf aS]
theorem keylessL_mem :∀ {xs:List AV},AV.keylessL xs=true↔∀x∈xs,AV.keyless x=true
 | [] =>by simp [AV.keylessL]
 |x::xs=>by simp [AV.keylessL,keylessL_mem (xs:=xs)]
end Go.Hb
namespace Go.Hb
variable {P :Program}
theorem mem1 {p:Prop}{ps:List Prop}(h:∀q∈p::ps,q) :p:=h p (List.mem_cons_self ..)
theorem eT {h:Hp}{tm:T AV}{o:Oper}{out:AOut}(h0:kL P h tm o=none)(h1:vop P h tm o=some out) :lD P h tm o=some out:=by unfold lD;rw [h0];exact h1
theorem sS {k:IntKind}{n:Int}{len:Nat}(h0:0≤n)(h1:n<len) :iU (.int k n) len=some n.toNat:=by simp [iU,h0,h1]
noncomputable section
inductive Ans where
 |idx (y:AV)
 |ix
 |ev (v:AV)
 |look (r:Option (Nat×AV))
 |len (n:Int)
def aHg (z:AV)(ok:Bool)(r:Option (Nat×AV)) :AV:=match r with
 |some (_,v) =>bif ok then .tup [v,.bool true]else v
 |none=>bif ok then .tup [z,.bool false]else z
def qT (P:Program)(h:Hp)(tm:T AV)(o:Oper)(a:Ans) :Option (AV×List Prop) :=
 match a with
 | .idx y=>match o.op with
  | .indexAddr t x i=>match cF tm x,cF tm i with
   |some (.ilst e xs _),some (.int _ n) =>bif xO P t e then some (.iptr y.cells,[0≤n,xs[n.toNat]?=some y])else none
   |_,_=>none
  | .load t a=>match cF tm a with
   | some (.ep b e i k) =>match h.look b with
    | some (.lst e' xs) =>bif Nat.beq e' e then match aIB P t (y.cells.drop k)with
     |some v=>some (v,[xs[i]?=some y])
     |none=>none else none
    |_=>none
   |_=>none
  |_=>none
 | .ix=>match o.op with
  | .indexAddr t x i=>match cF tm x,cF tm i with
   |some (.gl b e off len _),some (.int _ n) =>bif xO P t e then some (.ep b e (off+n.toNat) 0,[0≤n,n<len])else none
   |_,_=>none
  |_=>none
 | .ev v=>match o.op with
  | .slice t x lo hi mx=>match cF tm x,oW tm lo,oW tm hi,oW tm mx with
   |some a,some lo,some hi,some mx=>some (v,[∃l u m,gB lo=some l∧gB hi=some u∧gB mx=some m∧ (rZ P t a l u m=some v∨ (rZ P t a l u m=none∧aBg P t a l u m=some v))])
   |_,_,_,_=>none
  | .binOp op t x y _=>match cF tm x,cF tm y with
   |some a,some b=>some (v,[aTI P op t a b (isLit x) (isLit y) =some v])
   |_,_=>none
  | .index t x i=>match cF tm x,cF tm i with
   | some (.str l n),some (.int _ k) =>match P.underlying t with
    |some .string=>some (v,[0≤k,k<l,.int .u8 (Nat.mod (Nat.div n (Nat.pow 256 k.toNat)) 256) =v])
    |_=>none
   |_,_=>none
  |_=>none
 | .look r=>match o.op with
  | .lookup t x k ok=>match cF tm x,cF tm k with
   | some (.map b),some k=>match P.underlying t,h.look b with
    | some (.map kt et),some (.map es _) =>match P.underlying kt,zeroOf P et with
     |some kd,some z=>bif plainKey kd k then some (aHg z ok r,[cR k es 0=some r])else none
     |_,_=>none
    |_,_=>none
   |_,_=>none
  |_=>none
 | .len n=>match o.op with
  | .call c=>match c.callee,jA tm c.args.toList,c.argTypes[0]? with
   | .builtin .len,some [.ilst _ xs _],some t=>match P.underlying t with
    |some (.slice _) =>some (.int .i64 n,[(xs.length:Int) =n])
    |_=>none
   |_,_,_=>none
  |_=>none
theorem oL {h:Hp}{tm:T AV}{o:Oper}{a:Ans}{v:AV}{ps:List Prop}(h0:qT P h tm o a=some (v,ps))(hp:∀p∈ps,p) :lD P h tm o=some (.val v h) :=by
 cases a with
 | idx y =>
  simp only [qT]at h0
  split at h0
  · rename_i t x i hop
    split at h0
    · rename_i e xs ex k n hx hi
      cases hc:xO P t e with
      |false=>rw [hc]at h0;cases h0
      | true=>
       rw [hc]at h0;simp only [cond]at h0;cases h0
       have q0:=hp _ (List.mem_cons_self ..)
       have q1:=hp _ (List.mem_cons_of_mem _ (List.mem_cons_self ..))
       have hlt:= (List.getElem?_eq_some_iff.1 q1).1
       refine eT ?_ ?_
       ·simp only [kL,hop,ev2,hx,hi];split<;>simp_all
       ·simp only [vop,hop,ev2,hx,hi,hc,cond,sS q0 (show n< (xs.length:Int)by omega),q1]
    ·cases h0
  · rename_i t a hop
    split at h0
    · rename_i b e i k ha
      split at h0
      · rename_i e' xs hb
        cases hc:Nat.beq e' e with
        |false=>rw [hc]at h0;cases h0
        | true=>
         rw [hc]at h0;simp only [cond]at h0
         split at h0
         · rename_i v' hv
           cases h0
           have q1:=mem1 hp
           refine eT ?_ ?_
           ·simp only [kL,hop,wM,ha]
           ·simp only [vop,hop,wM,ha,hb,hc,cond,q1,val,hv]
         ·cases h0
      ·cases h0
    ·cases h0
  ·cases h0
 | ix =>
  simp only [qT]at h0
  split at h0
  · rename_i t x i hop
    split at h0
    · rename_i b e off len ex k n hx hi
      cases hc:xO P t e with
      |false=>rw [hc]at h0;cases h0
      | true=>
       rw [hc]at h0;simp only [cond]at h0;cases h0
       have q0:=hp _ (List.mem_cons_self ..)
       have q1:=hp _ (List.mem_cons_of_mem _ (List.mem_cons_self ..))
       refine eT ?_ ?_
       ·simp only [kL,hop,ev2,hx,hi];split<;>simp_all
       ·simp only [vop,hop,ev2,hx,hi,hc,cond,sS q0 q1]
    ·cases h0
  ·cases h0
 | ev v0 =>
  simp only [qT]at h0
  split at h0
  · rename_i t x lo hi mx hop
    split at h0
    · rename_i a l1 l2 l3 hx e1 e2 e3
      cases h0
      obtain⟨l,u,m',d1,d2,d3,d4| ⟨d4,d5⟩⟩ :=mem1 hp
      ·unfold lD;simp only [kL,hop,wM,hx,e1,e2,e3,d1,d2,d3,d4,val]
      · refine eT ?_ ?_
        ·simp only [kL,hop,wM,hx,e1,e2,e3,d1,d2,d3,d4,val]
        ·simp only [vop,hop,wM,hx,e1,e2,e3,d1,d2,d3,d5,val]
    ·cases h0
  · rename_i op t x y yt hop
    split at h0
    · rename_i a b hx hy
      cases h0
      have q:=mem1 hp
      unfold lD;simp only [kL,hop,ev2,hx,hy,q,val]
    ·cases h0
  · rename_i t x i hop
    split at h0
    · rename_i l n kk k hx hi
      split at h0
      · rename_i hu
        cases h0
        have q1:=hp _ (List.mem_cons_self ..)
        have q2:=hp _ (List.mem_cons_of_mem _ (List.mem_cons_self ..))
        have q3:=hp _ (List.mem_cons_of_mem _ (List.mem_cons_of_mem _ (List.mem_cons_self ..)))
        unfold lD;simp only [kL,hop,ev2,hx,hi,hu,sS q1 q2,q3]
      ·cases h0
    ·cases h0
  ·cases h0
 | look r =>
  simp only [qT]at h0
  split at h0
  · rename_i t x k ok hop
    split at h0
    · rename_i b kv hx hk
      split at h0
      · rename_i kt et es clock hu hb
        split at h0
        · rename_i kd z hkd hz
          cases hc:plainKey kd kv with
          |false=>rw [hc]at h0;cases h0
          | true=>
           rw [hc]at h0;simp only [cond]at h0;cases h0
           have q:=mem1 hp
           unfold lD
           simp only [kL,hop,ev2,hx,hk,aCK,hu,hkd,hz,hc,cond,hb,q]
           cases r with
           |none=>cases ok<;>simp [val,aHg]
           |some p=>obtain⟨i,v⟩ :=p;cases ok<;>simp [val,aHg]
        ·cases h0
      ·cases h0
    ·cases h0
  ·cases h0
 | len n =>
  simp only [qT]at h0
  split at h0
  · rename_i c hop
    split at h0
    · rename_i e xs ex t hcal hargs ht
      split at h0
      · rename_i el hu
        cases h0
        have q:=mem1 hp
        subst q
        refine eT ?_ ?_
        ·simp only [kL,hop,uD,hargs,hcal,kK,ht,aTJ,hu]
        ·simp only [vop,hop,hcal,hargs,ht,hu]
      ·cases h0
    ·cases h0
  ·cases h0
inductive RIns where
 |d
 |b (j:Nat) (v:Bool)
 |pure (v:AV)
 |ans (a:Ans)
 |call (v:AV) (h':Hp)
 |st (y y':AV)
 |app (zs:List AV) (n:Nat)
 |mput (es:List (AV×AV×Nat)) (clock:Nat)
def aHh (P:Program)(h:Hp)(tm:T AV)(o:Oper)(zs:List AV)(n:Nat) :Option (AV×Hp×List Prop) :=
 match o.op with
 | .call c=>match c.callee,jA tm c.args.toList,c.argTypes[0]?,c.argTypes[1]? with
  | .builtin .append,some [d,.ilst e1 ys ex],some st,some xt=>match P.underlying st,P.underlying xt with
   | some (.slice el),some (.slice _) =>match bG P el,P.info? el,zeroOf P el,P.underlying el with
    | some e,some inf,some z,some _=>bif (Nat.beq z.cells.length e&&Nat.ble e 40&&Nat.ble inf.bytes 1000&&Nat.ble 1 inf.bytes&&Nat.ble 1 e) &&Nat.beq e1 e then
      match d with
      | .nils=>some (.gl h.nb e 0 n false,h.new (.lst e zs),[n≤1000000,ys=zs,ys.length=n])
      | .gl b e' off len _=>match h.look b with
       | some (.lst e2 xs) =>bif Nat.beq e' e&&Nat.beq e2 e then
         some (.gl h.nb e 0 n false,(h.del b).new (.lst e zs),[off+len≤xs.length,n≤1000000,(xs.drop off).take len++ys=zs,len+ys.length=n])else none
       |_=>none
      |_=>none
      else none
    |_,_,_,_=>none
   |_,_=>none
  |_,_,_,_=>none
 |_=>none
def aHi (P:Program)(h:Hp)(tm:T AV)(o:Oper)(zs:List AV)(n:Nat) :Option (AV×Hp×List Prop) :=
 match o.op with
 | .call c=>match c.callee,jA tm c.args.toList,c.argTypes[0]?,c.argTypes[1]? with
  | .builtin .append,some [.gl b e' off len _,x],some st,some xt=>match P.underlying st,P.underlying xt with
   | some (.slice el),some (.slice _) =>match bG P el,P.info? el,zeroOf P el with
    | some e,some inf,some z=>bif Nat.beq z.cells.length e&&Nat.ble e 40&&Nat.ble inf.bytes 1000&&Nat.ble 1 inf.bytes&&Nat.ble 1 e then
      match h.look b,uF P h el e x with
      | some (.lst e2 xs),some ys=>bif Nat.beq e' e&&Nat.beq e2 e then
         some (.gl h.nb e 0 n false,(h.del b).new (.lst e zs),[off+len≤xs.length,n≤1000000,(xs.drop off).take len++ys=zs,len+ys.length=n])else none
      |_,_=>none
      else none
    |_,_,_=>none
   |_,_=>none
  |_,_,_,_=>none
 |_=>none
def aHj (P:Program)(h:Hp)(tm:T AV)(o:Oper)(zs:List AV)(n:Nat) :Option (AV×Hp×List Prop) :=
 match aHh P h tm o zs n with
 |some r=>some r
 |none=>aHi P h tm o zs n
theorem aFj {h:Hp}{ats:Array TypeId}{b e off len:Nat}{ex:Bool}{x:AV}:aappend P h ats (.gl b e off len ex) x=none:=by
 unfold aappend
 simp only [cond_eq_ite]
 repeat' split
 all_goals first|rfl| (split<;>rfl)
theorem aLI {h:Hp}{ats:Array TypeId}{e:TypeId}{sz e1:Nat}{ys:List AV}{ex:Bool}:aIA P h ats e sz (.ilst e1 ys ex) =none:=by
 unfold aIA
 split
 ·rfl
 ·split<;>simp_all
theorem tW {h:Hp}{ats:Array TypeId}{s:AV}{e1:Nat}{ys:List AV}{ex:Bool}:aappend P h ats s (.ilst e1 ys ex) =none:=by
 unfold aappend
 simp only [aLI]
 repeat' split
 all_goals first|rfl| (simp_all;done)
theorem aFk {h h':Hp}{tm:T AV}{o:Oper}{zs:List AV}{n:Nat}{v:AV}{ps:List Prop}(h0:aHh P h tm o zs n=some (v,h',ps))(hp:∀p∈ps,p) :lD P h tm o=some (.val v h') :=by
 unfold aHh at h0
 split at h0
 · rename_i c hop
   split at h0
   · rename_i d e1 ys ex st xt hcal hargs hst hxt
     split at h0
     · rename_i el el' hu hu'
       split at h0
       · rename_i e inf z dd hsz hinf hz hd
         cases hc: (Nat.beq z.cells.length e&&Nat.ble e 40&&Nat.ble inf.bytes 1000&&Nat.ble 1 inf.bytes&&Nat.ble 1 e)with
         |false=>rw [hc]at h0;cases h0
         | true =>
          cases he:Nat.beq e1 e with
          |false=>rw [hc,he]at h0;cases h0
          | true =>
           rw [hc,he]at h0;simp only [Bool.and_true,cond]at h0
           have hadd:uF P h el e (.ilst e1 ys ex) =some ys:=by
            simp only [uF,hd,he,cond]
           split at h0
           · cases h0
             have q0:=hp _ (List.mem_cons_self ..)
             have q1:=hp _ (List.mem_cons_of_mem _ (List.mem_cons_self ..))
             have q2:=hp _ (List.mem_cons_of_mem _ (List.mem_cons_of_mem _ (List.mem_cons_self ..)))
             subst q1
             subst q2
             refine eT ?_ ?_
             ·simp only [kL,hop,uD,hargs,hcal,kK,tW]
             · simp only [vop,hop,hcal,hargs,pT,hst,hxt,hu,hu',hsz,hinf,hz,hadd,hc,cond,aGL]
               rw [if_pos q0]
           · rename_i b e' off len ex'
             split at h0
             · rename_i e2 xs hb
               cases hc2: (Nat.beq e' e&&Nat.beq e2 e)with
               |false=>rw [hc2]at h0;cases h0
               | true=>
                rw [hc2]at h0;simp only at h0
                cases h0
                simp only [Bool.and_eq_true]at hc2
                have ee1:=Nat.eq_of_beq_eq_true hc2.1
                have ee2:=Nat.eq_of_beq_eq_true hc2.2
                have y2:=hp _ (List.mem_cons_self ..)
                have y3:=hp _ (List.mem_cons_of_mem _ (List.mem_cons_self ..))
                have y4:=hp _ (List.mem_cons_of_mem _ (List.mem_cons_of_mem _ (List.mem_cons_self ..)))
                have y5:=hp _ (List.mem_cons_of_mem _ (List.mem_cons_of_mem _ (List.mem_cons_of_mem _ (List.mem_cons_self ..))))
                subst y4 y5
                refine eT ?_ ?_
                ·simp only [kL,hop,uD,hargs,hcal,kK,tW]
                · simp only [vop,hop,hcal,hargs,pT,hst,hxt,hu,hu',hsz,hinf,hz,hadd,hc,cond,hb,aGL]
                  rw [if_pos ⟨ee1,ee2,y2,y3⟩]
             ·cases h0
           ·cases h0
       ·cases h0
     ·cases h0
   ·cases h0
 ·cases h0
theorem aFl {h h':Hp}{tm:T AV}{o:Oper}{zs:List AV}{n:Nat}{v:AV}{ps:List Prop}(h0:aHi P h tm o zs n=some (v,h',ps))(hp:∀p∈ps,p) :lD P h tm o=some (.val v h') :=by
 unfold aHi at h0
 split at h0
 · rename_i c hop
   split at h0
   · rename_i b e' off len ex x st xt hcal hargs hst hxt
     split at h0
     · rename_i el el' hu hu'
       split at h0
       · rename_i e inf z hsz hinf hz
         cases hc: (Nat.beq z.cells.length e&&Nat.ble e 40&&Nat.ble inf.bytes 1000&&Nat.ble 1 inf.bytes&&Nat.ble 1 e)with
         |false=>rw [hc]at h0;cases h0
         | true =>
          rw [hc]at h0;simp only [cond]at h0
          split at h0
          · rename_i e2 xs ys hb hadd
            cases hc2: (Nat.beq e' e&&Nat.beq e2 e)with
            |false=>rw [hc2]at h0;cases h0
            | true=>
             rw [hc2]at h0;simp only at h0
             cases h0
             simp only [Bool.and_eq_true]at hc2
             have ee1:=Nat.eq_of_beq_eq_true hc2.1
             have ee2:=Nat.eq_of_beq_eq_true hc2.2
             have y2:=hp _ (List.mem_cons_self ..)
             have y3:=hp _ (List.mem_cons_of_mem _ (List.mem_cons_self ..))
             have y4:=hp _ (List.mem_cons_of_mem _ (List.mem_cons_of_mem _ (List.mem_cons_self ..)))
             have y5:=hp _ (List.mem_cons_of_mem _ (List.mem_cons_of_mem _ (List.mem_cons_of_mem _ (List.mem_cons_self ..))))
             subst y4 y5
             refine eT ?_ ?_
             ·simp only [kL,hop,uD,hargs,hcal,kK,aFj]
             · simp only [vop,hop,hcal,hargs,pT,hst,hxt,hu,hu',hsz,hinf,hz,hadd,hc,cond,hb,aGL]
               rw [if_pos ⟨ee1,ee2,y2,y3⟩]
          ·cases h0
       ·cases h0
     ·cases h0
   ·cases h0
 ·cases h0
theorem aAE {h h':Hp}{tm:T AV}{o:Oper}{zs:List AV}{n:Nat}{v:AV}{ps:List Prop}(h0:aHj P h tm o zs n=some (v,h',ps))(hp:∀p∈ps,p) :lD P h tm o=some (.val v h') :=by
 unfold aHj at h0
 split at h0
 ·rename_i r hr;cases h0;exact aFk hr hp
 ·exact aFl h0 hp
def jD (es:List (AV×AV×Nat))(clock:Nat)(k v:AV) :Option (List (AV×AV×Nat) ×Nat) :=
 match cR k es 0 with
 |some (some (i,_)) =>some (setE k v es i,clock)
 |some none=>some (es++ [(k,v,clock)],Nat.succ clock)
 |none=>none
def aLJ (P:Program)(h:Hp)(tm:T AV)(o:Oper)(es':List (AV×AV×Nat))(clock':Nat) :Option (Hp×List Prop) :=
 match o.op with
 | .mapUpdate t m k x=>match cF tm m,cF tm k,cF tm x with
  | some (.map r),some kv,some v=>match P.underlying t,h.look r with
   | some (.map kt _),some (.map es clock) =>match P.underlying kt with
    |some kd=>bif plainKey kd kv then some (h.set r (.map es' clock'),[jD es clock kv v=some (es',clock')])else none
    |none=>none
   |_,_=>none
  |_,_,_=>none
 |_=>none
theorem aHk {h h':Hp}{tm:T AV}{o:Oper}{es':List (AV×AV×Nat)}{clock':Nat}{ps:List Prop}(h0:aLJ P h tm o es' clock'=some (h',ps))(hp:∀p∈ps,p) :lD P h tm o=some (.val .undef h') :=by
 unfold aLJ at h0
 split at h0
 · rename_i t m k x hop
   split at h0
   · rename_i r kv v hm hk hx
     split at h0
     · rename_i kt et es clock hu hb
       split at h0
       · rename_i kd hkd
         cases hc:plainKey kd kv with
         |false=>rw [hc]at h0;cases h0
         | true=>
          rw [hc]at h0;simp only [cond]at h0
          cases h0
          have q:=hp _ (List.mem_cons_self ..)
          unfold jD at q
          unfold lD
          simp only [kL,hop,ev2,wM,hm,hk,hx,oV,hu,hkd,hb,hc,cond]
          split at q
          · rename_i i w hfk
            cases q
            simp only [hfk,aAi]
          · rename_i hfk
            cases q
            simp only [hfk,aAi]
          ·cases q
       ·cases h0
     ·cases h0
   ·cases h0
 ·cases h0
def aQM (P:Program)(h:Hp)(tm:T AV)(o:Oper)(y y':AV) :Option (Hp×List Prop) :=
 match o.op with
 | .store t a x=>match cF tm a,cF tm x with
  | some (.ep b e i k),some v=>match h.look b,bG P t with
   | some (.lst e' xs),some n=>bif Nat.beq e' e&&Nat.beq v.cells.length n&&Nat.ble (k+n) e&&cV v.cells then
     some (h.set b (.lst e (xs.set i y')),[xs[i]?=some y,jS y k v.cells=some y'])else none
   |_,_=>none
  |_,_=>none
 |_=>none
theorem aIQ {h h':Hp}{tm:T AV}{o:Oper}{y y':AV}{ps:List Prop}(h0:aQM P h tm o y y'=some (h',ps))(hp:∀p∈ps,p) :lD P h tm o=some (.val .undef h') :=by
 unfold aQM at h0
 split at h0
 · rename_i t a x hop
   split at h0
   · rename_i b e i k v ha hx
     split at h0
     · rename_i e' xs n hb hn
       cases hc: (Nat.beq e' e&&Nat.beq v.cells.length n&&Nat.ble (k+n) e&&cV v.cells)with
       |false=>rw [hc]at h0;cases h0
       | true=>
        rw [hc]at h0;simp only [cond]at h0
        cases h0
        have q0:=hp _ (List.mem_cons_self ..)
        have q1:=hp _ (List.mem_cons_of_mem _ (List.mem_cons_self ..))
        refine eT ?_ ?_
        ·simp only [kL,hop,ev2,ha,hx]
        ·simp only [vop,hop,ev2,ha,hx,hb,hn,hc,cond,q0,q1]
     ·cases h0
   ·cases h0
 ·cases h0
abbrev Rec :=Nat×AIn×Hp×AV×Hp
theorem sT {α:Type}{v:α}:∀ (f k:Nat) (t:T α),1≤k→k<2 ^ f→t.get k=some v→T.setF (some v) f k t=t
 |0,k,t,h1,h2,_=>by simp at h2;omega
 |f+1,k,.leaf,_,_,h=>by cases h
 | f +1,k,.node l u r,h1,h2,h=>by
  rw [T.setF_node]
  rw [T.get_node]at h
  have h2':k / 2<2 ^ f:=by rw [Nat.pow_succ]at h2;omega
  by_cases hk:k=1
  ·rw [if_pos hk]at h ⊢;rw [h]
  · rw [if_neg hk]at h ⊢
    by_cases hm:k % 2=0
    ·rw [if_pos hm]at h ⊢;rw [sT f (k / 2) l (by omega) h2' h]
    ·rw [if_neg hm]at h ⊢;rw [sT f (k / 2) r (by omega) h2' h]
theorem put_eq {α:Type}{t:T α}{k:Nat}{v:α}(h:t.at k=some v) :t.put k v=t:=
 sT _ _ t (by simp) (by have:=yO (k+1);simpa using this) h
def jE (P:Program)(nt:Nat)(ops:List Oper)(p:Plan)(i:RIns)(r:RS) :Option (RS×List Prop×List Rec) :=
 match i with
 | .d=>match oD P aBs nt ops p r with
  |some r'=>some (r',[],[])
  |none=>none
 | .b _ _=>none
 | .pure v=>match bY r.tm ops p.o,p.kd with
  | some true,.eff=>
   match lD P (aV r.h r.s r.pend) r.tm p.o with
   | some (.call (.enter f args)) =>match jB r.tm nt p.o.dst v with
    |some tm=>some ({r with tm,h:=aV r.h r.s r.pend,stages:=r.h::r.stages,s:=Nat.succ r.s},[aE P f args v],[(r.s,.enter f args,aV r.h r.s r.pend,v,aV r.h r.s r.pend)])
    |none=>none
   |_=>none
  |_,_=>none
 | .ans a=>match bY r.tm ops p.o,p.kd with
  | some true,.pure=>match qT P r.h r.tm p.o a with
   | some (v,ps) =>match jB r.tm nt p.o.dst v with
    |some tm=>some ({r with tm},ps,[])
    |none=>none
   |none=>none
  | some true,.read=>match qT P r.h r.tm p.o a with
   | some (v,ps) =>match jB r.tm nt p.o.dst v with
    |some tm=>some ({r with tm,again:=bif Nat.beq p.lo p.hi then r.again else⟨p.o,r.tm,p.lo,p.hi,v⟩ ::r.again},ps,[])
    |none=>none
   |none=>none
  |_,_=>none
 | .call v h'=>match bY r.tm ops p.o,p.kd with
  | some true,.eff=>
   match lD P (aV r.h r.s r.pend) r.tm p.o with
   | some (.call c) =>match jB r.tm nt p.o.dst v with
    |some tm=>some ({r with tm,h:=h',stages:=r.h::r.stages,s:=Nat.succ r.s},[Spec P c (aV r.h r.s r.pend) (.ret v) h'],[(r.s,c,aV r.h r.s r.pend,v,h')])
    |none=>none
   |_=>none
  |_,_=>none
 | .st y y'=>match bY r.tm ops p.o,p.kd with
  | some true,.eff=>
   match aQM P (aV r.h r.s r.pend) r.tm p.o y y' with
   | some (h',ps) =>match jB r.tm nt p.o.dst .undef with
    |some tm=>some ({r with tm,h:=h',stages:=r.h::r.stages,s:=Nat.succ r.s},ps,[])
    |none=>none
   |none=>none
  |_,_=>none
 | .mput es c=>match bY r.tm ops p.o,p.kd with
  | some true,.eff=>
   match aLJ P (aV r.h r.s r.pend) r.tm p.o es c with
   | some (h',ps) =>match jB r.tm nt p.o.dst .undef with
    |some tm=>some ({r with tm,h:=h',stages:=r.h::r.stages,s:=Nat.succ r.s},ps,[])
    |none=>none
   |none=>none
  |_,_=>none
 | .app zs n=>match bY r.tm ops p.o,p.kd with
  | some true,.eff=>
   match aHj P (aV r.h r.s r.pend) r.tm p.o zs n with
   | some (v,h',ps) =>match jB r.tm nt p.o.dst v with
    |some tm=>some ({r with tm,h:=h',stages:=r.h::r.stages,s:=Nat.succ r.s},ps,[])
    |none=>none
   |none=>none
  |_,_=>none
def iJ (P:Program)(nt:Nat)(ops:List Oper) :List RIns→List Plan→RS→Option (RS×List Prop×List Rec)
 | [],[],r=>some (r,[],[])
 | .b j v::is,ps,r=>match r.tm.at j with
  | some (.bool b) =>match iJ P nt ops is ps {r with tm:=r.tm.put j (.bool v)} with
   |some (r',qs,rs) =>some (r',(b=v) ::qs,rs)
   |none=>none
  |_=>none
 | i::is,p::ps,r=>match jE P nt ops p i r with
  |none=>none
  | some (r1,qs,rs) =>match iJ P nt ops is ps r1 with
   |none=>none
   |some (r2,qs2,rs2) =>some (r2,qs++qs2,rs++rs2)
 |_,_,_=>none
def keysOf :List Rec→List Nat
 | [] =>[]
 |r::rs=>r.1::keysOf rs
def aDv :List Nat→Bool
 | [] =>true
 |k::ks=> !(uG k ks) &&aDv ks
def aHl (P:Program)(a:Again)(h:Hp) :Option Ans→List Prop
 | none=>[match lD P h a.tm a.o with
  |some (.val v _) =>v=a.v
  |_=>False]
 | some an=>match qT P h a.tm a.o an with
  |some (v,ps) => (v=a.v) ::ps
  |none=>[False]
def lL (P:Program)(a:Again)(oa:Option Ans) :List Hp→Nat→List Prop
 | [],_=>[]
 | h::hs,k=>bif Nat.ble a.lo k&&Nat.ble k a.hi then aHl P a h oa++lL P a oa hs (k-1)
  else lL P a oa hs (k-1)
def wX (P:Program)(hs:List Hp)(k:Nat) :List Again→List (Option Ans) →List Prop
 | [],_=>[]
 |a::aS,[] =>lL P a none hs k++wX P hs k aS []
 |a::aS,oa::os=>lL P a oa hs k++wX P hs k aS os
theorem aHm {a:Again}{h:Hp}{oa:Option Ans}(h0:∀p∈aHl P a h oa,p) :∃hx,lD P h a.tm a.o=some (.val a.v hx) :=by
 cases oa with
 | none=>
  have:=h0 _ (List.mem_singleton_self _)
  split at this
  ·rename_i v hx hv;exact⟨hx,by rw [hv,this]⟩
  ·exact this.elim
 | some an=>
  simp only [aHl]at h0
  split at h0
  · rename_i v ps hv
    have e:v=a.v:=h0 _ (List.mem_cons_self ..)
    subst e
    exact⟨h,oL hv (fun p hp=>h0 p (List.mem_cons_of_mem _ hp))⟩
  ·exact(h0 _ (List.mem_singleton_self _)).elim
theorem mQ {a:Again}{oa:Option Ans}:∀ {hs:List Hp} {k:Nat},(∀p∈lL P a oa hs k,p) →∀ (x:Nat) (h:Hp),hs[x]?=some h→x≤k→a.lo≤k-x→k-x≤a.hi→∃hx,lD P h a.tm a.o=some (.val a.v hx)
 | [],k,_,x,h,hx,_,_,_=>by simp at hx
 | y::ys,k,h0,x,h,hx,hk,h1,h2=>by
  simp only [lL]at h0
  cases x with
  | zero=>
   simp at hx;subst hx
   rw [Nat.sub_zero]at h1 h2
   simp only [jG,h1,h2,decide_true,Bool.and_self,cond]at h0
   exact aHm (fun p hp=>h0 p (List.mem_append_left _ hp))
  | succ x=>
   have hx':ys[x]?=some h:=by simpa using hx
   refine mQ (oa:=oa) (k:=k-1) (fun p hp=>h0 p ?_) x h hx' (by omega) (by omega) (by omega)
   cases (Nat.ble a.lo k&&Nat.ble k a.hi)with
   |true=>exact List.mem_append_right _ hp
   |false=>exact hp
theorem sU {hs:List Hp}{k:Nat}:∀ {aS:List Again} {os:List (Option Ans)},(∀p∈wX P hs k aS os,p) →wT P hs k aS
 | [],_,_=>fun a ha=>by cases ha
 | b::aS,[],h0=>fun a ha=>by
  simp only [wX]at h0
  cases ha with
  |head=>exact mQ (fun p hp=>h0 p (List.mem_append_left _ hp))
  |tail _ ha=>exact sU (os:=[]) (fun p hp=>h0 p (List.mem_append_right _ hp)) a ha
 | b::aS,oa::os,h0=>fun a ha=>by
  simp only [wX]at h0
  cases ha with
  |head=>exact mQ (fun p hp=>h0 p (List.mem_append_left _ hp))
  |tail _ ha=>exact sU (os:=os) (fun p hp=>h0 p (List.mem_append_right _ hp)) a ha
def aCO (P:Program)(nt:Nat)(ops:Array Oper)(tm:T AV)(h:Hp)(is:List RIns)(os:List (Option Ans)) :Option (T AV×Hp×List Prop) :=
 let pl:=lU ops
 bif pl.ok then
  match iJ P nt pl.ops is pl.plans {tm,h:={h with nb:=h.nb+pl.fresh},stages:=[],s:=0,pend:=[],next:=h.nb,again:=[]} with
  | some (r,ps,rs) =>bif aDv (keysOf rs)then
    some (r.tm,aV r.h r.s r.pend,ps++wX P (r.h::r.stages) r.s r.again os)else none
  |none=>none
 else none
open Classical in
def aIR (rs:List Rec) :bZ:=fun k c h=>match rs.find? (fun r=>Nat.beq r.1 k)with
 |some r=>if r.2.1=c∧r.2.2.1=h then some r.2.2.2 else none
 |none=>none
theorem aFK :∀ {rs:List Rec},aDv (keysOf rs) =true→∀r∈rs,aIR rs r.1 r.2.1 r.2.2.1=some r.2.2.2
 | r0 :: rs,hn,r,hr=>by
  simp only [keysOf,aDv,Bool.and_eq_true,Bool.not_eq_true']at hn
  unfold aIR
  rw [List.find?_cons]
  rcases List.mem_cons.1 hr with rfl|hr'
  ·simp
  · have hne:Nat.beq r0.1 r.1=false:=by
     cases hb:Nat.beq r0.1 r.1 with
     |false=>rfl
     | true=>
      have e:=Nat.eq_of_beq_eq_true hb
      exfalso
      have:uG r0.1 (keysOf rs) =true:=by
       rw [e]
       clear hn hr hb e
       induction rs with
       |nil=>cases hr'
       | cons x xs ih=>
        simp only [keysOf,uG,Bool.or_eq_true]
        rcases List.mem_cons.1 hr' with rfl|h
        ·exact .inl (by simp)
        ·exact .inr (ih h)
      rw [this]at hn;cases hn.1
    rw [hne]
    exact aFK hn.2 r hr'
theorem aIS {rs:List Rec}(h0:∀r∈rs,Spec P r.2.1 r.2.2.1 (.ret r.2.2.2.1) r.2.2.2.2) :eW P (aIR rs) :=fun k c h v h' e=>by
 unfold aIR at e
 split at e
 · rename_i r hr
   split at e
   · rename_i hc
     obtain⟨rfl,rfl⟩ :=hc
     have:=h0 r (List.mem_of_find?_eq_some hr)
     simp only [Option.some.injEq]at e
     rw [e]at this
     exact this.sound
   ·cases e
 ·cases e
theorem aHn {call:bZ}{nt:Nat}{ops:List Oper}{p:Plan}{r r':RS}(h0:oD P aBs nt ops p r=some r') :oD P call nt ops p r=some r':=by
 unfold oD at h0 ⊢
 split at h0
 ·cases h0
 ·rename_i hw;exact h0
 · rename_i hw
   split at h0
   ·exact h0
   ·exact h0
   ·exact h0
   · simp only at h0 ⊢
     split at h0
     ·exact h0
     · rename_i c hv
       simp only [aBs]at h0
       cases h0
     ·cases h0
theorem aHo {call:bZ}{nt:Nat}{ops:List Oper}{p:Plan}{i:RIns}{r r':RS}{ps:List Prop}{rs:List Rec}(h0:jE P nt ops p i r=some (r',ps,rs))(hp:∀q∈ps,q)(hc:∀x∈rs,call x.1 x.2.1 x.2.2.1=some x.2.2.2) :oD P call nt ops p r=some r':=by
 cases i with
 | d=>
  simp only [jE]at h0
  split at h0
  ·rename_i r1 h1;cases h0;exact aHn h1
  ·cases h0
 |b j v=>cases h0
 | pure v=>
  simp only [jE]at h0
  split at h0
  · rename_i hw hk
    split at h0
    · rename_i f args ha
      split at h0
      · rename_i tm htm
        cases h0
        have:=hc _ (List.mem_singleton_self _)
        simp only at this
        simp only [oD,hw,hk,ha,this,htm]
      ·cases h0
    ·cases h0
  ·cases h0
 | ans a =>
  simp only [jE]at h0
  split at h0
  · rename_i hw hk
    split at h0
    · rename_i v qs hv
      split at h0
      · rename_i tm htm
        cases h0
        simp only [oD,hw,hk,oL hv hp,htm]
      ·cases h0
    ·cases h0
  · rename_i hw hk
    split at h0
    · rename_i v qs hv
      split at h0
      · rename_i tm htm
        cases h0
        simp only [oD,hw,hk,oL hv hp,htm]
      ·cases h0
    ·cases h0
  ·cases h0
 | call v h'=>
  simp only [jE]at h0
  split at h0
  · rename_i hw hk
    split at h0
    · rename_i c ha
      split at h0
      · rename_i tm htm
        cases h0
        have:=hc _ (List.mem_singleton_self _)
        simp only at this
        simp only [oD,hw,hk,ha,this,htm]
      ·cases h0
    ·cases h0
  ·cases h0
 | st y y'=>
  simp only [jE]at h0
  split at h0
  · rename_i hw hk
    split at h0
    · rename_i h' qs hv
      split at h0
      · rename_i tm htm
        cases h0
        simp only [oD,hw,hk,aIQ hv hp,htm]
      ·cases h0
    ·cases h0
  ·cases h0
 | mput es c=>
  simp only [jE]at h0
  split at h0
  · rename_i hw hk
    split at h0
    · rename_i h' qs hv
      split at h0
      · rename_i tm htm
        cases h0
        simp only [oD,hw,hk,aHk hv hp,htm]
      ·cases h0
    ·cases h0
  ·cases h0
 | app zs n=>
  simp only [jE]at h0
  split at h0
  · rename_i hw hk
    split at h0
    · rename_i v h' qs hv
      split at h0
      · rename_i tm htm
        cases h0
        simp only [oD,hw,hk,aAE hv hp,htm]
      ·cases h0
    ·cases h0
  ·cases h0
theorem qU {call:bZ}{nt:Nat}{ops:List Oper}:∀ {is:List RIns} {pl:List Plan} {r r':RS} {ps:List Prop} {rs:List Rec},iJ P nt ops is pl r=some (r',ps,rs) → (∀q∈ps,q) → (∀x∈rs,call x.1 x.2.1 x.2.2.1=some x.2.2.2) →nU P call nt ops pl r=some r'
 | [],[],r,r',ps,rs,h0,_,_=>by simp only [iJ]at h0;cases h0;rfl
 | [],_::_,_,_,_,_,h0,_,_=>by simp [iJ]at h0
 | i :: is,pl,r,r',ps,rs,h0,hp,hc=>by
  by_cases hb:∃j v,i= .b j v
  · obtain⟨j,v,rfl⟩ :=hb
    simp only [iJ]at h0
    split at h0
    · rename_i b hj
      split at h0
      · rename_i r1 qs rs1 h1
        cases h0
        have:=mem1 hp
        subst this
        rw [put_eq hj]at h1
        exact qU h1 (fun q hq=>hp q (List.mem_cons_of_mem _ hq)) hc
      ·cases h0
    ·cases h0
  · cases pl with
    |nil=>cases i<;>simp [iJ]at h0<;>exact absurd ⟨_,_,rfl⟩ hb
    | cons p pl=>
     have h0': (match jE P nt ops p i r with
      |none=>none
      | some (r1,qs,rs) =>match iJ P nt ops is pl r1 with
       |none=>none
       |some (r2,qs2,rs2) =>some (r2,qs++qs2,rs++rs2)) =some (r',ps,rs) :=by
      cases i<;>first|exact h0|exact absurd ⟨_,_,rfl⟩ hb
     split at h0'
     ·cases h0'
     · rename_i r1 qs rs1 h1
       split at h0'
       ·cases h0'
       · rename_i r2 qs2 rs2 h2
         cases h0'
         simp only [nU,aHo (call:=call) h1 (fun q hq=>hp q (List.mem_append_left _ hq)) (fun x hx=>hc x (List.mem_append_left _ hx))]
         exact qU h2 (fun q hq=>hp q (List.mem_append_right _ hq)) (fun x hx=>hc x (List.mem_append_right _ hx))
theorem sV {nt:Nat}{ops:List Oper}:∀ {is:List RIns} {pl:List Plan} {r r':RS} {ps:List Prop} {rs:List Rec},iJ P nt ops is pl r=some (r',ps,rs) → (∀q∈ps,q) →∀x∈rs,Spec P x.2.1 x.2.2.1 (.ret x.2.2.2.1) x.2.2.2.2
 | [],[],r,r',ps,rs,h0,_=>by simp only [iJ]at h0;cases h0;intro x hx;cases hx
 | [],_::_,_,_,_,_,h0,_=>by simp [iJ]at h0
 | i :: is, pl, r, r',ps,rs,h0,hp=>by
  by_cases hb:∃j v,i= .b j v
  · obtain⟨j,v,rfl⟩ :=hb
    simp only [iJ]at h0
    split at h0
    · split at h0
      · rename_i r1 qs rs1 h1
        cases h0
        exact sV h1 (fun q hq=>hp q (List.mem_cons_of_mem _ hq))
      ·cases h0
    ·cases h0
  · cases pl with
    |nil=>cases i<;>simp [iJ]at h0<;>exact absurd ⟨_,_,rfl⟩ hb
    | cons p pl =>
     have h0': (match jE P nt ops p i r with
      |none=>none
      | some (r1,qs,rs) =>match iJ P nt ops is pl r1 with
       |none=>none
       |some (r2,qs2,rs2) =>some (r2,qs++qs2,rs++rs2)) =some (r',ps,rs) :=by
      cases i<;>first|exact h0|exact absurd ⟨_,_,rfl⟩ hb
     split at h0'
     ·cases h0'
     · rename_i r1 qs rs1 h1
       split at h0'
       ·cases h0'
       · rename_i r2 qs2 rs2 h2
         cases h0'
         intro x hx
         rcases List.mem_append.1 hx with g|g
         · cases i with
           | d=>
            simp only [jE]at h1
            split at h1
            ·cases h1;cases g
            ·cases h1
           |b j v=>cases h1
           | pure v=>
            simp only [jE]at h1
            split at h1
            · split at h1
              · rename_i f args ha
                split at h1
                · cases h1
                  rw [List.mem_singleton]at g
                  subst g
                  exact hp _ (List.mem_append_left _ (List.mem_singleton_self _)) _
                ·cases h1
              ·cases h1
            ·cases h1
           | ans a=>
            simp only [jE]at h1
            split at h1
            · split at h1
              · split at h1
                ·cases h1;cases g
                ·cases h1
              ·cases h1
            · split at h1
              · split at h1
                ·cases h1;cases g
                ·cases h1
              ·cases h1
            ·cases h1
           | call v h'=>
            simp only [jE]at h1
            split at h1
            · split at h1
              · rename_i c ha
                split at h1
                · cases h1
                  rw [List.mem_singleton]at g
                  subst g
                  exact hp _ (List.mem_append_left _ (List.mem_singleton_self _))
                ·cases h1
              ·cases h1
            ·cases h1
           | app zs n=>
            simp only [jE]at h1
            split at h1
            · split at h1
              · split at h1
                ·cases h1;cases g
                ·cases h1
              ·cases h1
            ·cases h1
           | mput es c=>
            simp only [jE]at h1
            split at h1
            · split at h1
              · split at h1
                ·cases h1;cases g
                ·cases h1
              ·cases h1
            ·cases h1
           | st y y'=>
            simp only [jE]at h1
            split at h1
            · split at h1
              · split at h1
                ·cases h1;cases g
                ·cases h1
              ·cases h1
            ·cases h1
         ·exact sV h2 (fun q hq=>hp q (List.mem_append_right _ hq)) x g
theorem aAF {m:Nat}{s:AS}{id:Nat}{ops:Array Oper}{k:List AItem}(hm:s.fr.mode= .run)(htd:s.fr.todo= .code (.region id ops true) ::k){is:List RIns}{os:List (Option Ans)}{tm:T AV}{h':Hp}{ps:List Prop}(h0:aCO P s.fr.nt ops s.fr.tm s.h is os=some (tm,h',ps))(hp:∀p∈ps,p) :
  LeadsM P m s ⟨{s.fr with tm,todo:=k},s.cs,h'⟩ :=by
 unfold aCO at h0
 simp only at h0
 cases hok: (lU ops).ok with
 |false=>rw [hok]at h0;cases h0
 | true=>
  rw [hok]at h0;simp only [cond]at h0
  split at h0
  · rename_i r qs rs hr
    cases hn:aDv (keysOf rs)with
    |false=>rw [hn]at h0;cases h0
    | true=>
     rw [hn]at h0;simp only at h0;cases h0
     have hq:∀q∈qs,q:=fun q hq=>hp q (List.mem_append_left _ hq)
     have hst:=qU (call:=aIR rs) hr hq (aFK hn)
     have hck:wT P (r.h::r.stages) r.s r.again:=sU (fun q hq=>hp q (List.mem_append_right _ hq))
     intro hm0 E fr ccs w base f fs rl
     obtain⟨afr,cs,h⟩ :=s
     simp only at hm htd hr hst f fs rl ⊢
     have e:=f.run hm
     generalize fr.fn=fn at e
     generalize fr.tmps=tmps at e
     generalize fr.todo=todo at e
     generalize fr.defers=ds at e
     generalize fr.kind=kd at e
     generalize fr.roundOf=ro at e
     subst e
     have ft:=f.todo
     simp only [htd]at ft
     obtain⟨i,ck,e1,i1,i2⟩ :=ft.cons_inv
     subst e1
     simp only [IR]at i1;subst i1
     obtain⟨E',w',tmps',s1,t1,r1,x1⟩ :=yD (aIS (sV hr hq)) hok hst hck rl f.tm id fn ds kd ro ck (ccs++base)
     exact⟨E',_,ccs,w',s1,⟨f.fn,t1,i2.mono x1.le,f.defers.mono x1.le,by simp only [hm];exact rfl,f.kind,f.round.mono x1.le⟩,fs.mono x1.le,r1,x1.toM hm0⟩
  ·cases h0
theorem aAG :∀ (l:List AV) (t:T AV) (i:Nat),(∀j,j<l.length→t.at (i+j) =l[j]?) →getCells t i l.length=some l
 | [],_,_,_=>rfl
 | a::aS,t,i,h=>by
  have h0:=h 0 (by simp)
  simp only [Nat.add_zero,List.getElem?_cons_zero]at h0
  simp only [List.length_cons,getCells,h0]
  rw [aAG aS t (Nat.succ i) (fun j hj=>by
   have:=h (j+1) (by simp;omega)
   rw [show Nat.succ i+j=i+ (j+1)by omega,this];simp)]
theorem aDw (g:Bool){zc:List AV}{e:Nat}(he:zc.length=e) :∀n,rF g e n (mJ zc n) =List.replicate n (bif g then .agg zc else zc.headD .undef)
 |0=>rfl
 | n +1=>by
  have h1: (zc++mJ zc n).take e=zc:=by rw [←he,List.take_left]
  have h2: (zc++mJ zc n).drop e=mJ zc n:=by rw [←he,List.drop_left]
  rw [mJ,rF,h1,h2,aDw g he n,List.replicate_succ]
  congr 1
  cases g with
  |true=>rfl
  | false=>
   have rn:∀n,mJ ([] :List AV) n= [] :=fun n=>by
    induction n with
    |zero=>rfl
    |succ n ih=>simpa [mJ]using ih
   cases zc with
   |nil=>simp [rn]
   |cons z zs=>rfl
theorem aB9 {zc:List AV}(h:cV zc=true) :∀n,cV (mJ zc n) =true
 |0=>rfl
 | n +1=>by
  have app:∀ (xs ys:List AV),cV xs=true→cV ys=true→cV (xs++ys) =true:=by
   intro xs
   induction xs with
   |nil=>intro ys _ h;exact h
   | cons x xs ih=>
    intro ys h1 h2
    simp only [cV,Bool.and_eq_true]at h1
    simp only [List.cons_append,cV,Bool.and_eq_true]
    exact⟨h1.1,ih ys h1.2 h2⟩
  exact app _ _ h (aB9 h n)
end
end Go.Hb
namespace Go.Hb
variable {P :Program}
theorem aNL {E:Emb}{h:Hp}{H:Array Obj}(r:Rel E h H){b e:Nat}{u:Value}{xs:List AV}(hb:h.look b=some (.lstv u e xs)) :VR E (.gl b e 0 xs.length false) u:=by
 obtain⟨L,hE,C,el,vs,o1,o2,o3,o4,o5,a,cap,q1,q2,q3⟩ :=r.obj b _ hb
 simp only [VR]
 exact .inr ⟨L,a,cap,hE,q1,q2,fun e=> (by cases e),fun hc=>by have:=q3 hc;exact⟨by omega,this.2⟩⟩
theorem Rel.unview {E:Emb}{h:Hp}{H:Array Obj}(r:Rel E h H){b e:Nat}{u:Value}{xs:List AV}(hb:h.look b=some (.lstv u e xs)) :Rel E (h.set b (.lst e xs)) H:=
 r.reobj hb rfl (fun L hL=>by
  obtain⟨C,el,vs,o1,o2,o3,o4,o5,_⟩ :=r.objL hb hL
  exact⟨C,el,vs,o1,o2,o3,o4,o5⟩) rfl rfl rfl
theorem aLK {m:Nat}{h:Hp}{b e o l:Nat}:m≤h.nb→vJ m h h (.gl b e o l true) (.gl b e o l false) :=fun hm E w r=>
 ⟨E,Emb.le.refl E,r,ExtM.refl hm,fun cv hv=>by
  simp only [VR]at hv ⊢
  rcases hv with h1| ⟨L,a,cap,h1,h2,h3,_,h5⟩
  ·exact .inl h1
  ·exact .inr ⟨L,a,cap,h1,h2,h3,(fun e=>by cases e),h5⟩⟩
theorem aHp {m:Nat}{h:Hp}{b e:Nat}{u:Value}{xs:List AV}(hb:h.look b=some (.lstv u e xs)) :m≤h.nb→vJ m h (h.set b (.lst e xs)) (.val u) (.gl b e 0 xs.length false) :=fun hm E w r=>
 ⟨E,Emb.le.refl E,r.unview hb,mA (ExtM.refl hm) hb,fun cv hv=>by
  simp only [VR]at hv
  subst hv
  exact aNL r hb⟩
theorem aQN {m:Nat}{E E':Emb}{h h1 h2:Hp}{w w':World}(x:ExtM m E h w E' h1 w')(hs:∀b o,h2.look b=some o→h1.look b=some o)(hn:h2.nb=h1.nb) :ExtM m E h w E' h2 w':=
 ⟨x.low,x.imm,x.size,x.keep,fun b' o' L' e k hlt=>x.own b' o' L' (hs _ _ e) k hlt,by rw [hn];exact x.nb,x.os,x.tape,x.output,x.froz,x.immo,fun b o e hb=>x.keys b o (hs _ _ e) hb⟩
theorem aLL {m:Nat}{fr:AFrame}{cs:List AFrame}{h:Hp}{b e o eo:Nat}{u:Value}{xs zs ys:List AV}(hb:h.look b=some (.lstv u e xs))(ho:h.look o=some (.lst eo zs))(hne:o≠b)(hz:zs≠ [])(hk:AV.keylessL xs=true)
  (hq:∀ (E:Emb) (vs:List Value),VR E (.ilst e xs false) u→VRs E zs vs→VRs E ys vs) :LeadsM P m ⟨fr,cs,h⟩ ⟨fr,cs,(h.del b).set o (.lst eo ys)⟩ :=fun hm E cf ccs w base f fs r=>by
 have r1:=r.unview hb
 have hb1: (h.set b (.lst e xs)).look b=some (.lst e xs) :=by rw [bL,if_pos rfl]
 have hok:AV.frzOk b e xs xs (.gl b e 0 xs.length false) :=by
  simp only [AV.frzOk]
  intro _
  simp
 obtain⟨E',hle,r2,x2,hv⟩ :=wU (m:=m) hb1 hk hok hm E w r1
 have hu:VR E' (.ilst e xs false) u:=by
  have:=hv u (by
   have:=aNL r hb
   exact this)
  simpa [AV.frz]using this
 have same:∀x ob,(h.del b).look x=some ob→ ((h.set b (.lst e xs)).del b).look x=some ob:=fun x ob e=>by
  rw [nM]at e ⊢
  split at e
  ·cases e
  ·rename_i hx;rw [if_neg hx,bL,if_neg hx];exact e
 have r3:Rel E' (h.del b) w.heap:=r2.sub same (Nat.le_refl _)
 have x3:ExtM m E h w E' (h.del b) w:=aQN ((mA (ExtM.refl hm) hb).trans x2) same rfl
 have ho3: (h.del b).look o=some (.lst eo zs) :=by rw [nM,if_neg hne];exact ho
 have hun:uI (.lst eo zs) =false:=by
  cases zs with
  |nil=>exact absurd rfl hz
  |cons _ _=>rfl
 refine⟨E',cf,ccs,w,Steps.refl _ _,f.mono hle,fs.mono hle,r3.reobj ho3 hun (fun L hL=>?_) rfl rfl rfl,mA x3 ho3⟩
 obtain⟨C,el,vs,o1,o2,o3,o4,o5⟩ :=r3.objL ho3 hL
 exact⟨C,el,vs,o1,o2,hq E' vs hu o3,o4,o5⟩
theorem aQO {m:Nat}{fr:AFrame}{cs:List AFrame}{h:Hp}{b e:Nat}{xs ys:List AV}(hb:h.look b=some (.lst e xs))(hz:xs≠ [])
  (hq:∀ (E:Emb) (vs:List Value),VRs E xs vs→VRs E ys vs) :LeadsM P m ⟨fr,cs,h⟩ ⟨fr,cs,h.set b (.lst e ys)⟩ :=fun hm E cf ccs w base f fs r=>by
 have hun:uI (.lst e xs) =false:=by
  cases xs with
  |nil=>exact absurd rfl hz
  |cons _ _=>rfl
 refine⟨E,cf,ccs,w,Steps.refl _ _,f,fs,r.reobj hb hun (fun L hL=>?_) rfl rfl rfl,mA (ExtM.refl hm) hb⟩
 obtain⟨C,el,vs,o1,o2,o3,o4,o5⟩ :=r.objL hb hL
 exact⟨C,el,vs,o1,o2,hq E vs o3,o4,o5⟩
theorem aOG {m:Nat}{fr:AFrame}{cs:List AFrame}{h:Hp}{j b e n:Nat}{ex:Bool}{xs:List AV}{res:Res}{h':Hp}(hj:fr.tm.at j=some (.gl b e 0 n ex))(hb:h.look b=some (.lst e xs))(hn:xs.length=n)(h0:0<n)
  (hk:∀ua un uc,Ends P m ⟨{fr with tm:=fr.tm.put j (.val (Value.slice ua un uc))},cs,h.set b (.lstv (Value.slice ua un uc) e xs)⟩ res h') :Ends P m ⟨fr,cs,h⟩ res h':=fun hm E cf ccs w f fs r cl base=>by
 obtain⟨cv,g1,g2⟩ :=f.tm.2 _ _ hj
 simp only [VR]at g2
 rcases g2 with⟨z,_⟩ | ⟨L,a,cap,hE,rfl,h1,_,h3⟩
 ·omega
 · have hun:uI (.lst e xs) =false:=by
    cases xs with
    |nil=>simp at hn;omega
    |cons _ _=>rfl
   have f':FR E {fr with tm:=fr.tm.put j (.val (.slice (some ⟨L.blk,a,none⟩) n cap))} cf:=by
    refine⟨f.fn,⟨f.tm.1,fun t v e=>?_⟩,f.todo,f.defers,f.mode,f.kind,f.round⟩
    rw [T.at_put]at e
    split at e
    · rename_i ht;cases e;subst ht
      exact⟨_,g1,by simp only [VR]⟩
    ·exact f.tm.2 t v e
   have r':Rel E (h.set b (.lstv (.slice (some ⟨L.blk,a,none⟩) n cap) e xs)) w.heap:=r.reobj hb hun (fun L' hL'=>by
    obtain⟨C,el,vs,o1,o2,o3,o4,o5⟩ :=r.objL hb hL'
    rw [hE]at hL';cases hL'
    exact⟨C,el,vs,o1,o2,o3,o4,o5,a,cap,by rw [hn],by omega,fun hc=>by have:=h3 hc;exact⟨by omega,this.2⟩⟩) rfl rfl rfl
   obtain⟨cl',w',E',s1,g,r2,x2⟩ :=hk _ _ _ hm E cf ccs w f' fs r' cl base
   exact⟨cl',w',E',s1,g,r2,(mA (ExtM.refl hm) hb).trans x2⟩
theorem aQP {m:Nat}{fr:AFrame}{cs:List AFrame}{h:Hp}{j e:Nat}{ex:Bool}{xs:List AV}{res:Res}{h':Hp}(hj:fr.tm.at j=some (.ilst e xs ex))
  (h1:xs= [] →Ends P m ⟨{fr with tm:=fr.tm.put j .nils},cs,h⟩ res h')
  (h2:∀a n c,Ends P m ⟨{fr with tm:=fr.tm.put j (.val (.slice (some a) n c))},cs,h⟩ res h') :Ends P m ⟨fr,cs,h⟩ res h':=fun hm E cf ccs w f fs r cl base=>by
 obtain⟨cv,g1,g2⟩ :=f.tm.2 _ _ hj
 have put:∀ {v:AV},VR E v cv→FR E {fr with tm:=fr.tm.put j v} cf:=fun {v} hv=>by
  refine⟨f.fn,⟨f.tm.1,fun t v' e=>?_⟩,f.todo,f.defers,f.mode,f.kind,f.round⟩
  rw [T.at_put]at e
  split at e
  · rename_i ht;cases e;subst ht
    exact⟨_,g1,hv⟩
  ·exact f.tm.2 t v' e
 simp only [VR]at g2
 obtain⟨vs,q1,q2⟩ :=g2
 rcases q2.2 with⟨rfl,a,cap,rfl,h3,_⟩ | ⟨k,a,cap,C,rfl,_⟩
 · have hx:xs= [] :=by
    cases xs with
    |nil=>rfl
    |cons x xs=>simp [VRs]at q1
   cases a with
   | none=>
    have:=h3 rfl
    subst this
    exact h1 hx hm E cf ccs w (put (by simp only [VR])) fs r cl base
   |some a=>exact h2 a 0 cap hm E cf ccs w (put (by simp only [VR])) fs r cl base
 ·exact h2 ⟨k,a,none⟩ vs.length cap hm E cf ccs w (put (by simp only [VR])) fs r cl base
def KL (es:List (AV×AV×Nat)) :Prop:=∀e∈es,AV.keyless e.1=true∧AV.keyless e.2.1=true
theorem aQQ {E E':Emb}(he:E.imm=E'.imm) :∀ {es:List (AV×AV×Nat)} {us:List MapEntry},KL es→ERs E es us→ERs E' es us
 | [],_,_,r=>by simpa [ERs]using r
 | e::es,_,hk,r=>by
  simp only [ERs]at r ⊢
  obtain⟨u,us',h1,h2,h3,h4,h5⟩ :=r
  have e2:E.p=E'.p:=by simp [Emb.p,he]
  have k:=hk e (List.mem_cons_self ..)
  have q1:=eS k.1 h2
  have q2:=eS k.2 h3
  rw [e2]at q1 q2
  exact⟨u,us',h1,VR.of_p q1,VR.of_p q2,h4,aQQ he (fun x hx=>hk x (List.mem_cons_of_mem _ hx)) h5⟩
theorem aIT {m:Nat}{fr:AFrame}{cs:List AFrame}{h:Hp}{b c:Nat}{es:List (AV×AV×Nat)}{k v:AV}(hb:h.look b=some (.mapx es c k v)) :
  LeadsM P m ⟨fr,cs,h⟩ ⟨fr,cs,h.set b (.map (es++ [(k,v,c)]) (Nat.succ c))⟩ :=fun hm E cf ccs w base f fs r=>by
 refine⟨E,cf,ccs,w,Steps.refl _ _,f,fs,r.reobj hb rfl (fun L hL=>?_) rfl rfl rfl,mA (ExtM.refl hm) hb⟩
 obtain⟨ES,o1,o2,_⟩ :=r.objL hb hL
 exact⟨ES,o1,o2⟩
theorem aHq {m:Nat}{fr:AFrame}{cs:List AFrame}{h:Hp}{b c c':Nat}{es es':List (AV×AV×Nat)}{k v:AV}(hb:h.look b=some (.map es' c'))(he:es'=es++ [(k,v,c)])(hc:c'=Nat.succ c)(hk:KL es) :
  LeadsM P m ⟨fr,cs,h⟩ ⟨fr,cs,h.set b (.mapx es c k v)⟩ :=fun hm E cf ccs w base f fs r=>by
 refine⟨E,cf,ccs,w,Steps.refl _ _,f,fs,r.reobj hb rfl (fun L hL=>?_) rfl rfl rfl,mA (ExtM.refl hm) hb⟩
 obtain⟨ES,o1,o2⟩ :=r.objL hb hL
 subst he hc
 exact⟨ES,o1,o2,fun E1 E2 us e=>aQQ e hk⟩
theorem aLM {m:Nat}{fr:AFrame}{cs:List AFrame}{h h1:Hp}{b c:Nat}{es:List (AV×AV×Nat)}{k v v':AV}(hb:h.look b=some (.mapx es c k v))(hb1:h1.look b=some (.mapx es c k v))(ht:m≤h.nb→vJ m h h1 v v')(hkk:AV.keyless k=true) :
  LeadsM P m ⟨fr,cs,h⟩ ⟨fr,cs,h1.set b (.map (es++ [(k,v',c)]) (Nat.succ c))⟩ :=fun hm E cf ccs w base f fs r=>by
 obtain⟨E',hle,r',x',hvv⟩ :=ht hm E w r
 refine⟨E',cf,ccs,w,Steps.refl _ _,f.mono hle,fs.mono hle,r'.reobj hb1 rfl (fun L hL=>?_) rfl rfl rfl,mA x' hb1⟩
 obtain⟨L0,hE,ES,o1,o2,o3⟩ :=r.obj _ _ hb rfl
 have:=hle.1 _ _ hE
 rw [hL]at this;cases this
 refine⟨ES,o1,?_⟩
 obtain⟨us,ws,e1,e2,e3⟩ :=ERs.split o2
 rw [e1]
 refine ERs.join (e2.mono hle) ?_
 simp only [ERs]at e3 ⊢
 obtain⟨u,us',q1,q2,q3,q4,q5⟩ :=e3
 exact⟨u,us',q1,q2.mono hle,hvv _ q3,q4,q5⟩
theorem aIU {m:Nat}{fr:AFrame}{cs:List AFrame}{h h1:Hp}{b c:Nat}{es:List (AV×AV×Nat)}{k v v':AV}(hb:h.look b=some (.mapx es c k v))(hb1:h1.look b=some (.mapx es c k v))(ht:m≤h.nb→vJ m h h1 v v') :
  LeadsM P m ⟨fr,cs,h⟩ ⟨fr,cs,h1.set b (.mapx es c k v')⟩ :=fun hm E cf ccs w base f fs r=>by
 obtain⟨E',hle,r',x',hvv⟩ :=ht hm E w r
 refine⟨E',cf,ccs,w,Steps.refl _ _,f.mono hle,fs.mono hle,r'.reobj hb1 rfl (fun L hL=>?_) rfl rfl rfl,mA x' hb1⟩
 obtain⟨L0,hE,ES,o1,o2,o3⟩ :=r.obj _ _ hb rfl
 have:=hle.1 _ _ hE
 rw [hL]at this;cases this
 refine⟨ES,o1,?_,o3⟩
 obtain⟨us,ws,e1,e2,e3⟩ :=ERs.split o2
 rw [e1]
 refine ERs.join (e2.mono hle) ?_
 simp only [ERs]at e3 ⊢
 obtain⟨u,us',q1,q2,q3,q4,q5⟩ :=e3
 exact⟨u,us',q1,q2.mono hle,hvv _ q3,q4,q5⟩
end Go.Hb
