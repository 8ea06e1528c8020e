/-
  OWN WORK (G3, G4, G5, V13, V14, V15, V16, H3, H4, V21, H1, H2, V22): a machine on abstract values, its soundness, ways through the text (the ways WRITTEN BY A PROGRAM), plain laws.
-/
import Derived.Test.YtabmpnmmkeieiaaGreatHF
import Derived.Test.YtabmpnmmkeieiaaGreatHG
set_option linter.unusedVariables false
set_option linter.unusedSimpArgs false
set_option linter.unusedSectionVars false
set_option maxRecDepth 100000
namespace Go.Hb
open Go.Proofs
theorem aUc (n lo hi:Int)(h0:decide (n≥lo) =true) :
  Ends PP 0 (start PP 77 [(nI n),(nI lo),(nI hi)]).as (.ret (bV (decide (n≤hi)))) (aA [] 0) :=
 wE 0 [] [qp h0] [rn 10,bt 10,rn 7] trivial
theorem aUd (n lo hi:Int)(h0:decide (n≥lo) =false) :
  Ends PP 0 (start PP 77 [(nI n),(nI lo),(nI hi)]).as (.ret (bV false)) (aA [] 0) :=
 wE 0 [] [qp h0] [rn 10,bf 10,rn 7] trivial
theorem aRs (n:Int)(y0:Bool)(h0:aE PP 77 [(nI n),(nI (-1000000000)),(nI 1000000000)] (bV y0)) :
  Ends PP 0 (start PP 252 [(nI n)]).as (.ret (bV y0)) (aA [] 0) :=
 wE 0 [] [qp h0] [rn 7,pB y0,rn 3] trivial
noncomputable def mU (s:aX)(p0:Nat) :TS:=
 {fr:={fn:=175,nt:=16,sl:=[(2,(bV false)),(6,(.ptr 0 0))],todo:=[.code (cd Tryz.f175 [1,0,1,0,0]),.inLoop (cd Tryz.f175 [1,0,1,0,0]),.inBlock 0,.code (cd Tryz.f175 [1,1])]},cs:=[],hp:=[(0,(.siter s.length (aF s) p0),false)],nb:=1}
theorem aMI (s:aX) :
  LeadsM PP 0 (start PP 175 [(bO s)]).as (mU s 0).as:=
 wW 1 [0] [] [rn 12] trivial
theorem aMJ (s:aX)(p0 c0 d1:Nat)(h0:p0<s.length)(h1:aGM s.length (aF s) p0=some (c0,d1))(h2:decide (((c0:Nat) :Int) < (97:Int)) =true) :
  Ends PP 0 (mU s p0).as (.ret (bV false)) (aA [] 0) :=
 wE 1 [] [qp h0,qp h1,qp h2] [rn 2,.nxt c0 d1,rn 16,bt 12,rn 10] trivial
theorem aMK (s:aX)(p0 c0 d1:Nat)(h0:p0<s.length)(h1:aGM s.length (aF s) p0=some (c0,d1))(h2:decide (((c0:Nat) :Int) < (97:Int)) =false)(h3:decide (((c0:Nat) :Int) > (122:Int)) =true) :
  Ends PP 0 (mU s p0).as (.ret (bV false)) (aA [] 0) :=
 wE 1 [] [qp h0,qp h1,qp h2,qp h3] [rn 2,.nxt c0 d1,rn 16,bf 12,rn 4,bt 15,rn 6] trivial
theorem aML (s:aX)(p0 c0 d1:Nat)(h0:p0<s.length)(h1:aGM s.length (aF s) p0=some (c0,d1))(h2:decide (((c0:Nat) :Int) < (97:Int)) =false)(h3:decide (((c0:Nat) :Int) > (122:Int)) =false) :
  LeadsM PP 0 (mU s p0).as (mU s (Nat.add p0 d1)).as:=
 wW 1 [0] [qp h0,qp h1,qp h2,qp h3] [rn 2,.nxt c0 d1,rn 16,bf 12,rn 4,bf 15,rn 4] trivial
theorem aMM (s:aX)(p0:Nat)(h0:s.length≤p0) :
  Ends PP 0 (mU s p0).as (.ret (bV true)) (aA [] 0) :=
 wE 1 [] [qp h0] [rn 2,.nxtE,rn 10] trivial
theorem aMN (s:aX)(y0:UInt8)(y1:Bool)(h0: (!(dR s.length (aF s) 0 0)) =true)(h1:decide ((s.length:Int) ≤ (8:Int)) =true)(h2: (s)[0]?=some y0)(h3:decide (((y0.toNat:Nat) :Int) ≥ (65:Int)) =true)(h4:decide (((y0.toNat:Nat) :Int) ≤ (90:Int)) =true)(h5:1≤List.length s)(h6:aE PP 175 [(bO (List.drop 1 s))] (bV y1)) :
  Ends PP 0 (start PP 179 [(bO s)]).as (.ret (bV y1)) (aA [] 0) :=
 wE 0 [] [qp h0,qp h1,qp (p:=0≤ (0:Int)) (by decide),qp (p:= (0:Int) < (s.length:Int)) (kU (k:= (0:Int)) (by decide) h2),qp (p:=AV.int .u8 ((Nat.mod (Nat.div (aF s) (Nat.pow 256 (0:Int).toNat)) 256:Nat) :Int) = (.int .u8 ((y0.toNat:Nat) :Int))) (kV (k:= (0:Int)) h2),qp h3,qp (p:=0≤ (0:Int)) (by decide),qp (p:= (0:Int) < (s.length:Int)) (kU (k:= (0:Int)) (by decide) h2),qp (p:=AV.int .u8 ((Nat.mod (Nat.div (aF s) (Nat.pow 256 (0:Int).toNat)) 256:Nat) :Int) = (.int .u8 ((y0.toNat:Nat) :Int))) (kV (k:= (0:Int)) h2),qp h4,qp (p:=aLR PP 9 (bO s) (some (nI 1)) none (bO (List.drop 1 s))) (aCb (k:= (1:Int)) (by kernel_rfl) (by decide) h5),qp h6] [rn 9,bt 5,rn 5,bt 10,rn 1,.ans (.ev (.int .u8 ((y0.toNat:Nat) :Int))),rn 3,bt 15,rn 1,.ans (.ev (.int .u8 ((y0.toNat:Nat) :Int))),rn 3,bt 20,rn 1,.ans (.ev (bO (List.drop 1 s))),pB y1,rn 4] trivial
theorem aMO (s:aX)(y0:UInt8)(h0: (!(dR s.length (aF s) 0 0)) =true)(h1:decide ((s.length:Int) ≤ (8:Int)) =true)(h2: (s)[0]?=some y0)(h3:decide (((y0.toNat:Nat) :Int) ≥ (65:Int)) =true)(h4:decide (((y0.toNat:Nat) :Int) ≤ (90:Int)) =false) :
  Ends PP 0 (start PP 179 [(bO s)]).as (.ret (bV false)) (aA [] 0) :=
 wE 0 [] [qp h0,qp h1,qp (p:=0≤ (0:Int)) (by decide),qp (p:= (0:Int) < (s.length:Int)) (kU (k:= (0:Int)) (by decide) h2),qp (p:=AV.int .u8 ((Nat.mod (Nat.div (aF s) (Nat.pow 256 (0:Int).toNat)) 256:Nat) :Int) = (.int .u8 ((y0.toNat:Nat) :Int))) (kV (k:= (0:Int)) h2),qp h3,qp (p:=0≤ (0:Int)) (by decide),qp (p:= (0:Int) < (s.length:Int)) (kU (k:= (0:Int)) (by decide) h2),qp (p:=AV.int .u8 ((Nat.mod (Nat.div (aF s) (Nat.pow 256 (0:Int).toNat)) 256:Nat) :Int) = (.int .u8 ((y0.toNat:Nat) :Int))) (kV (k:= (0:Int)) h2),qp h4] [rn 9,bt 5,rn 5,bt 10,rn 1,.ans (.ev (.int .u8 ((y0.toNat:Nat) :Int))),rn 3,bt 15,rn 1,.ans (.ev (.int .u8 ((y0.toNat:Nat) :Int))),rn 3,bf 20,rn 7] trivial
theorem aMP (s:aX)(y0:UInt8)(h0: (!(dR s.length (aF s) 0 0)) =true)(h1:decide ((s.length:Int) ≤ (8:Int)) =true)(h2: (s)[0]?=some y0)(h3:decide (((y0.toNat:Nat) :Int) ≥ (65:Int)) =false) :
  Ends PP 0 (start PP 179 [(bO s)]).as (.ret (bV false)) (aA [] 0) :=
 wE 0 [] [qp h0,qp h1,qp (p:=0≤ (0:Int)) (by decide),qp (p:= (0:Int) < (s.length:Int)) (kU (k:= (0:Int)) (by decide) h2),qp (p:=AV.int .u8 ((Nat.mod (Nat.div (aF s) (Nat.pow 256 (0:Int).toNat)) 256:Nat) :Int) = (.int .u8 ((y0.toNat:Nat) :Int))) (kV (k:= (0:Int)) h2),qp h3] [rn 9,bt 5,rn 5,bt 10,rn 1,.ans (.ev (.int .u8 ((y0.toNat:Nat) :Int))),rn 3,bf 15,rn 12] trivial
theorem aMQ (s:aX)(h0: (!(dR s.length (aF s) 0 0)) =true)(h1:decide ((s.length:Int) ≤ (8:Int)) =false) :
  Ends PP 0 (start PP 179 [(bO s)]).as (.ret (bV false)) (aA [] 0) :=
 wE 0 [] [qp h0,qp h1] [rn 9,bt 5,rn 5,bf 10,rn 17] trivial
theorem aMR (s:aX)(h0: (!(dR s.length (aF s) 0 0)) =false) :
  Ends PP 0 (start PP 179 [(bO s)]).as (.ret (bV false)) (aA [] 0) :=
 wE 0 [] [qp h0] [rn 9,bf 5,rn 22] trivial
theorem aRt (c:Con)(y0 y1:Bool)(h0:aE PP 179 [(bO c.name)] (bV y0))(h1:y0=true)(h2:aE PP 77 [(nI c.args),(nI 0),(nI 3)] (bV y1)) :
  Ends PP 0 (start PP 156 [(.agg [(bO c.name),(nI c.args)])]).as (.ret (bV y1)) (aA [] 0) :=
 wE 1 [] [qp h0,qp h1,qp h2] [rn 9,pB y0,rn 1,bt 6,rn 2,pB y1,rn 4] trivial
theorem aRu (c:Con)(y0:Bool)(h0:aE PP 179 [(bO c.name)] (bV y0))(h1:y0=false) :
  Ends PP 0 (start PP 156 [(.agg [(bO c.name),(nI c.args)])]).as (.ret (bV false)) (aA [] 0) :=
 wE 1 [] [qp h0,qp h1] [rn 9,pB y0,rn 1,bf 6,rn 7] trivial
theorem aJO (p:Prog)(x:Node)(y0:Bool)(h0: (x.op== (1:Int)) =true)(h1:aE PP 252 [(nI x.n)] (bV y0)) :
  Ends PP 0 (start PP 210 [(Prog.av p),(Node.av x)]).as (.ret (bV y0)) (aA [] 0) :=
 wE 2 [] [qp h0,qp h1] [rn 18,bt 7,rn 5,pB y0,rn 3] trivial
theorem aJP (p:Prog)(x:Node)(y0:Bool)(h0: (x.op== (1:Int)) =false)(h1: (x.op== (2:Int)) =true)(h2:aE PP 77 [(nI x.n),(nI 0),(nI 1)] (bV y0)) :
  Ends PP 0 (start PP 210 [(Prog.av p),(Node.av x)]).as (.ret (bV y0)) (aA [] 0) :=
 wE 2 [] [qp h0,qp h1,qp h2] [rn 18,bf 7,rn 6,bt 12,rn 5,pB y0,rn 3] trivial
theorem aJQ (p:Prog)(x:Node)(y0:Bool)(h0: (x.op== (1:Int)) =false)(h1: (x.op== (2:Int)) =false)(h2: (x.op== (24:Int)) =true)(h3:aE PP 77 [(nI x.n),(nI 0),(nI 3)] (bV y0)) :
  Ends PP 0 (start PP 210 [(Prog.av p),(Node.av x)]).as (.ret (bV y0)) (aA [] 0) :=
 wE 2 [] [qp h0,qp h1,qp h2,qp h3] [rn 18,bf 7,rn 6,bf 12,rn 6,bt 17,rn 5,pB y0,rn 3] trivial
theorem aJR (p:Prog)(x:Node)(y0:Bool)(h0: (x.op== (1:Int)) =false)(h1: (x.op== (2:Int)) =false)(h2: (x.op== (24:Int)) =false)(h3: (x.op== (4:Int)) =true)(h4: (IntKind.i64.wrap (0- (p.funs.length:Int))) = (0- (p.funs.length:Int)))(h5:aE PP 77 [(nI x.n),(nI (0- (p.funs.length:Int))),(nI 29)] (bV y0)) :
  Ends PP 0 (start PP 210 [(Prog.av p),(Node.av x)]).as (.ret (bV y0)) (aA [] 0) :=
 wE 2 [] [qp h0,qp h1,qp h2,qp h3,ql aB p.funs,qp (congrArg (AV.int .i64) h4),qp h5] [rn 18,bf 7,rn 6,bf 12,rn 6,bf 17,rn 6,bt 22,rn 8,aL p.funs,rn 1,sI 30 (0- (p.funs.length:Int)),pB y0,rn 3] trivial
theorem aJS (p:Prog)(x:Node)(h0: (x.op== (1:Int)) =false)(h1: (x.op== (2:Int)) =false)(h2: (x.op== (24:Int)) =false)(h3: (x.op== (4:Int)) =false)(h4: (x.op== (14:Int)) =true) :
  Ends PP 0 (start PP 210 [(Prog.av p),(Node.av x)]).as (.ret (bV true)) (aA [] 0) :=
 wE 2 [] [qp h0,qp h1,qp h2,qp h3,qp h4] [rn 18,bf 7,rn 6,bf 12,rn 6,bf 17,rn 6,bf 22,rn 6,bt 32,rn 6] trivial
theorem aJT (p:Prog)(x:Node)(h0: (x.op== (1:Int)) =false)(h1: (x.op== (2:Int)) =false)(h2: (x.op== (24:Int)) =false)(h3: (x.op== (4:Int)) =false)(h4: (x.op== (14:Int)) =false) :
  Ends PP 0 (start PP 210 [(Prog.av p),(Node.av x)]).as (.ret (bV (x.n== (0:Int)))) (aA [] 0) :=
 wE 2 [] [qp h0,qp h1,qp h2,qp h3,qp h4] [rn 18,bf 7,rn 6,bf 12,rn 6,bf 17,rn 6,bf 22,rn 6,bf 32,rn 11] trivial
noncomputable def rR (p_form p_n:Int)(p_text:aX)(p_parts:List Pat)(most n5 t11:Int) :TS:=
 {fr:={fn:=208,nt:=27,sl:=[(1,(nI most)),(4,(nI 0)),(5,(nI n5)),(9,(iP p_parts)),(10,(nI (p_parts.length:Int))),(11,(nI t11))],todo:=[.code (cd Tryz.f208 [1,1,0,1,0,0]),.inLoop (cd Tryz.f208 [1,1,0,1,0,0]),.inBlock 0,.code (cd Tryz.f208 [1,1,1])]},cs:=[],hp:=[],nb:=0}
theorem aPv (p_form p_n:Int)(p_text:aX)(p_parts:List Pat)(most:Int) :
  LeadsM PP 0 (start PP 208 [(.agg [(nI p_form),(nI p_n),(bO p_text),(iP p_parts)]),(nI most)]).as (rR p_form p_n p_text p_parts most 1 0).as:=
 wW 1 [] [fU p_parts] [rn 14,aL p_parts,rn 4] trivial
theorem aPw (p_form p_n:Int)(p_text:aX)(p_parts:List Pat)(most n5:Int)(t11 y_form0 y_n1:Int)(y_text2:aX)(y_parts3:List Pat)(h0:decide (t11< (p_parts.length:Int)) =true)(h1:0≤t11)(h2: ((p_parts)[t11.toNat]?) =some (Pat.mk y_form0 y_n1 y_text2 y_parts3))(h3:decide (n5>most) =true) :
  Ends PP 0 (rR p_form p_n p_text p_parts most n5 t11).as (.ret (nI n5)) (aA [] 0) :=
 wE 1 [] [qp h0,qp h1,qgP h2,qp h3] [rn 5,bt 12,rn 6,aI (Pat.av (Pat.mk y_form0 y_n1 y_text2 y_parts3)),rn 11,bt 17,rn 8] trivial
theorem aPx (p_form p_n:Int)(p_text:aX)(p_parts:List Pat)(most n5:Int)(t11 y_form0 y_n1:Int)(y_text2:aX)(y_parts3:List Pat)(y4:Int)(h0:decide (t11< (p_parts.length:Int)) =true)(h1:0≤t11)(h2: ((p_parts)[t11.toNat]?) =some (Pat.mk y_form0 y_n1 y_text2 y_parts3))(h3:decide (n5>most) =false)(h4: (IntKind.i64.wrap (most-n5)) = (most-n5))(h5:aE PP 208 [(.agg [(nI y_form0),(nI y_n1),(bO y_text2),(iP y_parts3)]),(nI (most-n5))] (nI y4))(h6: (IntKind.i64.wrap (n5+y4)) = (n5+y4))(h7: (IntKind.i64.wrap (t11+ (1:Int))) = (t11+ (1:Int))) :
  LeadsM PP 0 (rR p_form p_n p_text p_parts most n5 t11).as (rR p_form p_n p_text p_parts most (n5+y4) (t11+ (1:Int))).as:=
 wW 1 [] [qp h0,qp h1,qgP h2,qp h3,qp (congrArg (AV.int .i64) h4),qp h5,qp (congrArg (AV.int .i64) h6),qp (congrArg (AV.int .i64) h7)] [rn 5,bt 12,rn 6,aI (Pat.av (Pat.mk y_form0 y_n1 y_text2 y_parts3)),rn 11,bf 17,rn 8,sI 22 (most-n5),.pure (nI y4),rn 1,sI 24 (n5+y4),rn 5,sI 25 (t11+ (1:Int)),rn 3] trivial
theorem aPy (p_form p_n:Int)(p_text:aX)(p_parts:List Pat)(most n5 t11:Int)(h0:decide (t11< (p_parts.length:Int)) =false) :
  Ends PP 0 (rR p_form p_n p_text p_parts most n5 t11).as (.ret (nI n5)) (aA [] 0) :=
 wE 0 [] [qp h0] [rn 5,bf 12,rn 8] trivial
theorem aRv (p:Prog)(q_form q_n:Int)(q_text:aX)(q_parts:List Pat)(h0: (!(dR q_text.length (aF q_text) 0 0)) =true) :
  Ends PP 0 (start PP 209 [(Prog.av p),(.agg [(nI q_form),(nI q_n),(bO q_text),(iP q_parts)])]).as (.ret (bV false)) (aA [] 0) :=
 wE 2 [] [qp h0] [rn 13,bt 8,rn 14] trivial
theorem aRw (p:Prog)(q_form q_n:Int)(q_text:aX)(q_parts:List Pat)(y0:Bool)(h0: (!(dR q_text.length (aF q_text) 0 0)) =false)(h1:aE PP 211 [(iP q_parts),(.func 209 [(Prog.av p)] [])] (bV y0))(h2: (!y0) =true) :
  Ends PP 0 (start PP 209 [(Prog.av p),(.agg [(nI q_form),(nI q_n),(bO q_text),(iP q_parts)])]).as (.ret (bV false)) (aA [] 0) :=
 wE 2 [] [qp h0,qp h1,qp h2] [rn 13,bf 8,rn 4,pB y0,rn 3,bt 15,rn 6] trivial
theorem aRx (p:Prog)(q_form q_n:Int)(q_text:aX)(q_parts:List Pat)(y0:Bool)(h0: (!(dR q_text.length (aF q_text) 0 0)) =false)(h1:aE PP 211 [(iP q_parts),(.func 209 [(Prog.av p)] [])] (bV y0))(h2: (!y0) =false)(h3: (q_form== (1:Int)) =true)(h4: (q_n== (0:Int)) =true) :
  Ends PP 0 (start PP 209 [(Prog.av p),(.agg [(nI q_form),(nI q_n),(bO q_text),(iP q_parts)])]).as (.ret (bV ((q_parts.length:Int) == (0:Int)))) (aA [] 0) :=
 wE 2 [] [qp h0,qp h1,qp h2,qp h3,qp h4,fU q_parts] [rn 13,bf 8,rn 4,pB y0,rn 3,bf 15,rn 15,bt 18,rn 9,bt 25,rn 2,aL q_parts,rn 5] trivial
theorem aRy (p:Prog)(q_form q_n:Int)(q_text:aX)(q_parts:List Pat)(y0:Bool)(h0: (!(dR q_text.length (aF q_text) 0 0)) =false)(h1:aE PP 211 [(iP q_parts),(.func 209 [(Prog.av p)] [])] (bV y0))(h2: (!y0) =false)(h3: (q_form== (1:Int)) =true)(h4: (q_n== (0:Int)) =false) :
  Ends PP 0 (start PP 209 [(Prog.av p),(.agg [(nI q_form),(nI q_n),(bO q_text),(iP q_parts)])]).as (.ret (bV false)) (aA [] 0) :=
 wE 2 [] [qp h0,qp h1,qp h2,qp h3,qp h4] [rn 13,bf 8,rn 4,pB y0,rn 3,bf 15,rn 15,bt 18,rn 9,bf 25,rn 8] trivial
theorem aRz (p:Prog)(q_form q_n:Int)(q_text:aX)(q_parts:List Pat)(y0:Bool)(h0: (!(dR q_text.length (aF q_text) 0 0)) =false)(h1:aE PP 211 [(iP q_parts),(.func 209 [(Prog.av p)] [])] (bV y0))(h2: (!y0) =false)(h3: (q_form== (1:Int)) =false)(h4: (q_form== (2:Int)) =true)(h5: (q_n== (0:Int)) =true) :
  Ends PP 0 (start PP 209 [(Prog.av p),(.agg [(nI q_form),(nI q_n),(bO q_text),(iP q_parts)])]).as (.ret (bV ((q_parts.length:Int) == (0:Int)))) (aA [] 0) :=
 wE 2 [] [qp h0,qp h1,qp h2,qp h3,qp h4,qp h5,fU q_parts] [rn 13,bf 8,rn 4,pB y0,rn 3,bf 15,rn 15,bf 18,rn 6,bt 18,rn 9,bt 25,rn 2,aL q_parts,rn 5] trivial
theorem aRA (p:Prog)(q_form q_n:Int)(q_text:aX)(q_parts:List Pat)(y0:Bool)(h0: (!(dR q_text.length (aF q_text) 0 0)) =false)(h1:aE PP 211 [(iP q_parts),(.func 209 [(Prog.av p)] [])] (bV y0))(h2: (!y0) =false)(h3: (q_form== (1:Int)) =false)(h4: (q_form== (2:Int)) =true)(h5: (q_n== (0:Int)) =false) :
  Ends PP 0 (start PP 209 [(Prog.av p),(.agg [(nI q_form),(nI q_n),(bO q_text),(iP q_parts)])]).as (.ret (bV false)) (aA [] 0) :=
 wE 2 [] [qp h0,qp h1,qp h2,qp h3,qp h4,qp h5] [rn 13,bf 8,rn 4,pB y0,rn 3,bf 15,rn 15,bf 18,rn 6,bt 18,rn 9,bf 25,rn 8] trivial
theorem aRB (p:Prog)(q_form q_n:Int)(q_text:aX)(q_parts:List Pat)(y0:Bool)(h0: (!(dR q_text.length (aF q_text) 0 0)) =false)(h1:aE PP 211 [(iP q_parts),(.func 209 [(Prog.av p)] [])] (bV y0))(h2: (!y0) =false)(h3: (q_form== (1:Int)) =false)(h4: (q_form== (2:Int)) =false)(h5: (q_form== (5:Int)) =true)(h6: (q_n== (0:Int)) =true) :
  Ends PP 0 (start PP 209 [(Prog.av p),(.agg [(nI q_form),(nI q_n),(bO q_text),(iP q_parts)])]).as (.ret (bV ((q_parts.length:Int) == (0:Int)))) (aA [] 0) :=
 wE 2 [] [qp h0,qp h1,qp h2,qp h3,qp h4,qp h5,qp h6,fU q_parts] [rn 13,bf 8,rn 4,pB y0,rn 3,bf 15,rn 15,bf 18,rn 6,bf 18,rn 5,bt 18,rn 7,bt 25,rn 2,aL q_parts,rn 5] trivial
theorem aRC (p:Prog)(q_form q_n:Int)(q_text:aX)(q_parts:List Pat)(y0:Bool)(h0: (!(dR q_text.length (aF q_text) 0 0)) =false)(h1:aE PP 211 [(iP q_parts),(.func 209 [(Prog.av p)] [])] (bV y0))(h2: (!y0) =false)(h3: (q_form== (1:Int)) =false)(h4: (q_form== (2:Int)) =false)(h5: (q_form== (5:Int)) =true)(h6: (q_n== (0:Int)) =false) :
  Ends PP 0 (start PP 209 [(Prog.av p),(.agg [(nI q_form),(nI q_n),(bO q_text),(iP q_parts)])]).as (.ret (bV false)) (aA [] 0) :=
 wE 2 [] [qp h0,qp h1,qp h2,qp h3,qp h4,qp h5,qp h6] [rn 13,bf 8,rn 4,pB y0,rn 3,bf 15,rn 15,bf 18,rn 6,bf 18,rn 5,bt 18,rn 7,bf 25,rn 8] trivial
theorem aRD (p:Prog)(q_form q_n:Int)(q_text:aX)(q_parts:List Pat)(y0 y1:Bool)(h0: (!(dR q_text.length (aF q_text) 0 0)) =false)(h1:aE PP 211 [(iP q_parts),(.func 209 [(Prog.av p)] [])] (bV y0))(h2: (!y0) =false)(h3: (q_form== (1:Int)) =false)(h4: (q_form== (2:Int)) =false)(h5: (q_form== (5:Int)) =false)(h6: (q_form== (3:Int)) =true)(h7:aE PP 252 [(nI q_n)] (bV y1))(h8:y1=true) :
  Ends PP 0 (start PP 209 [(Prog.av p),(.agg [(nI q_form),(nI q_n),(bO q_text),(iP q_parts)])]).as (.ret (bV ((q_parts.length:Int) == (0:Int)))) (aA [] 0) :=
 wE 2 [] [qp h0,qp h1,qp h2,qp h3,qp h4,qp h5,qp h6,qp h7,qp h8,fU q_parts] [rn 13,bf 8,rn 4,pB y0,rn 3,bf 15,rn 15,bf 18,rn 6,bf 18,rn 5,bf 18,rn 6,bt 31,rn 5,pB y1,rn 1,bt 36,rn 2,aL q_parts,rn 5] trivial
theorem aRE (p:Prog)(q_form q_n:Int)(q_text:aX)(q_parts:List Pat)(y0 y1:Bool)(h0: (!(dR q_text.length (aF q_text) 0 0)) =false)(h1:aE PP 211 [(iP q_parts),(.func 209 [(Prog.av p)] [])] (bV y0))(h2: (!y0) =false)(h3: (q_form== (1:Int)) =false)(h4: (q_form== (2:Int)) =false)(h5: (q_form== (5:Int)) =false)(h6: (q_form== (3:Int)) =true)(h7:aE PP 252 [(nI q_n)] (bV y1))(h8:y1=false) :
  Ends PP 0 (start PP 209 [(Prog.av p),(.agg [(nI q_form),(nI q_n),(bO q_text),(iP q_parts)])]).as (.ret (bV false)) (aA [] 0) :=
 wE 2 [] [qp h0,qp h1,qp h2,qp h3,qp h4,qp h5,qp h6,qp h7,qp h8] [rn 13,bf 8,rn 4,pB y0,rn 3,bf 15,rn 15,bf 18,rn 6,bf 18,rn 5,bf 18,rn 6,bt 31,rn 5,pB y1,rn 1,bf 36,rn 8] trivial
theorem aPz (p:Prog)(q_form q_n:Int)(q_text:aX)(q_parts:List Pat)(y0 y1:Bool)(h0: (!(dR q_text.length (aF q_text) 0 0)) =false)(h1:aE PP 211 [(iP q_parts),(.func 209 [(Prog.av p)] [])] (bV y0))(h2: (!y0) =false)(h3: (q_form== (1:Int)) =false)(h4: (q_form== (2:Int)) =false)(h5: (q_form== (5:Int)) =false)(h6: (q_form== (3:Int)) =false)(h7: (q_form== (4:Int)) =true)(h8:aE PP 77 [(nI q_n),(nI 0),(nI 1)] (bV y1))(h9:y1=true) :
  Ends PP 0 (start PP 209 [(Prog.av p),(.agg [(nI q_form),(nI q_n),(bO q_text),(iP q_parts)])]).as (.ret (bV ((q_parts.length:Int) == (0:Int)))) (aA [] 0) :=
 wE 2 [] [qp h0,qp h1,qp h2,qp h3,qp h4,qp h5,qp h6,qp h7,qp h8,qp h9,fU q_parts] [rn 13,bf 8,rn 4,pB y0,rn 3,bf 15,rn 15,bf 18,rn 6,bf 18,rn 5,bf 18,rn 6,bf 31,rn 6,bt 42,rn 5,pB y1,rn 1,bt 47,rn 2,aL q_parts,rn 5] trivial
theorem aPA (p:Prog)(q_form q_n:Int)(q_text:aX)(q_parts:List Pat)(y0 y1:Bool)(h0: (!(dR q_text.length (aF q_text) 0 0)) =false)(h1:aE PP 211 [(iP q_parts),(.func 209 [(Prog.av p)] [])] (bV y0))(h2: (!y0) =false)(h3: (q_form== (1:Int)) =false)(h4: (q_form== (2:Int)) =false)(h5: (q_form== (5:Int)) =false)(h6: (q_form== (3:Int)) =false)(h7: (q_form== (4:Int)) =true)(h8:aE PP 77 [(nI q_n),(nI 0),(nI 1)] (bV y1))(h9:y1=false) :
  Ends PP 0 (start PP 209 [(Prog.av p),(.agg [(nI q_form),(nI q_n),(bO q_text),(iP q_parts)])]).as (.ret (bV false)) (aA [] 0) :=
 wE 2 [] [qp h0,qp h1,qp h2,qp h3,qp h4,qp h5,qp h6,qp h7,qp h8,qp h9] [rn 13,bf 8,rn 4,pB y0,rn 3,bf 15,rn 15,bf 18,rn 6,bf 18,rn 5,bf 18,rn 6,bf 31,rn 6,bt 42,rn 5,pB y1,rn 1,bf 47,rn 8] trivial
theorem aPB (p:Prog)(q_form q_n:Int)(q_text:aX)(q_parts:List Pat)(y0 y1:Bool)(y2:Con)(h0: (!(dR q_text.length (aF q_text) 0 0)) =false)(h1:aE PP 211 [(iP q_parts),(.func 209 [(Prog.av p)] [])] (bV y0))(h2: (!y0) =false)(h3: (q_form== (1:Int)) =false)(h4: (q_form== (2:Int)) =false)(h5: (q_form== (5:Int)) =false)(h6: (q_form== (3:Int)) =false)(h7: (q_form== (4:Int)) =false)(h8: (q_form== (6:Int)) =true)(h9:aE PP 77 [(nI q_n),(nI 0),(nI (IntKind.i64.wrap ((p.cons.length:Int) - (1:Int))))] (bV y1))(h10:y1=true)(h11:0≤q_n)(h12: ((p.cons)[q_n.toNat]?) =some y2) :
  Ends PP 0 (start PP 209 [(Prog.av p),(.agg [(nI q_form),(nI q_n),(bO q_text),(iP q_parts)])]).as (.ret (bV ((q_parts.length:Int) ==y2.args))) (aA [] 0) :=
 wE 2 [] [qp h0,qp h1,qp h2,qp h3,qp h4,qp h5,qp h6,qp h7,qp h8,ql Con.av p.cons,qp h9,qp h10,fU q_parts,qp h11,qg Con.av h12] [rn 13,bf 8,rn 4,pB y0,rn 3,bf 15,rn 15,bf 18,rn 6,bf 18,rn 5,bf 18,rn 6,bf 31,rn 6,bf 42,rn 6,bt 53,rn 2,.reg [.d,.d,.d,.d,.d,.ans (.len (p.cons.length:Int)),.d,.pure (bV y1),.d,.b 63 true,.d,.d,.ans (.len (q_parts.length:Int)),.d,.d,.d,.d,.d,.ans (.idx (Con.av y2)),.d,.d,.d,.d,.d],rn 1] trivial
theorem aPC (p:Prog)(q_form q_n:Int)(q_text:aX)(q_parts:List Pat)(y0 y1:Bool)(h0: (!(dR q_text.length (aF q_text) 0 0)) =false)(h1:aE PP 211 [(iP q_parts),(.func 209 [(Prog.av p)] [])] (bV y0))(h2: (!y0) =false)(h3: (q_form== (1:Int)) =false)(h4: (q_form== (2:Int)) =false)(h5: (q_form== (5:Int)) =false)(h6: (q_form== (3:Int)) =false)(h7: (q_form== (4:Int)) =false)(h8: (q_form== (6:Int)) =true)(h9:aE PP 77 [(nI q_n),(nI 0),(nI (IntKind.i64.wrap ((p.cons.length:Int) - (1:Int))))] (bV y1))(h10:y1=false) :
  Ends PP 0 (start PP 209 [(Prog.av p),(.agg [(nI q_form),(nI q_n),(bO q_text),(iP q_parts)])]).as (.ret (bV false)) (aA [] 0) :=
 wE 2 [] [qp h0,qp h1,qp h2,qp h3,qp h4,qp h5,qp h6,qp h7,qp h8,ql Con.av p.cons,qp h9,qp h10] [rn 13,bf 8,rn 4,pB y0,rn 3,bf 15,rn 15,bf 18,rn 6,bf 18,rn 5,bf 18,rn 6,bf 31,rn 6,bf 42,rn 6,bt 53,rn 2,.reg [.d,.d,.d,.d,.d,.ans (.len (p.cons.length:Int)),.d,.pure (bV y1),.d,.b 63 false,.d,.d,.d,.d,.d,.d,.d,.d,.d,.d,.d,.d,.d,.d],rn 1] trivial
theorem aPD (p:Prog)(q_form q_n:Int)(q_text:aX)(q_parts:List Pat)(y0:Bool)(h0: (!(dR q_text.length (aF q_text) 0 0)) =false)(h1:aE PP 211 [(iP q_parts),(.func 209 [(Prog.av p)] [])] (bV y0))(h2: (!y0) =false)(h3: (q_form== (1:Int)) =false)(h4: (q_form== (2:Int)) =false)(h5: (q_form== (5:Int)) =false)(h6: (q_form== (3:Int)) =false)(h7: (q_form== (4:Int)) =false)(h8: (q_form== (6:Int)) =false) :
  Ends PP 0 (start PP 209 [(Prog.av p),(.agg [(nI q_form),(nI q_n),(bO q_text),(iP q_parts)])]).as (.ret (bV false)) (aA [] 0) :=
 wE 2 [] [qp h0,qp h1,qp h2,qp h3,qp h4,qp h5,qp h6,qp h7,qp h8] [rn 13,bf 8,rn 4,pB y0,rn 3,bf 15,rn 15,bf 18,rn 6,bf 18,rn 5,bf 18,rn 6,bf 31,rn 6,bf 42,rn 6,bf 53,rn 8] trivial
theorem aJU (op:Int)(h0: (op== (1:Int)) =true) :
  Ends PP 0 (start PP 206 [(nI op)]).as (.ret (.iface 306 (nI 0))) (aA [] 0) :=
 wE 0 [] [qp h0] [rn 16,bt 4,rn 9] trivial
theorem aJV (op:Int)(h0: (op== (1:Int)) =false)(h1: (op== (2:Int)) =true) :
  Ends PP 0 (start PP 206 [(nI op)]).as (.ret (.iface 306 (nI 0))) (aA [] 0) :=
 wE 0 [] [qp h0,qp h1] [rn 16,bf 4,rn 6,bt 4,rn 9] trivial
theorem aJW (op:Int)(h0: (op== (1:Int)) =false)(h1: (op== (2:Int)) =false)(h2: (op== (3:Int)) =true) :
  Ends PP 0 (start PP 206 [(nI op)]).as (.ret (.iface 306 (nI 0))) (aA [] 0) :=
 wE 0 [] [qp h0,qp h1,qp h2] [rn 16,bf 4,rn 6,bf 4,rn 6,bt 4,rn 9] trivial
theorem aJX (op:Int)(h0: (op== (1:Int)) =false)(h1: (op== (2:Int)) =false)(h2: (op== (3:Int)) =false)(h3: (op== (4:Int)) =true) :
  Ends PP 0 (start PP 206 [(nI op)]).as (.ret (.iface 306 (nI 0))) (aA [] 0) :=
 wE 0 [] [qp h0,qp h1,qp h2,qp h3] [rn 16,bf 4,rn 6,bf 4,rn 6,bf 4,rn 6,bt 4,rn 9] trivial
theorem aJY (op:Int)(h0: (op== (1:Int)) =false)(h1: (op== (2:Int)) =false)(h2: (op== (3:Int)) =false)(h3: (op== (4:Int)) =false)(h4: (op== (21:Int)) =true) :
  Ends PP 0 (start PP 206 [(nI op)]).as (.ret (.iface 306 (nI 0))) (aA [] 0) :=
 wE 0 [] [qp h0,qp h1,qp h2,qp h3,qp h4] [rn 16,bf 4,rn 6,bf 4,rn 6,bf 4,rn 6,bf 4,rn 6,bt 4,rn 9] trivial
theorem aJZ (op:Int)(h0: (op== (1:Int)) =false)(h1: (op== (2:Int)) =false)(h2: (op== (3:Int)) =false)(h3: (op== (4:Int)) =false)(h4: (op== (21:Int)) =false)(h5: (op== (25:Int)) =true) :
  Ends PP 0 (start PP 206 [(nI op)]).as (.ret (.iface 306 (nI 0))) (aA [] 0) :=
 wE 0 [] [qp h0,qp h1,qp h2,qp h3,qp h4,qp h5] [rn 16,bf 4,rn 6,bf 4,rn 6,bf 4,rn 6,bf 4,rn 6,bf 4,rn 6,bt 4,rn 9] trivial
theorem aJ0 (op:Int)(h0: (op== (1:Int)) =false)(h1: (op== (2:Int)) =false)(h2: (op== (3:Int)) =false)(h3: (op== (4:Int)) =false)(h4: (op== (21:Int)) =false)(h5: (op== (25:Int)) =false)(h6: (op== (28:Int)) =true) :
  Ends PP 0 (start PP 206 [(nI op)]).as (.ret (.iface 306 (nI 0))) (aA [] 0) :=
 wE 0 [] [qp h0,qp h1,qp h2,qp h3,qp h4,qp h5,qp h6] [rn 16,bf 4,rn 6,bf 4,rn 6,bf 4,rn 6,bf 4,rn 6,bf 4,rn 6,bf 4,rn 5,bt 4,rn 7] trivial
theorem aJ1 (op:Int)(h0: (op== (1:Int)) =false)(h1: (op== (2:Int)) =false)(h2: (op== (3:Int)) =false)(h3: (op== (4:Int)) =false)(h4: (op== (21:Int)) =false)(h5: (op== (25:Int)) =false)(h6: (op== (28:Int)) =false)(h7: (op== (5:Int)) =true) :
  Ends PP 0 (start PP 206 [(nI op)]).as (.ret (.iface 306 (nI 1))) (aA [] 0) :=
 wE 0 [] [qp h0,qp h1,qp h2,qp h3,qp h4,qp h5,qp h6,qp h7] [rn 16,bf 4,rn 6,bf 4,rn 6,bf 4,rn 6,bf 4,rn 6,bf 4,rn 6,bf 4,rn 5,bf 4,rn 7,bt 13,rn 9] trivial
theorem aJ2 (op:Int)(h0: (op== (1:Int)) =false)(h1: (op== (2:Int)) =false)(h2: (op== (3:Int)) =false)(h3: (op== (4:Int)) =false)(h4: (op== (21:Int)) =false)(h5: (op== (25:Int)) =false)(h6: (op== (28:Int)) =false)(h7: (op== (5:Int)) =false)(h8: (op== (27:Int)) =true) :
  Ends PP 0 (start PP 206 [(nI op)]).as (.ret (.iface 306 (nI 1))) (aA [] 0) :=
 wE 0 [] [qp h0,qp h1,qp h2,qp h3,qp h4,qp h5,qp h6,qp h7,qp h8] [rn 16,bf 4,rn 6,bf 4,rn 6,bf 4,rn 6,bf 4,rn 6,bf 4,rn 6,bf 4,rn 5,bf 4,rn 7,bf 13,rn 6,bt 13,rn 9] trivial
theorem aJ3 (op:Int)(h0: (op== (1:Int)) =false)(h1: (op== (2:Int)) =false)(h2: (op== (3:Int)) =false)(h3: (op== (4:Int)) =false)(h4: (op== (21:Int)) =false)(h5: (op== (25:Int)) =false)(h6: (op== (28:Int)) =false)(h7: (op== (5:Int)) =false)(h8: (op== (27:Int)) =false)(h9: (op== (16:Int)) =true) :
  Ends PP 0 (start PP 206 [(nI op)]).as (.ret (.iface 306 (nI 1))) (aA [] 0) :=
 wE 0 [] [qp h0,qp h1,qp h2,qp h3,qp h4,qp h5,qp h6,qp h7,qp h8,qp h9] [rn 16,bf 4,rn 6,bf 4,rn 6,bf 4,rn 6,bf 4,rn 6,bf 4,rn 6,bf 4,rn 5,bf 4,rn 7,bf 13,rn 6,bf 13,rn 6,bt 13,rn 9] trivial
theorem aHJ (op:Int)(h0: (op== (1:Int)) =false)(h1: (op== (2:Int)) =false)(h2: (op== (3:Int)) =false)(h3: (op== (4:Int)) =false)(h4: (op== (21:Int)) =false)(h5: (op== (25:Int)) =false)(h6: (op== (28:Int)) =false)(h7: (op== (5:Int)) =false)(h8: (op== (27:Int)) =false)(h9: (op== (16:Int)) =false)(h10: (op== (17:Int)) =true) :
  Ends PP 0 (start PP 206 [(nI op)]).as (.ret (.iface 306 (nI 1))) (aA [] 0) :=
 wE 0 [] [qp h0,qp h1,qp h2,qp h3,qp h4,qp h5,qp h6,qp h7,qp h8,qp h9,qp h10] [rn 16,bf 4,rn 6,bf 4,rn 6,bf 4,rn 6,bf 4,rn 6,bf 4,rn 6,bf 4,rn 5,bf 4,rn 7,bf 13,rn 6,bf 13,rn 6,bf 13,rn 6,bt 13,rn 9] trivial
theorem aHK (op:Int)(h0: (op== (1:Int)) =false)(h1: (op== (2:Int)) =false)(h2: (op== (3:Int)) =false)(h3: (op== (4:Int)) =false)(h4: (op== (21:Int)) =false)(h5: (op== (25:Int)) =false)(h6: (op== (28:Int)) =false)(h7: (op== (5:Int)) =false)(h8: (op== (27:Int)) =false)(h9: (op== (16:Int)) =false)(h10: (op== (17:Int)) =false)(h11: (op== (19:Int)) =true) :
  Ends PP 0 (start PP 206 [(nI op)]).as (.ret (.iface 306 (nI 1))) (aA [] 0) :=
 wE 0 [] [qp h0,qp h1,qp h2,qp h3,qp h4,qp h5,qp h6,qp h7,qp h8,qp h9,qp h10,qp h11] [rn 16,bf 4,rn 6,bf 4,rn 6,bf 4,rn 6,bf 4,rn 6,bf 4,rn 6,bf 4,rn 5,bf 4,rn 7,bf 13,rn 6,bf 13,rn 6,bf 13,rn 6,bf 13,rn 6,bt 13,rn 9] trivial
theorem aHL (op:Int)(h0: (op== (1:Int)) =false)(h1: (op== (2:Int)) =false)(h2: (op== (3:Int)) =false)(h3: (op== (4:Int)) =false)(h4: (op== (21:Int)) =false)(h5: (op== (25:Int)) =false)(h6: (op== (28:Int)) =false)(h7: (op== (5:Int)) =false)(h8: (op== (27:Int)) =false)(h9: (op== (16:Int)) =false)(h10: (op== (17:Int)) =false)(h11: (op== (19:Int)) =false)(h12: (op== (20:Int)) =true) :
  Ends PP 0 (start PP 206 [(nI op)]).as (.ret (.iface 306 (nI 1))) (aA [] 0) :=
 wE 0 [] [qp h0,qp h1,qp h2,qp h3,qp h4,qp h5,qp h6,qp h7,qp h8,qp h9,qp h10,qp h11,qp h12] [rn 16,bf 4,rn 6,bf 4,rn 6,bf 4,rn 6,bf 4,rn 6,bf 4,rn 6,bf 4,rn 5,bf 4,rn 7,bf 13,rn 6,bf 13,rn 6,bf 13,rn 6,bf 13,rn 6,bf 13,rn 6,bt 13,rn 9] trivial
theorem aHM (op:Int)(h0: (op== (1:Int)) =false)(h1: (op== (2:Int)) =false)(h2: (op== (3:Int)) =false)(h3: (op== (4:Int)) =false)(h4: (op== (21:Int)) =false)(h5: (op== (25:Int)) =false)(h6: (op== (28:Int)) =false)(h7: (op== (5:Int)) =false)(h8: (op== (27:Int)) =false)(h9: (op== (16:Int)) =false)(h10: (op== (17:Int)) =false)(h11: (op== (19:Int)) =false)(h12: (op== (20:Int)) =false)(h13: (op== (23:Int)) =true) :
  Ends PP 0 (start PP 206 [(nI op)]).as (.ret (.iface 306 (nI 1))) (aA [] 0) :=
 wE 0 [] [qp h0,qp h1,qp h2,qp h3,qp h4,qp h5,qp h6,qp h7,qp h8,qp h9,qp h10,qp h11,qp h12,qp h13] [rn 16,bf 4,rn 6,bf 4,rn 6,bf 4,rn 6,bf 4,rn 6,bf 4,rn 6,bf 4,rn 5,bf 4,rn 7,bf 13,rn 6,bf 13,rn 6,bf 13,rn 6,bf 13,rn 6,bf 13,rn 6,bf 13,rn 6,bt 13,rn 9] trivial
theorem aHN (op:Int)(h0: (op== (1:Int)) =false)(h1: (op== (2:Int)) =false)(h2: (op== (3:Int)) =false)(h3: (op== (4:Int)) =false)(h4: (op== (21:Int)) =false)(h5: (op== (25:Int)) =false)(h6: (op== (28:Int)) =false)(h7: (op== (5:Int)) =false)(h8: (op== (27:Int)) =false)(h9: (op== (16:Int)) =false)(h10: (op== (17:Int)) =false)(h11: (op== (19:Int)) =false)(h12: (op== (20:Int)) =false)(h13: (op== (23:Int)) =false)(h14: (op== (24:Int)) =true) :
  Ends PP 0 (start PP 206 [(nI op)]).as (.ret (.iface 306 (nI 1))) (aA [] 0) :=
 wE 0 [] [qp h0,qp h1,qp h2,qp h3,qp h4,qp h5,qp h6,qp h7,qp h8,qp h9,qp h10,qp h11,qp h12,qp h13,qp h14] [rn 16,bf 4,rn 6,bf 4,rn 6,bf 4,rn 6,bf 4,rn 6,bf 4,rn 6,bf 4,rn 5,bf 4,rn 7,bf 13,rn 6,bf 13,rn 6,bf 13,rn 6,bf 13,rn 6,bf 13,rn 6,bf 13,rn 6,bf 13,rn 6,bt 13,rn 9] trivial
theorem aHO (op:Int)(h0: (op== (1:Int)) =false)(h1: (op== (2:Int)) =false)(h2: (op== (3:Int)) =false)(h3: (op== (4:Int)) =false)(h4: (op== (21:Int)) =false)(h5: (op== (25:Int)) =false)(h6: (op== (28:Int)) =false)(h7: (op== (5:Int)) =false)(h8: (op== (27:Int)) =false)(h9: (op== (16:Int)) =false)(h10: (op== (17:Int)) =false)(h11: (op== (19:Int)) =false)(h12: (op== (20:Int)) =false)(h13: (op== (23:Int)) =false)(h14: (op== (24:Int)) =false)(h15: (op== (26:Int)) =true) :
  Ends PP 0 (start PP 206 [(nI op)]).as (.ret (.iface 306 (nI 1))) (aA [] 0) :=
 wE 0 [] [qp h0,qp h1,qp h2,qp h3,qp h4,qp h5,qp h6,qp h7,qp h8,qp h9,qp h10,qp h11,qp h12,qp h13,qp h14,qp h15] [rn 16,bf 4,rn 6,bf 4,rn 6,bf 4,rn 6,bf 4,rn 6,bf 4,rn 6,bf 4,rn 5,bf 4,rn 7,bf 13,rn 6,bf 13,rn 6,bf 13,rn 6,bf 13,rn 6,bf 13,rn 6,bf 13,rn 6,bf 13,rn 6,bf 13,rn 5,bt 13,rn 7] trivial
theorem aHP (op:Int)(h0: (op== (1:Int)) =false)(h1: (op== (2:Int)) =false)(h2: (op== (3:Int)) =false)(h3: (op== (4:Int)) =false)(h4: (op== (21:Int)) =false)(h5: (op== (25:Int)) =false)(h6: (op== (28:Int)) =false)(h7: (op== (5:Int)) =false)(h8: (op== (27:Int)) =false)(h9: (op== (16:Int)) =false)(h10: (op== (17:Int)) =false)(h11: (op== (19:Int)) =false)(h12: (op== (20:Int)) =false)(h13: (op== (23:Int)) =false)(h14: (op== (24:Int)) =false)(h15: (op== (26:Int)) =false)(h16: (op== (6:Int)) =true) :
  Ends PP 0 (start PP 206 [(nI op)]).as (.ret (.iface 306 (nI 2))) (aA [] 0) :=
 wE 0 [] [qp h0,qp h1,qp h2,qp h3,qp h4,qp h5,qp h6,qp h7,qp h8,qp h9,qp h10,qp h11,qp h12,qp h13,qp h14,qp h15,qp h16] [rn 16,bf 4,rn 6,bf 4,rn 6,bf 4,rn 6,bf 4,rn 6,bf 4,rn 6,bf 4,rn 5,bf 4,rn 7,bf 13,rn 6,bf 13,rn 6,bf 13,rn 6,bf 13,rn 6,bf 13,rn 6,bf 13,rn 6,bf 13,rn 6,bf 13,rn 5,bf 13,rn 7,bt 24,rn 9] trivial
theorem aHQ (op:Int)(h0: (op== (1:Int)) =false)(h1: (op== (2:Int)) =false)(h2: (op== (3:Int)) =false)(h3: (op== (4:Int)) =false)(h4: (op== (21:Int)) =false)(h5: (op== (25:Int)) =false)(h6: (op== (28:Int)) =false)(h7: (op== (5:Int)) =false)(h8: (op== (27:Int)) =false)(h9: (op== (16:Int)) =false)(h10: (op== (17:Int)) =false)(h11: (op== (19:Int)) =false)(h12: (op== (20:Int)) =false)(h13: (op== (23:Int)) =false)(h14: (op== (24:Int)) =false)(h15: (op== (26:Int)) =false)(h16: (op== (6:Int)) =false)(h17: (op== (7:Int)) =true) :
  Ends PP 0 (start PP 206 [(nI op)]).as (.ret (.iface 306 (nI 2))) (aA [] 0) :=
 wE 0 [] [qp h0,qp h1,qp h2,qp h3,qp h4,qp h5,qp h6,qp h7,qp h8,qp h9,qp h10,qp h11,qp h12,qp h13,qp h14,qp h15,qp h16,qp h17] [rn 16,bf 4,rn 6,bf 4,rn 6,bf 4,rn 6,bf 4,rn 6,bf 4,rn 6,bf 4,rn 5,bf 4,rn 7,bf 13,rn 6,bf 13,rn 6,bf 13,rn 6,bf 13,rn 6,bf 13,rn 6,bf 13,rn 6,bf 13,rn 6,bf 13,rn 5,bf 13,rn 7,bf 24,rn 6,bt 24,rn 9] trivial
theorem aHR (op:Int)(h0: (op== (1:Int)) =false)(h1: (op== (2:Int)) =false)(h2: (op== (3:Int)) =false)(h3: (op== (4:Int)) =false)(h4: (op== (21:Int)) =false)(h5: (op== (25:Int)) =false)(h6: (op== (28:Int)) =false)(h7: (op== (5:Int)) =false)(h8: (op== (27:Int)) =false)(h9: (op== (16:Int)) =false)(h10: (op== (17:Int)) =false)(h11: (op== (19:Int)) =false)(h12: (op== (20:Int)) =false)(h13: (op== (23:Int)) =false)(h14: (op== (24:Int)) =false)(h15: (op== (26:Int)) =false)(h16: (op== (6:Int)) =false)(h17: (op== (7:Int)) =false)(h18: (op== (9:Int)) =true) :
  Ends PP 0 (start PP 206 [(nI op)]).as (.ret (.iface 306 (nI 2))) (aA [] 0) :=
 wE 0 [] [qp h0,qp h1,qp h2,qp h3,qp h4,qp h5,qp h6,qp h7,qp h8,qp h9,qp h10,qp h11,qp h12,qp h13,qp h14,qp h15,qp h16,qp h17,qp h18] [rn 16,bf 4,rn 6,bf 4,rn 6,bf 4,rn 6,bf 4,rn 6,bf 4,rn 6,bf 4,rn 5,bf 4,rn 7,bf 13,rn 6,bf 13,rn 6,bf 13,rn 6,bf 13,rn 6,bf 13,rn 6,bf 13,rn 6,bf 13,rn 6,bf 13,rn 5,bf 13,rn 7,bf 24,rn 6,bf 24,rn 6,bt 24,rn 9] trivial
theorem aHS (op:Int)(h0: (op== (1:Int)) =false)(h1: (op== (2:Int)) =false)(h2: (op== (3:Int)) =false)(h3: (op== (4:Int)) =false)(h4: (op== (21:Int)) =false)(h5: (op== (25:Int)) =false)(h6: (op== (28:Int)) =false)(h7: (op== (5:Int)) =false)(h8: (op== (27:Int)) =false)(h9: (op== (16:Int)) =false)(h10: (op== (17:Int)) =false)(h11: (op== (19:Int)) =false)(h12: (op== (20:Int)) =false)(h13: (op== (23:Int)) =false)(h14: (op== (24:Int)) =false)(h15: (op== (26:Int)) =false)(h16: (op== (6:Int)) =false)(h17: (op== (7:Int)) =false)(h18: (op== (9:Int)) =false)(h19: (op== (10:Int)) =true) :
  Ends PP 0 (start PP 206 [(nI op)]).as (.ret (.iface 306 (nI 2))) (aA [] 0) :=
 wE 0 [] [qp h0,qp h1,qp h2,qp h3,qp h4,qp h5,qp h6,qp h7,qp h8,qp h9,qp h10,qp h11,qp h12,qp h13,qp h14,qp h15,qp h16,qp h17,qp h18,qp h19] [rn 16,bf 4,rn 6,bf 4,rn 6,bf 4,rn 6,bf 4,rn 6,bf 4,rn 6,bf 4,rn 5,bf 4,rn 7,bf 13,rn 6,bf 13,rn 6,bf 13,rn 6,bf 13,rn 6,bf 13,rn 6,bf 13,rn 6,bf 13,rn 6,bf 13,rn 5,bf 13,rn 7,bf 24,rn 6,bf 24,rn 6,bf 24,rn 6,bt 24,rn 9] trivial
theorem aHT (op:Int)(h0: (op== (1:Int)) =false)(h1: (op== (2:Int)) =false)(h2: (op== (3:Int)) =false)(h3: (op== (4:Int)) =false)(h4: (op== (21:Int)) =false)(h5: (op== (25:Int)) =false)(h6: (op== (28:Int)) =false)(h7: (op== (5:Int)) =false)(h8: (op== (27:Int)) =false)(h9: (op== (16:Int)) =false)(h10: (op== (17:Int)) =false)(h11: (op== (19:Int)) =false)(h12: (op== (20:Int)) =false)(h13: (op== (23:Int)) =false)(h14: (op== (24:Int)) =false)(h15: (op== (26:Int)) =false)(h16: (op== (6:Int)) =false)(h17: (op== (7:Int)) =false)(h18: (op== (9:Int)) =false)(h19: (op== (10:Int)) =false)(h20: (op== (11:Int)) =true) :
  Ends PP 0 (start PP 206 [(nI op)]).as (.ret (.iface 306 (nI 2))) (aA [] 0) :=
 wE 0 [] [qp h0,qp h1,qp h2,qp h3,qp h4,qp h5,qp h6,qp h7,qp h8,qp h9,qp h10,qp h11,qp h12,qp h13,qp h14,qp h15,qp h16,qp h17,qp h18,qp h19,qp h20] [rn 16,bf 4,rn 6,bf 4,rn 6,bf 4,rn 6,bf 4,rn 6,bf 4,rn 6,bf 4,rn 5,bf 4,rn 7,bf 13,rn 6,bf 13,rn 6,bf 13,rn 6,bf 13,rn 6,bf 13,rn 6,bf 13,rn 6,bf 13,rn 6,bf 13,rn 5,bf 13,rn 7,bf 24,rn 6,bf 24,rn 6,bf 24,rn 6,bf 24,rn 6,bt 24,rn 9] trivial
theorem aHU (op:Int)(h0: (op== (1:Int)) =false)(h1: (op== (2:Int)) =false)(h2: (op== (3:Int)) =false)(h3: (op== (4:Int)) =false)(h4: (op== (21:Int)) =false)(h5: (op== (25:Int)) =false)(h6: (op== (28:Int)) =false)(h7: (op== (5:Int)) =false)(h8: (op== (27:Int)) =false)(h9: (op== (16:Int)) =false)(h10: (op== (17:Int)) =false)(h11: (op== (19:Int)) =false)(h12: (op== (20:Int)) =false)(h13: (op== (23:Int)) =false)(h14: (op== (24:Int)) =false)(h15: (op== (26:Int)) =false)(h16: (op== (6:Int)) =false)(h17: (op== (7:Int)) =false)(h18: (op== (9:Int)) =false)(h19: (op== (10:Int)) =false)(h20: (op== (11:Int)) =false)(h21: (op== (12:Int)) =true) :
  Ends PP 0 (start PP 206 [(nI op)]).as (.ret (.iface 306 (nI 2))) (aA [] 0) :=
 wE 0 [] [qp h0,qp h1,qp h2,qp h3,qp h4,qp h5,qp h6,qp h7,qp h8,qp h9,qp h10,qp h11,qp h12,qp h13,qp h14,qp h15,qp h16,qp h17,qp h18,qp h19,qp h20,qp h21] [rn 16,bf 4,rn 6,bf 4,rn 6,bf 4,rn 6,bf 4,rn 6,bf 4,rn 6,bf 4,rn 5,bf 4,rn 7,bf 13,rn 6,bf 13,rn 6,bf 13,rn 6,bf 13,rn 6,bf 13,rn 6,bf 13,rn 6,bf 13,rn 6,bf 13,rn 5,bf 13,rn 7,bf 24,rn 6,bf 24,rn 6,bf 24,rn 6,bf 24,rn 6,bf 24,rn 6,bt 24,rn 9] trivial
theorem aHV (op:Int)(h0: (op== (1:Int)) =false)(h1: (op== (2:Int)) =false)(h2: (op== (3:Int)) =false)(h3: (op== (4:Int)) =false)(h4: (op== (21:Int)) =false)(h5: (op== (25:Int)) =false)(h6: (op== (28:Int)) =false)(h7: (op== (5:Int)) =false)(h8: (op== (27:Int)) =false)(h9: (op== (16:Int)) =false)(h10: (op== (17:Int)) =false)(h11: (op== (19:Int)) =false)(h12: (op== (20:Int)) =false)(h13: (op== (23:Int)) =false)(h14: (op== (24:Int)) =false)(h15: (op== (26:Int)) =false)(h16: (op== (6:Int)) =false)(h17: (op== (7:Int)) =false)(h18: (op== (9:Int)) =false)(h19: (op== (10:Int)) =false)(h20: (op== (11:Int)) =false)(h21: (op== (12:Int)) =false)(h22: (op== (13:Int)) =true) :
  Ends PP 0 (start PP 206 [(nI op)]).as (.ret (.iface 306 (nI 2))) (aA [] 0) :=
 wE 0 [] [qp h0,qp h1,qp h2,qp h3,qp h4,qp h5,qp h6,qp h7,qp h8,qp h9,qp h10,qp h11,qp h12,qp h13,qp h14,qp h15,qp h16,qp h17,qp h18,qp h19,qp h20,qp h21,qp h22] [rn 16,bf 4,rn 6,bf 4,rn 6,bf 4,rn 6,bf 4,rn 6,bf 4,rn 6,bf 4,rn 5,bf 4,rn 7,bf 13,rn 6,bf 13,rn 6,bf 13,rn 6,bf 13,rn 6,bf 13,rn 6,bf 13,rn 6,bf 13,rn 6,bf 13,rn 5,bf 13,rn 7,bf 24,rn 6,bf 24,rn 6,bf 24,rn 6,bf 24,rn 6,bf 24,rn 6,bf 24,rn 6,bt 24,rn 9] trivial
theorem aHW (op:Int)(h0: (op== (1:Int)) =false)(h1: (op== (2:Int)) =false)(h2: (op== (3:Int)) =false)(h3: (op== (4:Int)) =false)(h4: (op== (21:Int)) =false)(h5: (op== (25:Int)) =false)(h6: (op== (28:Int)) =false)(h7: (op== (5:Int)) =false)(h8: (op== (27:Int)) =false)(h9: (op== (16:Int)) =false)(h10: (op== (17:Int)) =false)(h11: (op== (19:Int)) =false)(h12: (op== (20:Int)) =false)(h13: (op== (23:Int)) =false)(h14: (op== (24:Int)) =false)(h15: (op== (26:Int)) =false)(h16: (op== (6:Int)) =false)(h17: (op== (7:Int)) =false)(h18: (op== (9:Int)) =false)(h19: (op== (10:Int)) =false)(h20: (op== (11:Int)) =false)(h21: (op== (12:Int)) =false)(h22: (op== (13:Int)) =false)(h23: (op== (18:Int)) =true) :
  Ends PP 0 (start PP 206 [(nI op)]).as (.ret (.iface 306 (nI 2))) (aA [] 0) :=
 wE 0 [] [qp h0,qp h1,qp h2,qp h3,qp h4,qp h5,qp h6,qp h7,qp h8,qp h9,qp h10,qp h11,qp h12,qp h13,qp h14,qp h15,qp h16,qp h17,qp h18,qp h19,qp h20,qp h21,qp h22,qp h23] [rn 16,bf 4,rn 6,bf 4,rn 6,bf 4,rn 6,bf 4,rn 6,bf 4,rn 6,bf 4,rn 5,bf 4,rn 7,bf 13,rn 6,bf 13,rn 6,bf 13,rn 6,bf 13,rn 6,bf 13,rn 6,bf 13,rn 6,bf 13,rn 6,bf 13,rn 5,bf 13,rn 7,bf 24,rn 6,bf 24,rn 6,bf 24,rn 6,bf 24,rn 6,bf 24,rn 6,bf 24,rn 6,bf 24,rn 6,bt 24,rn 9] trivial
theorem aHX (op:Int)(h0: (op== (1:Int)) =false)(h1: (op== (2:Int)) =false)(h2: (op== (3:Int)) =false)(h3: (op== (4:Int)) =false)(h4: (op== (21:Int)) =false)(h5: (op== (25:Int)) =false)(h6: (op== (28:Int)) =false)(h7: (op== (5:Int)) =false)(h8: (op== (27:Int)) =false)(h9: (op== (16:Int)) =false)(h10: (op== (17:Int)) =false)(h11: (op== (19:Int)) =false)(h12: (op== (20:Int)) =false)(h13: (op== (23:Int)) =false)(h14: (op== (24:Int)) =false)(h15: (op== (26:Int)) =false)(h16: (op== (6:Int)) =false)(h17: (op== (7:Int)) =false)(h18: (op== (9:Int)) =false)(h19: (op== (10:Int)) =false)(h20: (op== (11:Int)) =false)(h21: (op== (12:Int)) =false)(h22: (op== (13:Int)) =false)(h23: (op== (18:Int)) =false)(h24: (op== (22:Int)) =true) :
  Ends PP 0 (start PP 206 [(nI op)]).as (.ret (.iface 306 (nI 2))) (aA [] 0) :=
 wE 0 [] [qp h0,qp h1,qp h2,qp h3,qp h4,qp h5,qp h6,qp h7,qp h8,qp h9,qp h10,qp h11,qp h12,qp h13,qp h14,qp h15,qp h16,qp h17,qp h18,qp h19,qp h20,qp h21,qp h22,qp h23,qp h24] [rn 16,bf 4,rn 6,bf 4,rn 6,bf 4,rn 6,bf 4,rn 6,bf 4,rn 6,bf 4,rn 5,bf 4,rn 7,bf 13,rn 6,bf 13,rn 6,bf 13,rn 6,bf 13,rn 6,bf 13,rn 6,bf 13,rn 6,bf 13,rn 6,bf 13,rn 5,bf 13,rn 7,bf 24,rn 6,bf 24,rn 6,bf 24,rn 6,bf 24,rn 6,bf 24,rn 6,bf 24,rn 6,bf 24,rn 6,bf 24,rn 5,bt 24,rn 7] trivial
theorem aHY (op:Int)(h0: (op== (1:Int)) =false)(h1: (op== (2:Int)) =false)(h2: (op== (3:Int)) =false)(h3: (op== (4:Int)) =false)(h4: (op== (21:Int)) =false)(h5: (op== (25:Int)) =false)(h6: (op== (28:Int)) =false)(h7: (op== (5:Int)) =false)(h8: (op== (27:Int)) =false)(h9: (op== (16:Int)) =false)(h10: (op== (17:Int)) =false)(h11: (op== (19:Int)) =false)(h12: (op== (20:Int)) =false)(h13: (op== (23:Int)) =false)(h14: (op== (24:Int)) =false)(h15: (op== (26:Int)) =false)(h16: (op== (6:Int)) =false)(h17: (op== (7:Int)) =false)(h18: (op== (9:Int)) =false)(h19: (op== (10:Int)) =false)(h20: (op== (11:Int)) =false)(h21: (op== (12:Int)) =false)(h22: (op== (13:Int)) =false)(h23: (op== (18:Int)) =false)(h24: (op== (22:Int)) =false)(h25: (op== (8:Int)) =true) :
  Ends PP 0 (start PP 206 [(nI op)]).as (.ret (.iface 306 (nI 3))) (aA [] 0) :=
 wE 0 [] [qp h0,qp h1,qp h2,qp h3,qp h4,qp h5,qp h6,qp h7,qp h8,qp h9,qp h10,qp h11,qp h12,qp h13,qp h14,qp h15,qp h16,qp h17,qp h18,qp h19,qp h20,qp h21,qp h22,qp h23,qp h24,qp h25] [rn 16,bf 4,rn 6,bf 4,rn 6,bf 4,rn 6,bf 4,rn 6,bf 4,rn 6,bf 4,rn 5,bf 4,rn 7,bf 13,rn 6,bf 13,rn 6,bf 13,rn 6,bf 13,rn 6,bf 13,rn 6,bf 13,rn 6,bf 13,rn 6,bf 13,rn 5,bf 13,rn 7,bf 24,rn 6,bf 24,rn 6,bf 24,rn 6,bf 24,rn 6,bf 24,rn 6,bf 24,rn 6,bf 24,rn 6,bf 24,rn 5,bf 24,rn 6,bt 35,rn 7] trivial
theorem aHZ (op:Int)(h0: (op== (1:Int)) =false)(h1: (op== (2:Int)) =false)(h2: (op== (3:Int)) =false)(h3: (op== (4:Int)) =false)(h4: (op== (21:Int)) =false)(h5: (op== (25:Int)) =false)(h6: (op== (28:Int)) =false)(h7: (op== (5:Int)) =false)(h8: (op== (27:Int)) =false)(h9: (op== (16:Int)) =false)(h10: (op== (17:Int)) =false)(h11: (op== (19:Int)) =false)(h12: (op== (20:Int)) =false)(h13: (op== (23:Int)) =false)(h14: (op== (24:Int)) =false)(h15: (op== (26:Int)) =false)(h16: (op== (6:Int)) =false)(h17: (op== (7:Int)) =false)(h18: (op== (9:Int)) =false)(h19: (op== (10:Int)) =false)(h20: (op== (11:Int)) =false)(h21: (op== (12:Int)) =false)(h22: (op== (13:Int)) =false)(h23: (op== (18:Int)) =false)(h24: (op== (22:Int)) =false)(h25: (op== (8:Int)) =false)(h26: (op== (14:Int)) =true) :
  Ends PP 0 (start PP 206 [(nI op)]).as (.ret (.iface 307 (.agg []))) (aA [] 0) :=
 wE 0 [] [qp h0,qp h1,qp h2,qp h3,qp h4,qp h5,qp h6,qp h7,qp h8,qp h9,qp h10,qp h11,qp h12,qp h13,qp h14,qp h15,qp h16,qp h17,qp h18,qp h19,qp h20,qp h21,qp h22,qp h23,qp h24,qp h25,qp h26] [rn 16,bf 4,rn 6,bf 4,rn 6,bf 4,rn 6,bf 4,rn 6,bf 4,rn 6,bf 4,rn 5,bf 4,rn 7,bf 13,rn 6,bf 13,rn 6,bf 13,rn 6,bf 13,rn 6,bf 13,rn 6,bf 13,rn 6,bf 13,rn 6,bf 13,rn 5,bf 13,rn 7,bf 24,rn 6,bf 24,rn 6,bf 24,rn 6,bf 24,rn 6,bf 24,rn 6,bf 24,rn 6,bf 24,rn 6,bf 24,rn 5,bf 24,rn 6,bf 35,rn 6,bt 38,rn 8] trivial
theorem aH0 (op:Int)(h0: (op== (1:Int)) =false)(h1: (op== (2:Int)) =false)(h2: (op== (3:Int)) =false)(h3: (op== (4:Int)) =false)(h4: (op== (21:Int)) =false)(h5: (op== (25:Int)) =false)(h6: (op== (28:Int)) =false)(h7: (op== (5:Int)) =false)(h8: (op== (27:Int)) =false)(h9: (op== (16:Int)) =false)(h10: (op== (17:Int)) =false)(h11: (op== (19:Int)) =false)(h12: (op== (20:Int)) =false)(h13: (op== (23:Int)) =false)(h14: (op== (24:Int)) =false)(h15: (op== (26:Int)) =false)(h16: (op== (6:Int)) =false)(h17: (op== (7:Int)) =false)(h18: (op== (9:Int)) =false)(h19: (op== (10:Int)) =false)(h20: (op== (11:Int)) =false)(h21: (op== (12:Int)) =false)(h22: (op== (13:Int)) =false)(h23: (op== (18:Int)) =false)(h24: (op== (22:Int)) =false)(h25: (op== (8:Int)) =false)(h26: (op== (14:Int)) =false)(h27: (op== (15:Int)) =true) :
  Ends PP 0 (start PP 206 [(nI op)]).as (.ret (.iface 258 (.agg []))) (aA [] 0) :=
 wE 0 [] [qp h0,qp h1,qp h2,qp h3,qp h4,qp h5,qp h6,qp h7,qp h8,qp h9,qp h10,qp h11,qp h12,qp h13,qp h14,qp h15,qp h16,qp h17,qp h18,qp h19,qp h20,qp h21,qp h22,qp h23,qp h24,qp h25,qp h26,qp h27] [rn 16,bf 4,rn 6,bf 4,rn 6,bf 4,rn 6,bf 4,rn 6,bf 4,rn 6,bf 4,rn 5,bf 4,rn 7,bf 13,rn 6,bf 13,rn 6,bf 13,rn 6,bf 13,rn 6,bf 13,rn 6,bf 13,rn 6,bf 13,rn 6,bf 13,rn 5,bf 13,rn 7,bf 24,rn 6,bf 24,rn 6,bf 24,rn 6,bf 24,rn 6,bf 24,rn 6,bf 24,rn 6,bf 24,rn 6,bf 24,rn 5,bf 24,rn 6,bf 35,rn 6,bf 38,rn 6,bt 42,rn 8] trivial
theorem aH1 (op:Int)(h0: (op== (1:Int)) =false)(h1: (op== (2:Int)) =false)(h2: (op== (3:Int)) =false)(h3: (op== (4:Int)) =false)(h4: (op== (21:Int)) =false)(h5: (op== (25:Int)) =false)(h6: (op== (28:Int)) =false)(h7: (op== (5:Int)) =false)(h8: (op== (27:Int)) =false)(h9: (op== (16:Int)) =false)(h10: (op== (17:Int)) =false)(h11: (op== (19:Int)) =false)(h12: (op== (20:Int)) =false)(h13: (op== (23:Int)) =false)(h14: (op== (24:Int)) =false)(h15: (op== (26:Int)) =false)(h16: (op== (6:Int)) =false)(h17: (op== (7:Int)) =false)(h18: (op== (9:Int)) =false)(h19: (op== (10:Int)) =false)(h20: (op== (11:Int)) =false)(h21: (op== (12:Int)) =false)(h22: (op== (13:Int)) =false)(h23: (op== (18:Int)) =false)(h24: (op== (22:Int)) =false)(h25: (op== (8:Int)) =false)(h26: (op== (14:Int)) =false)(h27: (op== (15:Int)) =false) :
  Ends PP 0 (start PP 206 [(nI op)]).as (.ret .nili) (aA [] 0) :=
 wE 0 [] [qp h0,qp h1,qp h2,qp h3,qp h4,qp h5,qp h6,qp h7,qp h8,qp h9,qp h10,qp h11,qp h12,qp h13,qp h14,qp h15,qp h16,qp h17,qp h18,qp h19,qp h20,qp h21,qp h22,qp h23,qp h24,qp h25,qp h26,qp h27] [rn 16,bf 4,rn 6,bf 4,rn 6,bf 4,rn 6,bf 4,rn 6,bf 4,rn 6,bf 4,rn 5,bf 4,rn 7,bf 13,rn 6,bf 13,rn 6,bf 13,rn 6,bf 13,rn 6,bf 13,rn 6,bf 13,rn 6,bf 13,rn 6,bf 13,rn 5,bf 13,rn 7,bf 24,rn 6,bf 24,rn 6,bf 24,rn 6,bf 24,rn 6,bf 24,rn 6,bf 24,rn 6,bf 24,rn 6,bf 24,rn 5,bf 24,rn 6,bf 35,rn 6,bf 38,rn 6,bf 42,rn 8] trivial
end Go.Hb
namespace Go.Hb
open Go.Proofs
noncomputable def xB (l:List Pat)(p:Prog)(t8:Int) :TS:=
 {fr:={fn:=279,nt:=19,sl:=[(0,(iP l)),(1,(.func 254 [] [(.ptr 0 0)])),(4,(nI 0)),(7,(nI (l.length:Int))),(8,(nI t8))],todo:=[.code (cd Tryz.f279 [1,0,1,0,0]),.inLoop (cd Tryz.f279 [1,0,1,0,0]),.inBlock 0,.code (cd Tryz.f279 [1,1])]},cs:=[{fn:=253,nt:=9,sl:=[(4,(bV false)),(5,(iP l)),(6,(.func 254 [] [(.ptr 0 0)]))],todo:=[mH Tryz.f253 [1,0] 2,.code (cd Tryz.f253 [1,1])]},{fn:=211,nt:=9,sl:=[(4,(bV false)),(5,(iP l)),(6,(.func 254 [] [(.ptr 0 0)]))],todo:=[mH Tryz.f211 [1,0] 2,.code (cd Tryz.f211 [1,1])]}],hp:=[(0,(.cells (putCells .leaf 0 [(.func 209 [(Prog.av p)] [])]) 1 [] false),false)],nb:=1}
theorem aRF (l:List Pat)(p:Prog) :
  LeadsM PP 0 (start PP 211 [(iP l),(.func 209 [(Prog.av p)] [])]).as (xB l p 0).as:=
 wW 1 [0] [fU l] [rn 27,aL l,rn 4] trivial
theorem aRG (l:List Pat)(p:Prog)(t8 y_form0 y_n1:Int)(y_text2:aX)(y_parts3:List Pat)(y4:Bool)(h0:decide (t8< (l.length:Int)) =true)(h1:0≤t8)(h2: ((l)[t8.toNat]?) =some (Pat.mk y_form0 y_n1 y_text2 y_parts3))(h3:aE PP 209 [(Prog.av p),(.agg [(nI y_form0),(nI y_n1),(bO y_text2),(iP y_parts3)])] (bV y4))(h4: (!y4) =true) :
  Ends PP 0 (xB l p t8).as (.ret (bV (!(decide (t8≥ (0:Int)))))) (aA [] 0) :=
 wE 2 [] [qp h0,qp h1,qgP h2,qp h3,qp h4] [rn 5,bt 9,rn 14,aI (Pat.av (Pat.mk y_form0 y_n1 y_text2 y_parts3)),rn 11,pB y4,rn 6,bt 16,rn 17] trivial
theorem aRH (l:List Pat)(p:Prog)(t8 y_form0 y_n1:Int)(y_text2:aX)(y_parts3:List Pat)(y4:Bool)(h0:decide (t8< (l.length:Int)) =true)(h1:0≤t8)(h2: ((l)[t8.toNat]?) =some (Pat.mk y_form0 y_n1 y_text2 y_parts3))(h3:aE PP 209 [(Prog.av p),(.agg [(nI y_form0),(nI y_n1),(bO y_text2),(iP y_parts3)])] (bV y4))(h4: (!y4) =false)(h5: (IntKind.i64.wrap (t8+ (1:Int))) = (t8+ (1:Int))) :
  LeadsM PP 0 (xB l p t8).as (xB l p (t8+ (1:Int))).as:=
 wW 2 [0] [qp h0,qp h1,qgP h2,qp h3,qp h4,qp (congrArg (AV.int .i64) h5)] [rn 5,bt 9,rn 14,aI (Pat.av (Pat.mk y_form0 y_n1 y_text2 y_parts3)),rn 11,pB y4,rn 6,bf 16,rn 5,sI 18 (t8+ (1:Int)),rn 3] trivial
theorem aRI (l:List Pat)(p:Prog)(t8:Int)(h0:decide (t8< (l.length:Int)) =false) :
  Ends PP 0 (xB l p t8).as (.ret (bV true)) (aA [] 0) :=
 wE 1 [] [qp h0] [rn 5,bf 9,rn 17] trivial
noncomputable def mD (p:Prog)(x:Node)(t8:Int) :TS:=
 {fr:={fn:=279,nt:=19,sl:=[(0,(iP x.pats)),(1,(.func 254 [] [(.ptr 0 0)])),(4,(nI 0)),(7,(nI (x.pats.length:Int))),(8,(nI t8))],todo:=[.code (cd Tryz.f279 [1,0,1,0,0]),.inLoop (cd Tryz.f279 [1,0,1,0,0]),.inBlock 0,.code (cd Tryz.f279 [1,1])]},cs:=[{fn:=253,nt:=9,sl:=[(4,(bV false)),(5,(iP x.pats)),(6,(.func 254 [] [(.ptr 0 0)]))],todo:=[mH Tryz.f253 [1,0] 2,.code (cd Tryz.f253 [1,1])]},{fn:=211,nt:=9,sl:=[(4,(bV false)),(5,(iP x.pats)),(6,(.func 254 [] [(.ptr 0 0)]))],todo:=[mH Tryz.f211 [1,0] 2,.code (cd Tryz.f211 [1,1])]},{fn:=161,nt:=35,sl:=[(4,(bV false)),(29,(bV true)),(31,(iP x.pats)),(32,(.func 207 [] [(.ptr 1 0)]))],todo:=[mH Tryz.f161 [1,1,1,1,0] 13,.code (cd Tryz.f161 [1,1,1,1,1])]}],hp:=[(0,(.cells (putCells .leaf 0 [(.func 207 [] [(.ptr 1 0)])]) 1 [] false),false),(1,(.cells (putCells .leaf 0 [(iN p.nodes),(iI p.funs),(nI p.main),(iC p.cons)]) 4 [] false),false)],nb:=2}
theorem aPE (p:Prog)(x:Node)(y0 y1:Bool)(h0:aE PP 206 [(nI x.op)] (.iface 258 (.agg [])))(h1:aE PP 77 [(nI (x.pats.length:Int)),(nI 1),(nI 5)] (bV y0))(h2:y0=true)(h3: (IntKind.i64.wrap ((1:Int) + (x.pats.length:Int))) = ((1:Int) + (x.pats.length:Int)))(h4: ((x.kids.length:Int) == ((1:Int) + (x.pats.length:Int))) =true)(h5:aE PP 210 [(Prog.av p),(Node.av x)] (bV y1))(h6:y1=true) :
  LeadsM PP 0 (start PP 161 [(Prog.av p),(Node.av x)]).as (mD p x 0).as:=
 wW 6 [5,0] [qp h0,fU x.pats,qp h1,qp h2,ql aB x.kids,fU x.pats,qp (congrArg (AV.int .i64) h3),qp h4,qp h5,qp h6,fU x.pats] [rn 10,.pure (.iface 258 (.agg [])),rn 44,aL x.pats,pB y0,rn 1,bt 11,rn 2,aL x.kids,rn 2,aL x.pats,rn 1,sI 18 ((1:Int) + (x.pats.length:Int)),rn 7,bt 24,rn 2,pB y1,rn 2,bt 29,rn 31,aL x.pats,rn 4] trivial
theorem aPF (p:Prog)(x:Node)(y0 y1:Bool)(h0:aE PP 206 [(nI x.op)] (.iface 258 (.agg [])))(h1:aE PP 77 [(nI (x.pats.length:Int)),(nI 1),(nI 5)] (bV y0))(h2:y0=true)(h3: (IntKind.i64.wrap ((1:Int) + (x.pats.length:Int))) = ((1:Int) + (x.pats.length:Int)))(h4: ((x.kids.length:Int) == ((1:Int) + (x.pats.length:Int))) =true)(h5:aE PP 210 [(Prog.av p),(Node.av x)] (bV y1))(h6:y1=false) :
  Ends PP 0 (start PP 161 [(Prog.av p),(Node.av x)]).as (.ret (bV false)) (aA [] 0) :=
 wE 5 [] [qp h0,fU x.pats,qp h1,qp h2,ql aB x.kids,fU x.pats,qp (congrArg (AV.int .i64) h3),qp h4,qp h5,qp h6] [rn 10,.pure (.iface 258 (.agg [])),rn 44,aL x.pats,pB y0,rn 1,bt 11,rn 2,aL x.kids,rn 2,aL x.pats,rn 1,sI 18 ((1:Int) + (x.pats.length:Int)),rn 7,bt 24,rn 2,pB y1,rn 2,bf 29,rn 8] trivial
theorem aPG (p:Prog)(x:Node)(y0:Bool)(h0:aE PP 206 [(nI x.op)] (.iface 258 (.agg [])))(h1:aE PP 77 [(nI (x.pats.length:Int)),(nI 1),(nI 5)] (bV y0))(h2:y0=true)(h3: (IntKind.i64.wrap ((1:Int) + (x.pats.length:Int))) = ((1:Int) + (x.pats.length:Int)))(h4: ((x.kids.length:Int) == ((1:Int) + (x.pats.length:Int))) =false) :
  Ends PP 0 (start PP 161 [(Prog.av p),(Node.av x)]).as (.ret (bV false)) (aA [] 0) :=
 wE 5 [] [qp h0,fU x.pats,qp h1,qp h2,ql aB x.kids,fU x.pats,qp (congrArg (AV.int .i64) h3),qp h4] [rn 10,.pure (.iface 258 (.agg [])),rn 44,aL x.pats,pB y0,rn 1,bt 11,rn 2,aL x.kids,rn 2,aL x.pats,rn 1,sI 18 ((1:Int) + (x.pats.length:Int)),rn 7,bf 24,rn 13] trivial
theorem aPH (p:Prog)(x:Node)(y0:Bool)(h0:aE PP 206 [(nI x.op)] (.iface 258 (.agg [])))(h1:aE PP 77 [(nI (x.pats.length:Int)),(nI 1),(nI 5)] (bV y0))(h2:y0=false) :
  Ends PP 0 (start PP 161 [(Prog.av p),(Node.av x)]).as (.ret (bV false)) (aA [] 0) :=
 wE 5 [] [qp h0,fU x.pats,qp h1,qp h2] [rn 10,.pure (.iface 258 (.agg [])),rn 44,aL x.pats,pB y0,rn 1,bf 11,rn 27] trivial
theorem aPI (p:Prog)(x:Node)(h0:aE PP 206 [(nI x.op)] (.iface 307 (.agg [])))(h1:decide ((x.pats.length:Int) > (0:Int)) =true) :
  Ends PP 0 (start PP 161 [(Prog.av p),(Node.av x)]).as (.ret (bV false)) (aA [] 0) :=
 wE 2 [] [qp h0,fU x.pats,qp h1] [rn 10,.pure (.iface 307 (.agg [])),rn 24,aL x.pats,rn 2,bt 14,rn 6] trivial
theorem aPJ (p:Prog)(x:Node)(y0:Bool)(y1:Con)(y2:Bool)(h0:aE PP 206 [(nI x.op)] (.iface 307 (.agg [])))(h1:decide ((x.pats.length:Int) > (0:Int)) =false)(h2:aE PP 77 [(nI x.n),(nI 0),(nI (IntKind.i64.wrap ((p.cons.length:Int) - (1:Int))))] (bV y0))(h3:y0=true)(h4:0≤x.n)(h5: ((p.cons)[x.n.toNat]?) =some y1)(h6: ((x.kids.length:Int) ==y1.args) =true)(h7:aE PP 210 [(Prog.av p),(Node.av x)] (bV y2))(h8:y2=true) :
  LeadsM PP 0 (start PP 161 [(Prog.av p),(Node.av x)]).as (mD p x 0).as:=
 wW 6 [5,0] [qp h0,fU x.pats,qp h1,ql Con.av p.cons,qp h2,qp h3,ql aB x.kids,qp h4,qg Con.av h5,qp h6,qp h7,qp h8,fU x.pats] [rn 10,.pure (.iface 307 (.agg [])),rn 24,aL x.pats,rn 2,bf 14,rn 22,.reg [.d,.d,.d,.d,.d,.ans (.len (p.cons.length:Int)),.d,.pure (bV y0),.d,.b 15 true,.d,.d,.ans (.len (x.kids.length:Int)),.d,.d,.d,.d,.d,.ans (.idx (Con.av y1)),.d,.d,.d,.d,.d],rn 3,bt 24,rn 2,pB y2,rn 2,bt 29,rn 31,aL x.pats,rn 4] trivial
theorem aPK (p:Prog)(x:Node)(y0:Bool)(y1:Con)(h0:aE PP 206 [(nI x.op)] (.iface 307 (.agg [])))(h1:decide ((x.pats.length:Int) > (0:Int)) =false)(h2:aE PP 77 [(nI x.n),(nI 0),(nI (IntKind.i64.wrap ((p.cons.length:Int) - (1:Int))))] (bV y0))(h3:y0=true)(h4:0≤x.n)(h5: ((p.cons)[x.n.toNat]?) =some y1)(h6: ((x.kids.length:Int) ==y1.args) =false) :
  Ends PP 0 (start PP 161 [(Prog.av p),(Node.av x)]).as (.ret (bV false)) (aA [] 0) :=
 wE 5 [] [qp h0,fU x.pats,qp h1,ql Con.av p.cons,qp h2,qp h3,ql aB x.kids,qp h4,qg Con.av h5,qp h6] [rn 10,.pure (.iface 307 (.agg [])),rn 24,aL x.pats,rn 2,bf 14,rn 22,.reg [.d,.d,.d,.d,.d,.ans (.len (p.cons.length:Int)),.d,.pure (bV y0),.d,.b 15 true,.d,.d,.ans (.len (x.kids.length:Int)),.d,.d,.d,.d,.d,.ans (.idx (Con.av y1)),.d,.d,.d,.d,.d],rn 3,bf 24,rn 13] trivial
theorem aPL (p:Prog)(x:Node)(y0:Bool)(h0:aE PP 206 [(nI x.op)] (.iface 307 (.agg [])))(h1:decide ((x.pats.length:Int) > (0:Int)) =false)(h2:aE PP 77 [(nI x.n),(nI 0),(nI (IntKind.i64.wrap ((p.cons.length:Int) - (1:Int))))] (bV y0))(h3:y0=false) :
  Ends PP 0 (start PP 161 [(Prog.av p),(Node.av x)]).as (.ret (bV false)) (aA [] 0) :=
 wE 5 [] [qp h0,fU x.pats,qp h1,ql Con.av p.cons,qp h2,qp h3] [rn 10,.pure (.iface 307 (.agg [])),rn 24,aL x.pats,rn 2,bf 14,rn 22,.reg [.d,.d,.d,.d,.d,.ans (.len (p.cons.length:Int)),.d,.pure (bV y0),.d,.b 15 false,.d,.d,.d,.d,.d,.d,.d,.d,.d,.d,.d,.d,.d,.d],rn 16] trivial
theorem aPM (p:Prog)(x:Node)(k0:Int)(h0:aE PP 206 [(nI x.op)] (.iface 306 (nI k0)))(h1:decide ((x.pats.length:Int) > (0:Int)) =true) :
  Ends PP 0 (start PP 161 [(Prog.av p),(Node.av x)]).as (.ret (bV false)) (aA [] 0) :=
 wE 2 [] [qp h0,fU x.pats,qp h1] [rn 10,.pure (.iface 306 (nI k0)),rn 24,aL x.pats,rn 2,bt 14,rn 6] trivial
theorem aMS (p:Prog)(x:Node)(k0:Int)(y1:Bool)(h0:aE PP 206 [(nI x.op)] (.iface 306 (nI k0)))(h1:decide ((x.pats.length:Int) > (0:Int)) =false)(h2: ((x.kids.length:Int) ==k0) =true)(h3:aE PP 210 [(Prog.av p),(Node.av x)] (bV y1))(h4:y1=true) :
  LeadsM PP 0 (start PP 161 [(Prog.av p),(Node.av x)]).as (mD p x 0).as:=
 wW 5 [4,0] [qp h0,fU x.pats,qp h1,ql aB x.kids,qp h2,qp h3,qp h4,fU x.pats] [rn 10,.pure (.iface 306 (nI k0)),rn 24,aL x.pats,rn 2,bf 14,rn 24,aL x.kids,rn 7,bt 24,rn 2,pB y1,rn 2,bt 29,rn 31,aL x.pats,rn 4] trivial
theorem aMT (p:Prog)(x:Node)(k0:Int)(y1:Bool)(h0:aE PP 206 [(nI x.op)] (.iface 306 (nI k0)))(h1:decide ((x.pats.length:Int) > (0:Int)) =false)(h2: ((x.kids.length:Int) ==k0) =true)(h3:aE PP 210 [(Prog.av p),(Node.av x)] (bV y1))(h4:y1=false) :
  Ends PP 0 (start PP 161 [(Prog.av p),(Node.av x)]).as (.ret (bV false)) (aA [] 0) :=
 wE 4 [] [qp h0,fU x.pats,qp h1,ql aB x.kids,qp h2,qp h3,qp h4] [rn 10,.pure (.iface 306 (nI k0)),rn 24,aL x.pats,rn 2,bf 14,rn 24,aL x.kids,rn 7,bt 24,rn 2,pB y1,rn 2,bf 29,rn 8] trivial
theorem aMU (p:Prog)(x:Node)(k0:Int)(h0:aE PP 206 [(nI x.op)] (.iface 306 (nI k0)))(h1:decide ((x.pats.length:Int) > (0:Int)) =false)(h2: ((x.kids.length:Int) ==k0) =false) :
  Ends PP 0 (start PP 161 [(Prog.av p),(Node.av x)]).as (.ret (bV false)) (aA [] 0) :=
 wE 4 [] [qp h0,fU x.pats,qp h1,ql aB x.kids,qp h2] [rn 10,.pure (.iface 306 (nI k0)),rn 24,aL x.pats,rn 2,bf 14,rn 24,aL x.kids,rn 7,bf 24,rn 13] trivial
theorem aMV (p:Prog)(x:Node)(h0:aE PP 206 [(nI x.op)] .nili) :
  Ends PP 0 (start PP 161 [(Prog.av p),(Node.av x)]).as (.ret (bV false)) (aA [] 0) :=
 wE 2 [] [qp h0] [rn 10,.pure .nili,rn 18] trivial
theorem aPN (p:Prog)(x:Node)(t8 y_form0 y_n1:Int)(y_text2:aX)(y_parts3:List Pat)(y4:Int)(y5:Bool)(h0:decide (t8< (x.pats.length:Int)) =true)(h1:0≤t8)(h2: ((x.pats)[t8.toNat]?) =some (Pat.mk y_form0 y_n1 y_text2 y_parts3))(h3:aE PP 208 [(.agg [(nI y_form0),(nI y_n1),(bO y_text2),(iP y_parts3)]),(nI 12)] (nI y4))(h4:decide (y4≤ (12:Int)) =true)(h5:aE PP 209 [(Prog.av p),(.agg [(nI y_form0),(nI y_n1),(bO y_text2),(iP y_parts3)])] (bV y5))(h6: (!y5) =true) :
  Ends PP 0 (mD p x t8).as (.ret (bV (!(decide (t8≥ (0:Int)))))) (aA [] 0) :=
 wE 4 [] [qp h0,qp h1,qgP h2,qp h3,qp h4,qp h5,qp h6] [rn 5,bt 9,rn 14,aI (Pat.av (Pat.mk y_form0 y_n1 y_text2 y_parts3)),rn 20,.pure (nI y4),rn 2,bt 7,rn 2,pB y5,rn 11,bt 16,rn 22] trivial
theorem aPO (p:Prog)(x:Node)(t8 y_form0 y_n1:Int)(y_text2:aX)(y_parts3:List Pat)(y4:Int)(y5:Bool)(h0:decide (t8< (x.pats.length:Int)) =true)(h1:0≤t8)(h2: ((x.pats)[t8.toNat]?) =some (Pat.mk y_form0 y_n1 y_text2 y_parts3))(h3:aE PP 208 [(.agg [(nI y_form0),(nI y_n1),(bO y_text2),(iP y_parts3)]),(nI 12)] (nI y4))(h4:decide (y4≤ (12:Int)) =true)(h5:aE PP 209 [(Prog.av p),(.agg [(nI y_form0),(nI y_n1),(bO y_text2),(iP y_parts3)])] (bV y5))(h6: (!y5) =false)(h7: (IntKind.i64.wrap (t8+ (1:Int))) = (t8+ (1:Int))) :
  LeadsM PP 0 (mD p x t8).as (mD p x (t8+ (1:Int))).as:=
 wW 4 [0,1] [qp h0,qp h1,qgP h2,qp h3,qp h4,qp h5,qp h6,qp (congrArg (AV.int .i64) h7)] [rn 5,bt 9,rn 14,aI (Pat.av (Pat.mk y_form0 y_n1 y_text2 y_parts3)),rn 20,.pure (nI y4),rn 2,bt 7,rn 2,pB y5,rn 11,bf 16,rn 5,sI 18 (t8+ (1:Int)),rn 3] trivial
theorem aPP (p:Prog)(x:Node)(t8 y_form0 y_n1:Int)(y_text2:aX)(y_parts3:List Pat)(y4:Int)(h0:decide (t8< (x.pats.length:Int)) =true)(h1:0≤t8)(h2: ((x.pats)[t8.toNat]?) =some (Pat.mk y_form0 y_n1 y_text2 y_parts3))(h3:aE PP 208 [(.agg [(nI y_form0),(nI y_n1),(bO y_text2),(iP y_parts3)]),(nI 12)] (nI y4))(h4:decide (y4≤ (12:Int)) =false) :
  Ends PP 0 (mD p x t8).as (.ret (bV (!(decide (t8≥ (0:Int)))))) (aA [] 0) :=
 wE 4 [] [qp h0,qp h1,qgP h2,qp h3,qp h4] [rn 5,bt 9,rn 14,aI (Pat.av (Pat.mk y_form0 y_n1 y_text2 y_parts3)),rn 20,.pure (nI y4),rn 2,bf 7,rn 36] trivial
theorem aPQ (p:Prog)(x:Node)(t8:Int)(h0:decide (t8< (x.pats.length:Int)) =false) :
  Ends PP 0 (mD p x t8).as (.ret (bV true)) (aA [] 0) :=
 wE 2 [] [qp h0] [rn 5,bf 9,rn 22] trivial
noncomputable def pK (l:List aX)(t9:Int)(m0: (List (aX×Bool))) :TS:=
 {fr:={fn:=157,nt:=21,sl:=[(0,(iS l)),(2,(bV false)),(3,(.map 0)),(7,(iS l)),(8,(nI (l.length:Int))),(9,(nI t9))],todo:=[.code (cd Tryz.f157 [1,1,0,1,0,0]),.inLoop (cd Tryz.f157 [1,1,0,1,0,0]),.inBlock 0,.code (cd Tryz.f157 [1,1,1])]},cs:=[],hp:=[(0,(.map (aG bO eH 0 m0) m0.length),true)],nb:=1}
theorem aJ4 (l:List aX) :
  LeadsM PP 0 (start PP 157 [(iS l)]).as (pK l 0 ([] :List (aX×Bool))).as:=
 wW 1 [0] [qp (p:= ([] :List (AV×AV×Nat)) = (aG bO eH 0 ([] :List (aX×Bool)))) rfl,qp (p:=0=List.length ([] :List (aX×Bool))) rfl,ql bO l] [rn 7,.mset 0 (aG bO eH 0 ([] :List (aX×Bool))) ([] :List (aX×Bool)).length,rn 6,aL l,rn 4] ⟨aC (fun _=>rfl) (fun _=>rfl) _ _ _,trivial⟩
theorem aJ5 (l:List aX)(t9:Int)(m0: (List (aX×Bool)))(y0:aX)(h0:decide (t9< (l.length:Int)) =true)(h1:0≤t9)(h2: ((l)[t9.toNat]?) =some y0)(h3: (IntKind.i64.wrap (t9+ (1:Int))) = (t9+ (1:Int))) :
  LeadsM PP 0 (pK l t9 m0).as (pK l (t9+ (1:Int)) (cM y0 true m0)).as:=
 wW 1 [0] [qp h0,qp h1,qg bO h2,qp (p:=jD (aG bO eH 0 m0) m0.length (bO y0) (eH true) =some ((aG bO eH 0 (cM y0 true m0)),List.length (cM y0 true m0))) (wY aTS _ _ _),qp (congrArg (AV.int .i64) h3)] [rn 5,bt 10,rn 6,aI (bO y0),rn 6,.mput (aG bO eH 0 (cM y0 true m0)) (cM y0 true m0).length,rn 4,sI 15 (t9+ (1:Int)),rn 3] ⟨aC (fun _=>rfl) (fun _=>rfl) _ _ _,trivial⟩
theorem aJ6 (l:List aX)(t9:Int)(m0: (List (aX×Bool)))(h0:decide (t9< (l.length:Int)) =false) :
  Ends PP 0 (pK l t9 m0).as (.ret (bV ((m0.length:Int) == (l.length:Int)))) (aA [] 0) :=
 wE 1 [] [qp h0,qp (p:= (nI ((aG bO eH 0 m0).length:Int)) = (nI (m0.length:Int))) (aQ0 _ _ _),ql bO l] [rn 5,bf 10,rn 6,sI 17 (m0.length:Int),rn 1,aL l,rn 4] trivial
end Go.Hb
namespace Go.Hb
open Go.Proofs
noncomputable def xC (l:List Node)(p:Prog)(t8:Int) :TS:=
 {fr:={fn:=112,nt:=19,sl:=[(0,(iN l)),(1,(.func 205 [] [(.ptr 0 0)])),(4,(nI 0)),(7,(nI (l.length:Int))),(8,(nI t8))],todo:=[.code (cd Tryz.f112 [1,0,1,0,0]),.inLoop (cd Tryz.f112 [1,0,1,0,0]),.inBlock 0,.code (cd Tryz.f112 [1,1])]},cs:=[{fn:=45,nt:=9,sl:=[(4,(bV false)),(5,(iN l)),(6,(.func 205 [] [(.ptr 0 0)]))],todo:=[mH Tryz.f45 [1,0] 2,.code (cd Tryz.f45 [1,1])]},{fn:=160,nt:=9,sl:=[(4,(bV false)),(5,(iN l)),(6,(.func 205 [] [(.ptr 0 0)]))],todo:=[mH Tryz.f160 [1,0] 2,.code (cd Tryz.f160 [1,1])]}],hp:=[(0,(.cells (putCells .leaf 0 [(.func 161 [(Prog.av p)] [])]) 1 [] false),false)],nb:=1}
theorem aRJ (l:List Node)(p:Prog) :
  LeadsM PP 0 (start PP 160 [(iN l),(.func 161 [(Prog.av p)] [])]).as (xC l p 0).as:=
 wW 1 [0] [ql Node.av l] [rn 27,aL l,rn 4] trivial
theorem aRK (l:List Node)(p:Prog)(t8:Int)(y0:Node)(y1:Bool)(h0:decide (t8< (l.length:Int)) =true)(h1:0≤t8)(h2: ((l)[t8.toNat]?) =some y0)(h3:aE PP 161 [(Prog.av p),(Node.av y0)] (bV y1))(h4: (!y1) =true) :
  Ends PP 0 (xC l p t8).as (.ret (bV (!(decide (t8≥ (0:Int)))))) (aA [] 0) :=
 wE 2 [] [qp h0,qp h1,qg Node.av h2,qp h3,qp h4] [rn 5,bt 9,rn 14,aI (Node.av y0),rn 11,pB y1,rn 6,bt 16,rn 17] trivial
theorem aRL (l:List Node)(p:Prog)(t8:Int)(y0:Node)(y1:Bool)(h0:decide (t8< (l.length:Int)) =true)(h1:0≤t8)(h2: ((l)[t8.toNat]?) =some y0)(h3:aE PP 161 [(Prog.av p),(Node.av y0)] (bV y1))(h4: (!y1) =false)(h5: (IntKind.i64.wrap (t8+ (1:Int))) = (t8+ (1:Int))) :
  LeadsM PP 0 (xC l p t8).as (xC l p (t8+ (1:Int))).as:=
 wW 2 [0] [qp h0,qp h1,qg Node.av h2,qp h3,qp h4,qp (congrArg (AV.int .i64) h5)] [rn 5,bt 9,rn 14,aI (Node.av y0),rn 11,pB y1,rn 6,bf 16,rn 5,sI 18 (t8+ (1:Int)),rn 3] trivial
theorem aRM (l:List Node)(p:Prog)(t8:Int)(h0:decide (t8< (l.length:Int)) =false) :
  Ends PP 0 (xC l p t8).as (.ret (bV true)) (aA [] 0) :=
 wE 1 [] [qp h0] [rn 5,bf 9,rn 17] trivial
noncomputable def xE (l:List Con)(t8:Int) :TS:=
 {fr:={fn:=100,nt:=19,sl:=[(0,(iC l)),(1,(.func 204 [] [(.ptr 0 0)])),(4,(nI 0)),(7,(nI (l.length:Int))),(8,(nI t8))],todo:=[.code (cd Tryz.f100 [1,0,1,0,0]),.inLoop (cd Tryz.f100 [1,0,1,0,0]),.inBlock 0,.code (cd Tryz.f100 [1,1])]},cs:=[{fn:=203,nt:=9,sl:=[(4,(bV false)),(5,(iC l)),(6,(.func 204 [] [(.ptr 0 0)]))],todo:=[mH Tryz.f203 [1,0] 2,.code (cd Tryz.f203 [1,1])]},{fn:=155,nt:=9,sl:=[(4,(bV false)),(5,(iC l)),(6,(.func 204 [] [(.ptr 0 0)]))],todo:=[mH Tryz.f155 [1,0] 2,.code (cd Tryz.f155 [1,1])]}],hp:=[(0,(.cells (putCells .leaf 0 [(.func 156 [] [])]) 1 [] false),false)],nb:=1}
theorem aRN (l:List Con) :
  LeadsM PP 0 (start PP 155 [(iC l),(.func 156 [] [])]).as (xE l 0).as:=
 wW 1 [0] [ql Con.av l] [rn 27,aL l,rn 4] trivial
theorem aRO (l:List Con)(t8:Int)(y0:Con)(y1:Bool)(h0:decide (t8< (l.length:Int)) =true)(h1:0≤t8)(h2: ((l)[t8.toNat]?) =some y0)(h3:aE PP 156 [(.agg [(bO y0.name),(nI y0.args)])] (bV y1))(h4: (!y1) =true) :
  Ends PP 0 (xE l t8).as (.ret (bV (!(decide (t8≥ (0:Int)))))) (aA [] 0) :=
 wE 2 [] [qp h0,qp h1,qg Con.av h2,qp h3,qp h4] [rn 5,bt 9,rn 14,aI (Con.av y0),rn 11,pB y1,rn 6,bt 16,rn 17] trivial
theorem aRP (l:List Con)(t8:Int)(y0:Con)(y1:Bool)(h0:decide (t8< (l.length:Int)) =true)(h1:0≤t8)(h2: ((l)[t8.toNat]?) =some y0)(h3:aE PP 156 [(.agg [(bO y0.name),(nI y0.args)])] (bV y1))(h4: (!y1) =false)(h5: (IntKind.i64.wrap (t8+ (1:Int))) = (t8+ (1:Int))) :
  LeadsM PP 0 (xE l t8).as (xE l (t8+ (1:Int))).as:=
 wW 2 [0] [qp h0,qp h1,qg Con.av h2,qp h3,qp h4,qp (congrArg (AV.int .i64) h5)] [rn 5,bt 9,rn 14,aI (Con.av y0),rn 11,pB y1,rn 6,bf 16,rn 5,sI 18 (t8+ (1:Int)),rn 3] trivial
theorem aRQ (l:List Con)(t8:Int)(h0:decide (t8< (l.length:Int)) =false) :
  Ends PP 0 (xE l t8).as (.ret (bV true)) (aA [] 0) :=
 wE 1 [] [qp h0] [rn 5,bf 9,rn 17] trivial
noncomputable def xF (l:List Int)(t8:Int) :TS:=
 {fr:={fn:=255,nt:=19,sl:=[(0,(.ilst 1 (jI l) true)),(1,(.func 213 [] [(.ptr 0 0)])),(4,(nI 0)),(7,(nI (l.length:Int))),(8,(nI t8))],todo:=[.code (cd Tryz.f255 [1,0,1,0,0]),.inLoop (cd Tryz.f255 [1,0,1,0,0]),.inBlock 0,.code (cd Tryz.f255 [1,1])]},cs:=[{fn:=212,nt:=9,sl:=[(4,(bV false)),(5,(.ilst 1 (jI l) true)),(6,(.func 213 [] [(.ptr 0 0)]))],todo:=[mH Tryz.f212 [1,0] 2,.code (cd Tryz.f212 [1,1])]},{fn:=162,nt:=9,sl:=[(4,(bV false)),(5,(.ilst 1 (jI l) true)),(6,(.func 213 [] [(.ptr 0 0)]))],todo:=[mH Tryz.f162 [1,0] 2,.code (cd Tryz.f162 [1,1])]}],hp:=[(0,(.cells (putCells .leaf 0 [(.func 163 [] [])]) 1 [] false),false)],nb:=1}
theorem aRR (l:List Int) :
  LeadsM PP 0 (start PP 162 [(.ilst 1 (jI l) true),(.func 163 [] [])]).as (xF l 0).as:=
 wW 1 [0] [ql aB l] [rn 27,aL l,rn 4] trivial
theorem aRS (l:List Int)(t8 y0:Int)(h0:decide (t8< (l.length:Int)) =true)(h1:0≤t8)(h2: ((l)[t8.toNat]?) =some y0)(h3: (!(y0== (1:Int))) =true) :
  Ends PP 0 (xF l t8).as (.ret (bV (!(decide (t8≥ (0:Int)))))) (aA [] 0) :=
 wE 1 [] [qp h0,qp h1,qg aB h2,qp h3] [rn 5,bt 9,rn 14,aI (aB y0),rn 29,bt 16,rn 17] trivial
theorem aRT (l:List Int)(t8 y0:Int)(h0:decide (t8< (l.length:Int)) =true)(h1:0≤t8)(h2: ((l)[t8.toNat]?) =some y0)(h3: (!(y0== (1:Int))) =false)(h4: (IntKind.i64.wrap (t8+ (1:Int))) = (t8+ (1:Int))) :
  LeadsM PP 0 (xF l t8).as (xF l (t8+ (1:Int))).as:=
 wW 1 [0] [qp h0,qp h1,qg aB h2,qp h3,qp (congrArg (AV.int .i64) h4)] [rn 5,bt 9,rn 14,aI (aB y0),rn 29,bf 16,rn 5,sI 18 (t8+ (1:Int)),rn 3] trivial
theorem aRU (l:List Int)(t8:Int)(h0:decide (t8< (l.length:Int)) =false) :
  Ends PP 0 (xF l t8).as (.ret (bV true)) (aA [] 0) :=
 wE 1 [] [qp h0] [rn 5,bf 9,rn 17] trivial
noncomputable def aAQ (l:List Con)(t10:Int)(l0:List aX) :TS:=
 {fr:={fn:=158,nt:=22,sl:=[(1,(.func 159 [] [])),(4,.nils),(5,(.gl 0 1 0 l0.length false)),(8,(iC l)),(9,(nI (l.length:Int))),(10,(nI t10))],todo:=[.code (cd Tryz.f158 [1,1,0,1,0,0]),.inLoop (cd Tryz.f158 [1,1,0,1,0,0]),.inBlock 0,.code (cd Tryz.f158 [1,1,1])]},cs:=[],hp:=[(0,(.lst 1 (List.map bO l0)),true)],nb:=1}
theorem aRV (l:List Con) :
  LeadsM PP 0 (start PP 158 [(iC l),(.func 159 [] [])]).as (aAQ l 0 ([] :List aX)).as:=
 wW 1 [0] [ql Con.av l,qp (p:= ([] :List AV) = (List.map bO ([] :List aX))) rfl,qp (p:= (AV.gl 0 1 0 0 false) = (.gl 0 1 0 ([] :List aX).length false)) rfl] [rn 12,aL l,rn 4,.nilL 5 1,.lset 0 (List.map bO ([] :List aX)),.set 5 (.gl 0 1 0 ([] :List aX).length false)] ⟨kk,trivial⟩
theorem aRW (l:List Con)(t10:Int)(l0:List aX)(y0:Con)(h0:decide (t10< (l.length:Int)) =true)(h1:0≤t10)(h2: ((l)[t10.toNat]?) =some y0)(h3:List.length (l0++ [y0.name]) ≤1000000)(h4: (IntKind.i64.wrap (t10+ (1:Int))) = (t10+ (1:Int))) :
  LeadsM PP 0 (aAQ l t10 l0).as (aAQ l (t10+ (1:Int)) (l0++ [y0.name])).as:=
 wW 5 [4] [qp h0,qp h1,qg Con.av h2,qp (gK bO l0),qp h3,qp (gP bO l0 [y0.name]),qp (gQ bO l0 [y0.name]),qp (congrArg (AV.int .i64) h4)] [rn 5,bt 11,rn 6,aI (Con.av y0),rn 23,.app (List.map bO (l0++ [y0.name])) (l0++ [y0.name]).length,rn 5,sI 20 (t10+ (1:Int)),rn 3] ⟨kk,trivial⟩
theorem aRX (l:List Con)(t10:Int)(l0:List aX)(h0:decide (t10< (l.length:Int)) =false) :
  Ends PP 0 (aAQ l t10 l0).as (.ret (iS l0)) (aA [] 0) :=
 wE 1 [] [qp h0,qp (p:=AV.keylessL (List.map bO l0) =true) (aD _ (fun _=>rfl) _),qp (p:=AV.frzOk 0 1 (List.map bO l0) (List.map bO l0) (.gl 0 1 0 l0.length false)) (eA _ _)] [rn 5,bf 11,rn 8,.frz 4 0 (List.map bO l0)] trivial
noncomputable def mV (p:Prog)(t79:Int)(l1:List Int) :TS:=
 {fr:={fn:=93,nt:=128,sl:=[(1,(.ptr 0 0)),(2,(bV false)),(3,(nI (p.nodes.length:Int))),(4,(.gl 1 1 0 l1.length true)),(77,(iI p.funs)),(78,(nI (p.funs.length:Int))),(79,(nI t79))],todo:=[.code (cd Tryz.f93 [1,1,1,1,1,0,1,0,0]),.inLoop (cd Tryz.f93 [1,1,1,1,1,0,1,0,0]),.inBlock 0,.code (cd Tryz.f93 [1,1,1,1,1,1])]},cs:=[],hp:=[(0,(.cells (putCells .leaf 0 [(iN p.nodes),(iI p.funs),(nI p.main),(iC p.cons)]) 4 [] false),false),(1,(.lst 1 (jI l1)),true)],nb:=2}
noncomputable def mW (p:Prog)(l0:List Int)(t99:Int) :TS:=
 {fr:={fn:=93,nt:=128,sl:=[(2,(bV false)),(3,(nI (p.nodes.length:Int))),(4,(.gl 0 1 0 l0.length true)),(97,(iN p.nodes)),(98,(nI (p.nodes.length:Int))),(99,(nI t99))],todo:=[.code (cd Tryz.f93 [1,1,1,1,1,1,0,1,0,0]),.inLoop (cd Tryz.f93 [1,1,1,1,1,1,0,1,0,0]),.inBlock 2,.code (cd Tryz.f93 [1,1,1,1,1,1,1])]},cs:=[],hp:=[(0,(.lst 1 (jI l0)),true)],nb:=1}
noncomputable def mX (p:Prog)(t105:List Int)(t106:Int)(l0:List Int)(t107 i7 t99:Int) :TS:=
 {fr:={fn:=93,nt:=128,sl:=[(2,(bV false)),(3,(nI (p.nodes.length:Int))),(4,(.gl 0 1 0 l0.length true)),(7,(nI i7)),(97,(iN p.nodes)),(98,(nI (p.nodes.length:Int))),(99,(nI t99)),(105,(iI t105)),(106,(nI t106)),(107,(nI t107))],todo:=[.code (cd Tryz.f93 [1,1,1,1,1,1,0,1,0,0,1,1,0,0,1,1,0,0]),.inLoop (cd Tryz.f93 [1,1,1,1,1,1,0,1,0,0,1,1,0,0,1,1,0,0]),.inBlock 4,.inBlock 3,.code (cd Tryz.f93 [1,1,1,1,1,1,0,1,0,0,1,1,1]),.inLoop (cd Tryz.f93 [1,1,1,1,1,1,0,1,0,0]),.inBlock 2,.code (cd Tryz.f93 [1,1,1,1,1,1,1])]},cs:=[],hp:=[(0,(.lst 1 (jI l0)),true)],nb:=1}
theorem aJ7 (p:Prog)(h0:decide ((p.nodes.length:Int) > (300:Int)) =true) :
  Ends PP 0 (start PP 93 [(Prog.av p)]).as (.ret (bV false)) (aA [] 0) :=
 wE 1 [] [ql Node.av p.nodes,qp h0] [rn 10,aL p.nodes,rn 8,bt 17,rn 40] trivial
theorem aJ8 (p:Prog)(h0:decide ((p.nodes.length:Int) > (300:Int)) =false)(h1:decide ((p.funs.length:Int) < (1:Int)) =true) :
  Ends PP 0 (start PP 93 [(Prog.av p)]).as (.ret (bV false)) (aA [] 0) :=
 wE 1 [] [ql Node.av p.nodes,qp h0,ql aB p.funs,qp h1] [rn 10,aL p.nodes,rn 8,bf 17,rn 3,aL p.funs,rn 3,bt 24,rn 33] trivial
theorem aJ9 (p:Prog)(h0:decide ((p.nodes.length:Int) > (300:Int)) =false)(h1:decide ((p.funs.length:Int) < (1:Int)) =false)(h2:decide ((p.funs.length:Int) > (p.nodes.length:Int)) =true) :
  Ends PP 0 (start PP 93 [(Prog.av p)]).as (.ret (bV false)) (aA [] 0) :=
 wE 1 [] [ql Node.av p.nodes,qp h0,ql aB p.funs,qp h1,ql aB p.funs,qp h2] [rn 10,aL p.nodes,rn 8,bf 17,rn 3,aL p.funs,rn 3,bf 24,rn 3,aL p.funs,rn 4,bt 32,rn 25] trivial
theorem aKa (p:Prog)(h0:decide ((p.nodes.length:Int) > (300:Int)) =false)(h1:decide ((p.funs.length:Int) < (1:Int)) =false)(h2:decide ((p.funs.length:Int) > (p.nodes.length:Int)) =false)(h3:decide ((p.cons.length:Int) > (20:Int)) =true) :
  Ends PP 0 (start PP 93 [(Prog.av p)]).as (.ret (bV false)) (aA [] 0) :=
 wE 1 [] [ql Node.av p.nodes,qp h0,ql aB p.funs,qp h1,ql aB p.funs,qp h2,ql Con.av p.cons,qp h3] [rn 10,aL p.nodes,rn 8,bf 17,rn 3,aL p.funs,rn 3,bf 24,rn 3,aL p.funs,rn 4,bf 32,rn 3,aL p.cons,rn 3,bt 39,rn 18] trivial
theorem aKb (p:Prog)(y0:Bool)(h0:decide ((p.nodes.length:Int) > (300:Int)) =false)(h1:decide ((p.funs.length:Int) < (1:Int)) =false)(h2:decide ((p.funs.length:Int) > (p.nodes.length:Int)) =false)(h3:decide ((p.cons.length:Int) > (20:Int)) =false)(h4: (IntKind.i64.wrap ((p.funs.length:Int) - (1:Int))) = ((p.funs.length:Int) - (1:Int)))(h5:aE PP 77 [(nI p.main),(nI 0),(nI ((p.funs.length:Int) - (1:Int)))] (bV y0))(h6: (!y0) =true) :
  Ends PP 0 (start PP 93 [(Prog.av p)]).as (.ret (bV false)) (aA [] 0) :=
 wE 1 [] [ql Node.av p.nodes,qp h0,ql aB p.funs,qp h1,ql aB p.funs,qp h2,ql Con.av p.cons,qp h3,ql aB p.funs,qp (congrArg (AV.int .i64) h4),qp h5,qp h6] [rn 10,aL p.nodes,rn 8,bf 17,rn 3,aL p.funs,rn 3,bf 24,rn 3,aL p.funs,rn 4,bf 32,rn 3,aL p.cons,rn 3,bf 39,rn 6,aL p.funs,rn 1,sI 47 ((p.funs.length:Int) - (1:Int)),pB y0,rn 3,bt 50,rn 6] trivial
theorem aKc (p:Prog)(y0 y1:Bool)(h0:decide ((p.nodes.length:Int) > (300:Int)) =false)(h1:decide ((p.funs.length:Int) < (1:Int)) =false)(h2:decide ((p.funs.length:Int) > (p.nodes.length:Int)) =false)(h3:decide ((p.cons.length:Int) > (20:Int)) =false)(h4: (IntKind.i64.wrap ((p.funs.length:Int) - (1:Int))) = ((p.funs.length:Int) - (1:Int)))(h5:aE PP 77 [(nI p.main),(nI 0),(nI ((p.funs.length:Int) - (1:Int)))] (bV y0))(h6: (!y0) =false)(h7:aE PP 155 [(iC p.cons),(.func 156 [] [])] (bV y1))(h8: (!y1) =true) :
  Ends PP 0 (start PP 93 [(Prog.av p)]).as (.ret (bV false)) (aA [] 0) :=
 wE 1 [] [ql Node.av p.nodes,qp h0,ql aB p.funs,qp h1,ql aB p.funs,qp h2,ql Con.av p.cons,qp h3,ql aB p.funs,qp (congrArg (AV.int .i64) h4),qp h5,qp h6,qp h7,qp h8] [rn 10,aL p.nodes,rn 8,bf 17,rn 3,aL p.funs,rn 3,bf 24,rn 3,aL p.funs,rn 4,bf 32,rn 3,aL p.cons,rn 3,bf 39,rn 6,aL p.funs,rn 1,sI 47 ((p.funs.length:Int) - (1:Int)),pB y0,rn 3,bf 50,rn 8,pB y1,rn 2,bt 56,rn 23] trivial
theorem aKd (p:Prog)(y0 y1:Bool)(y2:List aX)(y3:Bool)(h0:decide ((p.nodes.length:Int) > (300:Int)) =false)(h1:decide ((p.funs.length:Int) < (1:Int)) =false)(h2:decide ((p.funs.length:Int) > (p.nodes.length:Int)) =false)(h3:decide ((p.cons.length:Int) > (20:Int)) =false)(h4: (IntKind.i64.wrap ((p.funs.length:Int) - (1:Int))) = ((p.funs.length:Int) - (1:Int)))(h5:aE PP 77 [(nI p.main),(nI 0),(nI ((p.funs.length:Int) - (1:Int)))] (bV y0))(h6: (!y0) =false)(h7:aE PP 155 [(iC p.cons),(.func 156 [] [])] (bV y1))(h8: (!y1) =false)(h9:aE PP 158 [(iC p.cons),(.func 159 [] [])] (iS y2))(h10:aE PP 157 [(iS y2)] (bV y3))(h11: (!y3) =true) :
  Ends PP 0 (start PP 93 [(Prog.av p)]).as (.ret (bV false)) (aA [] 0) :=
 wE 1 [] [ql Node.av p.nodes,qp h0,ql aB p.funs,qp h1,ql aB p.funs,qp h2,ql Con.av p.cons,qp h3,ql aB p.funs,qp (congrArg (AV.int .i64) h4),qp h5,qp h6,qp h7,qp h8,qp h9,qp h10,qp h11] [rn 10,aL p.nodes,rn 8,bf 17,rn 3,aL p.funs,rn 3,bf 24,rn 3,aL p.funs,rn 4,bf 32,rn 3,aL p.cons,rn 3,bf 39,rn 6,aL p.funs,rn 1,sI 47 ((p.funs.length:Int) - (1:Int)),pB y0,rn 3,bf 50,rn 8,pB y1,rn 2,bf 56,rn 3,.pure (iS y2),pB y3,rn 3,bt 64,rn 15] trivial
theorem aKe (p:Prog)(y0 y1:Bool)(y2:List aX)(y3 y4:Bool)(h0:decide ((p.nodes.length:Int) > (300:Int)) =false)(h1:decide ((p.funs.length:Int) < (1:Int)) =false)(h2:decide ((p.funs.length:Int) > (p.nodes.length:Int)) =false)(h3:decide ((p.cons.length:Int) > (20:Int)) =false)(h4: (IntKind.i64.wrap ((p.funs.length:Int) - (1:Int))) = ((p.funs.length:Int) - (1:Int)))(h5:aE PP 77 [(nI p.main),(nI 0),(nI ((p.funs.length:Int) - (1:Int)))] (bV y0))(h6: (!y0) =false)(h7:aE PP 155 [(iC p.cons),(.func 156 [] [])] (bV y1))(h8: (!y1) =false)(h9:aE PP 158 [(iC p.cons),(.func 159 [] [])] (iS y2))(h10:aE PP 157 [(iS y2)] (bV y3))(h11: (!y3) =false)(h12:aE PP 160 [(iN p.nodes),(.func 161 [(Prog.av p)] [])] (bV y4))(h13: (!y4) =true) :
  Ends PP 0 (start PP 93 [(Prog.av p)]).as (.ret (bV false)) (aA [] 0) :=
 wE 1 [] [ql Node.av p.nodes,qp h0,ql aB p.funs,qp h1,ql aB p.funs,qp h2,ql Con.av p.cons,qp h3,ql aB p.funs,qp (congrArg (AV.int .i64) h4),qp h5,qp h6,qp h7,qp h8,qp h9,qp h10,qp h11,qp h12,qp h13] [rn 10,aL p.nodes,rn 8,bf 17,rn 3,aL p.funs,rn 3,bf 24,rn 3,aL p.funs,rn 4,bf 32,rn 3,aL p.cons,rn 3,bf 39,rn 6,aL p.funs,rn 1,sI 47 ((p.funs.length:Int) - (1:Int)),pB y0,rn 3,bf 50,rn 8,pB y1,rn 2,bf 56,rn 3,.pure (iS y2),pB y3,rn 3,bf 64,rn 5,pB y4,rn 3,bt 72,rn 6] trivial
theorem aKf (p:Prog)(y0 y1:Bool)(y2:List aX)(y3 y4:Bool)(h0:decide ((p.nodes.length:Int) > (300:Int)) =false)(h1:decide ((p.funs.length:Int) < (1:Int)) =false)(h2:decide ((p.funs.length:Int) > (p.nodes.length:Int)) =false)(h3:decide ((p.cons.length:Int) > (20:Int)) =false)(h4: (IntKind.i64.wrap ((p.funs.length:Int) - (1:Int))) = ((p.funs.length:Int) - (1:Int)))(h5:aE PP 77 [(nI p.main),(nI 0),(nI ((p.funs.length:Int) - (1:Int)))] (bV y0))(h6: (!y0) =false)(h7:aE PP 155 [(iC p.cons),(.func 156 [] [])] (bV y1))(h8: (!y1) =false)(h9:aE PP 158 [(iC p.cons),(.func 159 [] [])] (iS y2))(h10:aE PP 157 [(iS y2)] (bV y3))(h11: (!y3) =false)(h12:aE PP 160 [(iN p.nodes),(.func 161 [(Prog.av p)] [])] (bV y4))(h13: (!y4) =false)(h14:p.nodes.length<100000) :
  LeadsM PP 0 (start PP 93 [(Prog.av p)]).as (mV p 0 (List.replicate p.nodes.length (0:Int))).as:=
 wW 2 [0,1] [ql Node.av p.nodes,qp h0,ql aB p.funs,qp h1,ql aB p.funs,qp h2,ql Con.av p.cons,qp h3,ql aB p.funs,qp (congrArg (AV.int .i64) h4),qp h5,qp h6,qp h7,qp h8,qp h9,qp h10,qp h11,qp h12,qp h13,qp (p:= (p.nodes.length:Int) = ((p.nodes.length:Nat) :Int)) rfl,qp (p:= (p.nodes.length:Int) = ((p.nodes.length:Nat) :Int)) rfl,qp h14,qp (p:=List.replicate p.nodes.length (aB (0:Int)) = (jI (List.replicate p.nodes.length (0:Int)))) (aHx _ _ _),qp (p:= (AV.gl 1 1 0 p.nodes.length true) = (.gl 1 1 0 (List.replicate p.nodes.length (0:Int)).length true)) (aDF (List.length_replicate ..).symm),ql aB p.funs] [rn 10,aL p.nodes,rn 8,bf 17,rn 3,aL p.funs,rn 3,bf 24,rn 3,aL p.funs,rn 4,bf 32,rn 3,aL p.cons,rn 3,bf 39,rn 6,aL p.funs,rn 1,sI 47 ((p.funs.length:Int) - (1:Int)),pB y0,rn 3,bf 50,rn 8,pB y1,rn 2,bf 56,rn 3,.pure (iS y2),pB y3,rn 3,bf 64,rn 5,pB y4,rn 3,bf 72,rn 5,.mk p.nodes.length,.lset 1 (jI (List.replicate p.nodes.length (0:Int))),.set 74 (.gl 1 1 0 (List.replicate p.nodes.length (0:Int)).length true),rn 8,aL p.funs,rn 4] ⟨kk,trivial⟩
theorem aKg (p:Prog)(t79:Int)(l1:List Int)(y0:Int)(y1:Bool)(h0:decide (t79< (p.funs.length:Int)) =true)(h1:0≤t79)(h2: ((p.funs)[t79.toNat]?) =some y0)(h3: (IntKind.i64.wrap ((p.nodes.length:Int) - (1:Int))) = ((p.nodes.length:Int) - (1:Int)))(h4:aE PP 77 [(nI y0),(nI 0),(nI ((p.nodes.length:Int) - (1:Int)))] (bV y1))(h5: (!y1) =true) :
  Ends PP 0 (mV p t79 l1).as (.ret (bV false)) (aA [] 0) :=
 wE 2 [] [qp h0,qp h1,qg aB h2,qp (congrArg (AV.int .i64) h3),qp h4,qp h5] [rn 5,bt 80,rn 6,aI (aB y0),rn 9,sI 85 ((p.nodes.length:Int) - (1:Int)),pB y1,rn 2,bt 87,rn 6] trivial
theorem aKh (p:Prog)(t79:Int)(l1:List Int)(y0:Int)(y1:Bool)(y2:Int)(h0:decide (t79< (p.funs.length:Int)) =true)(h1:0≤t79)(h2: ((p.funs)[t79.toNat]?) =some y0)(h3: (IntKind.i64.wrap ((p.nodes.length:Int) - (1:Int))) = ((p.nodes.length:Int) - (1:Int)))(h4:aE PP 77 [(nI y0),(nI 0),(nI ((p.nodes.length:Int) - (1:Int)))] (bV y1))(h5: (!y1) =false)(h6:0≤y0)(h7:y0< ((l1.length:Nat) :Int))(h8: ((l1)[y0.toNat]?) =some y2)(h9: (IntKind.i64.wrap (y2+ (1:Int))) = (y2+ (1:Int)))(h10: (IntKind.i64.wrap (t79+ (1:Int))) = (t79+ (1:Int))) :
  LeadsM PP 0 (mV p t79 l1).as (mV p (t79+ (1:Int)) (List.set l1 y0.toNat (y2+ (1:Int)))).as:=
 wW 2 [0,1] [qp h0,qp h1,qg aB h2,qp (congrArg (AV.int .i64) h3),qp h4,qp h5,qp h6,qp h7,qh aB h8,qp (congrArg (AV.int .i64) h9),qp h6,qp h7,qh aB h8,qp (p:=jS (aB y2) 0 [(nI (y2+ (1:Int)))] =some (aB (y2+ (1:Int)))) rfl,qp (p:= (jI l1).set (0+y0.toNat) (aB (y2+ (1:Int))) = (jI (List.set l1 y0.toNat (y2+ (1:Int))))) (pH _ _ _ _),qs 1 1 0 l1 y0.toNat (y2+ (1:Int)) true,qs 1 1 0 l1 y0.toNat (y2+ (1:Int)) true,qp (congrArg (AV.int .i64) h10)] [rn 5,bt 80,rn 6,aI (aB y0),rn 9,sI 85 ((p.nodes.length:Int) - (1:Int)),pB y1,rn 2,bf 87,rn 5,.ans (.ix),aI (aB y2),rn 1,sI 92 (y2+ (1:Int)),.ans (.ix),.st (aB y2) (aB (y2+ (1:Int))),.lset 1 (jI (List.set l1 y0.toNat (y2+ (1:Int)))),.set 4 (.gl 1 1 0 (List.set l1 y0.toNat (y2+ (1:Int))).length true),.set 88 (.gl 1 1 0 (List.set l1 y0.toNat (y2+ (1:Int))).length true),rn 4,sI 94 (t79+ (1:Int)),rn 3] ⟨kk,trivial⟩
theorem aKi (p:Prog)(t79:Int)(l1:List Int)(h0:decide (t79< (p.funs.length:Int)) =false) :
  LeadsM PP 0 (mV p t79 l1).as (mW p l1 0).as:=
 wW 2 [1] [qp h0,ql Node.av p.nodes] [rn 5,bf 80,rn 8,aL p.nodes,rn 4] ⟨kk,trivial⟩
theorem aKj (p:Prog)(l0:List Int)(t99:Int)(y0:Node)(h0:decide (t99< (p.nodes.length:Int)) =true)(h1:0≤t99)(h2: ((p.nodes)[t99.toNat]?) =some y0) :
  LeadsM PP 0 (mW p l0 t99).as (mX p y0.kids (y0.kids.length:Int) l0 0 t99 t99).as:=
 wW 2 [0] [qp h0,qp h1,qg Node.av h2,ql aB y0.kids] [rn 5,bt 100,rn 7,aI (Node.av y0),rn 9,aL y0.kids,rn 4] ⟨kk,trivial⟩
theorem aKk (p:Prog)(l0:List Int)(t99:Int)(y0:Bool)(h0:decide (t99< (p.nodes.length:Int)) =false)(h1:aE PP 162 [(.ilst 1 (jI l0) true),(.func 163 [] [])] (bV y0)) :
  Ends PP 0 (mW p l0 t99).as (.ret (bV y0)) (aA [] 0) :=
 wE 1 [] [qp h0,qp (p:=AV.keylessL (jI l0) =true) (aD _ (fun _=>rfl) _),qp (p:=AV.frzOk 0 1 (jI l0) (jI l0) (.gl 0 1 0 l0.length true)) (eA _ _),qp h1] [rn 5,bf 100,rn 5,.frz 126 0 (jI l0),pB y0,rn 3] trivial
theorem aKl (p:Prog)(t105:List Int)(t106:Int)(l0:List Int)(t107 i7:Int)(t99 y0:Int)(y1:Bool)(h0:decide (t107<t106) =true)(h1:0≤t107)(h2: ((t105)[t107.toNat]?) =some y0)(h3: (IntKind.i64.wrap (i7+ (1:Int))) = (i7+ (1:Int)))(h4: (IntKind.i64.wrap ((p.nodes.length:Int) - (1:Int))) = ((p.nodes.length:Int) - (1:Int)))(h5:aE PP 77 [(nI y0),(nI (i7+ (1:Int))),(nI ((p.nodes.length:Int) - (1:Int)))] (bV y1))(h6: (!y1) =true) :
  Ends PP 0 (mX p t105 t106 l0 t107 i7 t99).as (.ret (bV false)) (aA [] 0) :=
 wE 1 [] [qp h0,qp h1,qg aB h2,qp (congrArg (AV.int .i64) h3),qp (congrArg (AV.int .i64) h4),qp h5,qp h6] [rn 5,bt 108,rn 6,aI (aB y0),rn 9,sI 113 (i7+ (1:Int)),rn 2,sI 115 ((p.nodes.length:Int) - (1:Int)),pB y1,rn 2,bt 117,rn 6] trivial
theorem aKm (p:Prog)(t105:List Int)(t106:Int)(l0:List Int)(t107 i7:Int)(t99 y0:Int)(y1:Bool)(y2:Int)(h0:decide (t107<t106) =true)(h1:0≤t107)(h2: ((t105)[t107.toNat]?) =some y0)(h3: (IntKind.i64.wrap (i7+ (1:Int))) = (i7+ (1:Int)))(h4: (IntKind.i64.wrap ((p.nodes.length:Int) - (1:Int))) = ((p.nodes.length:Int) - (1:Int)))(h5:aE PP 77 [(nI y0),(nI (i7+ (1:Int))),(nI ((p.nodes.length:Int) - (1:Int)))] (bV y1))(h6: (!y1) =false)(h7:0≤y0)(h8:y0< ((l0.length:Nat) :Int))(h9: ((l0)[y0.toNat]?) =some y2)(h10: (IntKind.i64.wrap (y2+ (1:Int))) = (y2+ (1:Int)))(h11: (IntKind.i64.wrap (t107+ (1:Int))) = (t107+ (1:Int))) :
  LeadsM PP 0 (mX p t105 t106 l0 t107 i7 t99).as (mX p t105 t106 (List.set l0 y0.toNat (y2+ (1:Int))) (t107+ (1:Int)) i7 t99).as:=
 wW 1 [0] [qp h0,qp h1,qg aB h2,qp (congrArg (AV.int .i64) h3),qp (congrArg (AV.int .i64) h4),qp h5,qp h6,qp h7,qp h8,qh aB h9,qp (congrArg (AV.int .i64) h10),qp h7,qp h8,qh aB h9,qp (p:=jS (aB y2) 0 [(nI (y2+ (1:Int)))] =some (aB (y2+ (1:Int)))) rfl,qp (p:= (jI l0).set (0+y0.toNat) (aB (y2+ (1:Int))) = (jI (List.set l0 y0.toNat (y2+ (1:Int))))) (pH _ _ _ _),qs 0 1 0 l0 y0.toNat (y2+ (1:Int)) true,qs 0 1 0 l0 y0.toNat (y2+ (1:Int)) true,qp (congrArg (AV.int .i64) h11)] [rn 5,bt 108,rn 6,aI (aB y0),rn 9,sI 113 (i7+ (1:Int)),rn 2,sI 115 ((p.nodes.length:Int) - (1:Int)),pB y1,rn 2,bf 117,rn 5,.ans (.ix),aI (aB y2),rn 1,sI 122 (y2+ (1:Int)),.ans (.ix),.st (aB y2) (aB (y2+ (1:Int))),.lset 0 (jI (List.set l0 y0.toNat (y2+ (1:Int)))),.set 4 (.gl 0 1 0 (List.set l0 y0.toNat (y2+ (1:Int))).length true),.set 118 (.gl 0 1 0 (List.set l0 y0.toNat (y2+ (1:Int))).length true),rn 4,sI 124 (t107+ (1:Int)),rn 3] ⟨kk,trivial⟩
theorem aKn (p:Prog)(t105:List Int)(t106:Int)(l0:List Int)(t107 i7 t99:Int)(h0:decide (t107<t106) =false)(h1: (IntKind.i64.wrap (t99+ (1:Int))) = (t99+ (1:Int))) :
  LeadsM PP 0 (mX p t105 t106 l0 t107 i7 t99).as (mW p l0 (t99+ (1:Int))).as:=
 wW 1 [0] [qp h0,qp (congrArg (AV.int .i64) h1)] [rn 5,bf 108,rn 5,sI 125 (t99+ (1:Int)),rn 3] ⟨kk,trivial⟩
theorem aMW (p:Prog)(y0:Bool)(h0:aE PP 93 [(Prog.av p)] (bV y0))(h1: (!y0) =true) :
  Ends PP 0 (start PP 32 [(Prog.av p)]).as (.ret (nI 2)) (aA [] 0) :=
 wE 1 [] [qp h0,qp h1] [rn 10,pB y0,rn 2,bt 6,rn 6] trivial
theorem aMX (p:Prog)(y0:Bool)(h0:aE PP 93 [(Prog.av p)] (bV y0))(h1: (!y0) =false) :
  Ends PP 0 (start PP 32 [(Prog.av p)]).as (.ret (nI 0)) (aA [] 0) :=
 wE 1 [] [qp h0,qp h1] [rn 10,pB y0,rn 2,bf 6,rn 7] trivial
end Go.Hb
namespace Go.Hb
open Go.Proofs
theorem fW (n lo hi:Int) :aE PP 77 [.int .i64 n,.int .i64 lo,.int .i64 hi] (.bool (dU n lo hi)) :=by
 refine bK (by kernel_rfl) rfl rfl ?_
 by_cases h:n≥lo
 · have e:dU n lo hi=decide (n≤hi) :=by unfold dU;rw [decide_eq_true (show lo≤n from h),Bool.true_and]
   rw [e];exact aUc n lo hi (decide_eq_true h)
 · have e:dU n lo hi=false:=by unfold dU;rw [decide_eq_false (show ¬lo≤n from h),Bool.false_and]
   rw [e];exact aUd n lo hi (decide_eq_false h)
theorem aBC (n:Int) :aE PP 252 [.int .i64 n] (.bool (dU n (-1000000000) 1000000000)) :=
 bK (by kernel_rfl) rfl rfl (aRs n _ (fW n _ _))
theorem aPR (b:ByteArray)(i:Nat)(h:128≤ (b.get! i).toNat) :128≤ (Utf8.decode b i).1:=by
 unfold Utf8.decode Utf8.runeError
 simp only [Nat.add_zero]
 rw [if_neg (show ¬ (b.get! i).toNat<0x80 by omega)]
 repeat' split
 all_goals first
  |assumption
  | (simp_all;done)
  | (rename_i q;simp only [Bool.and_eq_true,decide_eq_true_eq,ge_iff_le]at q;simp only;omega)
theorem aUe {s:aX}{i:Nat}{c:UInt8}(h:s[i]?=some c) :∃r d,aGM (List.length s) (aF s) i=some (r,d) ∧ (c.toNat<128→r=c.toNat∧d=1) ∧ (128≤c.toNat→128≤r) :=by
 have hi:= (List.getElem?_eq_some_iff.1 h).1
 have hb:=byte_at h
 unfold aGM
 have e1:Nat.blt i (List.length s) =true:=by rw [dH];exact decide_eq_true hi
 have e2:Nat.mod (Nat.div (aF s) (Nat.pow 256 i)) 256=c.toNat:=hb
 rw [e1,e2]
 simp only [cond]
 by_cases k:c.toNat<128
 · have e3:Nat.blt c.toNat 128=true:=by rw [dH];exact decide_eq_true k
   rw [e3]
   exact⟨_,_,rfl,fun _=> ⟨rfl,rfl⟩,fun g=>by omega⟩
 · have e3:Nat.blt c.toNat 128=false:=by rw [dH];exact decide_eq_false k
   rw [e3]
   refine⟨_,_,rfl,fun g=>by omega,fun _=>?_⟩
   have hn:aW (List.length s) (aF s) =s:=fP s
   rw [hn]
   have hg: ((⟨⟨s⟩⟩ :ByteArray).get! (i+0)).toNat=c.toNat:=by
    simp only [Nat.add_zero,ByteArray.get!]
    have: (⟨s⟩ :Array UInt8)[i]! =c:=by
     rw [Array.getElem!_eq_getD,Array.getD_eq_getD_getElem?,show(⟨s⟩ :Array UInt8) =s.toArray from rfl,List.getElem?_toArray,h];rfl
    rw [this]
   exact aPR _ _ (by rw [Nat.add_zero]at hg;rw [hg];omega)
theorem aCh (s:aX) :∀ (t:aX) (i:Nat),s.drop i=t→Ends PP 0 (mU s i).as (.ret (.bool (kE t))) (aA [] 0)
 | [],i,h=>aMM s i (cD h)
 | c :: t,i,h=>by
  obtain⟨h1,h2,h3⟩ :=cA h
  obtain⟨r,d,q1,q2,q3⟩ :=aUe h1
  by_cases g1:c.toNat<97
  · have:= (q2 (by omega)).1
    exact Ends.eqv (aMJ s i r d h3 q1 sd) (by simp [kE,tG];omega)
  · by_cases g2:122<c.toNat
    · have hr:122<r:=by
       by_cases k:c.toNat<128
       ·have:= (q2 k).1;omega
       ·have:=q3 (by omega);omega
      exact Ends.eqv (aMK s i r d h3 q1 sd sd) (by simp [kE,tG];omega)
    · obtain⟨rfl,rfl⟩ :=q2 (by omega)
      refine(aML s i _ _ h3 q1 sd sd).ends ?_
      have e:tG c=true:=by simp [tG];omega
      exact Ends.eqv (aCh s t (i+1) h2) (by simp [kE,e])
theorem aKo (s:aX) :aE PP 175 [bO s] (.bool (kE s)) :=
 bK (by kernel_rfl) rfl rfl ((aMI s).ends (aCh s s 0 rfl))
theorem aKp (s:aX) :aE PP 179 [bO s] (.bool (jK s)) :=by
 refine bK (by kernel_rfl) rfl rfl ?_
 match s with
 | [] =>exact aMR [] rfl
 | c ::t=>
  have h0: (!(dR (List.length (c::t)) (aF (c::t)) 0 0)) =true:=by rw [dS];rfl
  by_cases g0: (c::t).length≤8
  · have g0': (decide (((List.length (c::t) :Nat) :Int) ≤ (8:Int))) =true:=sd
    by_cases g1:65≤c.toNat
    · by_cases g2:c.toNat≤90
      ·exact Ends.eqv (aMN (c::t) c _ h0 g0' rfl sd sd (by simp) (aKo t)) (by simp only [jK,decide_eq_true g0,decide_eq_true g1,decide_eq_true g2,Bool.true_and])
      ·exact Ends.eqv (aMO (c::t) c h0 g0' rfl sd sd) (by simp only [jK,decide_eq_false g2,Bool.and_false,Bool.false_and])
    ·exact Ends.eqv (aMP (c::t) c h0 g0' rfl sd) (by simp only [jK,decide_eq_false g1,Bool.and_false,Bool.false_and])
  ·exact Ends.eqv (aMQ (c::t) h0 sd) (by simp only [jK,decide_eq_false g0,Bool.false_and])
theorem aPS (c:Con) :aE PP 156 [Con.av c] (.bool (gG c)) :=by
 refine bK (by kernel_rfl) rfl rfl ?_
 have hg:=aKp c.name
 cases k:jK c.name with
 |false=>rw [k]at hg;exact Ends.eqv (aRu c false hg rfl) (by simp [gG,k])
 |true=>rw [k]at hg;exact Ends.eqv (aRt c true _ hg rfl (fW _ _ _)) (by simp [gG,k])
def oH (p:Prog)(x:Node) :Bool:=if x.op=14 then true else cI p x.op x.n
theorem aPT (p:Prog)(x:Node)(hf:p.funs.length≤1000) :Ends PP 0 (start PP 210 [Prog.av p,Node.av x]).as (.ret (.bool (oH p x))) (aA [] 0) :=by
 cases hb1: (x.op== (1:Int))with
 | true=>
  exact Ends.eqv (aJO p x  (dU (x.n) (-1000000000) 1000000000) hb1 (aBC (x.n))) (by simp_all [oH,cI] <;>rfl)
 | false=>
  cases hb2: (x.op== (2:Int))with
  | true=>
   exact Ends.eqv (aJP p x  (dU (x.n) 0 1) hb1 hb2 (fW (x.n) 0 1)) (by simp_all [oH,cI] <;>rfl)
  | false=>
   cases hb3: (x.op== (24:Int))with
   | true=>
    exact Ends.eqv (aJQ p x  (dU (x.n) 0 3) hb1 hb2 hb3 (fW (x.n) 0 3)) (by simp_all [oH,cI] <;>rfl)
   | false=>
    cases hb4: (x.op== (4:Int))with
    | true=>
     exact Ends.eqv (aJR p x  (dU (x.n) (0- ((List.length p.funs:Nat) :Int)) 29) hb1 hb2 hb3 hb4 sdI (fW (x.n) (0- ((List.length p.funs:Nat) :Int)) 29)) (by simp_all [oH,cI] <;>rfl)
    | false=>
     cases hb5: (x.op== (14:Int))with
     | true=>
      exact Ends.eqv (aJS p x   hb1 hb2 hb3 hb4 hb5) (by simp_all [oH,cI] <;>rfl)
     | false=>
      exact Ends.eqv (aJT p x   hb1 hb2 hb3 hb4 hb5) (by simp_all [oH,cI] <;>rfl)
theorem aH2 (p:Prog)(x:Node)(hf:p.funs.length≤1000) :aE PP 210 [Prog.av p,Node.av x] (.bool (oH p x)) :=
 bK (by kernel_rfl) rfl rfl (aPT p x hf)
mutual
def pL :Pat→Int→Int
 | .mk _ _ _ ps,most=>mY ps most 1
def mY :List Pat→Int→Int→Int
 | [],_,n=>n
 |p::ps,most,n=>if n>most then n else mY ps most (n+pL p (most-n))
end
mutual
theorem aD5 :∀ (p:Pat) (m:Int),0≤m→1≤pL p m∧pL p m≤m+1
 | .mk _ _ _ ps,m,h=>by rw [pL];exact aFX ps m 1 (by omega) (by omega)
theorem aFX :∀ (ps:List Pat) (m n:Int),1≤n→n≤m+1→1≤mY ps m n∧mY ps m n≤m+1
 | [],m,n,h1,h2=>by rw [mY];omega
 | p ::ps,m,n,h1,h2=>by
  rw [mY]
  split
  ·omega
  · have a:=aD5 p (m-n) (by omega)
    exact aFX ps m _ (by omega) (by omega)
end
mutual
theorem aKq :∀ (p:Pat) (m:Int),0≤m→ ((dL p:Int) ≤m→pL p m=dL p) ∧ (m<dL p→m<pL p m)
 | .mk _ _ _ ps,m,h=>by
  have:=aFY ps m 1 (by omega)
  simp only [pL,dL]
  constructor
  ·intro g;have:=this.1 (by omega);omega
  ·intro g;exact this.2 (by omega)
theorem aFY :∀ (ps:List Pat) (m n:Int),n≤m+1→ (n+bP ps≤m→mY ps m n=n+bP ps) ∧ (m<n+bP ps→m<mY ps m n)
 | [],m,n,h=>by simp only [mY,bP];omega
 | p ::ps,m,n,h=>by
  simp only [mY,bP]
  split
  ·omega
  · rename_i k
    have a:=aKq p (m-n) (by omega)
    have l:=aD5 p (m-n) (by omega)
    have b:=aFY ps m (n+pL p (m-n)) (by omega)
    constructor
    · intro g
      have:=a.1 (by omega)
      have:=b.1 (by omega)
      omega
    · intro g
      refine b.2 ?_
      by_cases q: (dL p:Int) ≤m-n
      ·have:=a.1 q;omega
      ·have:=a.2 (by omega);omega
end
theorem aFZ (p:Pat)(m:Int)(h:0≤m) :pL p m≤m↔ (dL p:Int) ≤m:=by
 have:=aKq p m h
 constructor
 · intro g;by_cases k: (dL p:Int) ≤m
   ·exact k
   ·have:=this.2 (by omega);omega
 ·intro g;have:=this.1 g;omega
theorem aD6 (f n:Int)(s:aX)(ps:List Pat)(m:Int)(hm:m≤1000)(ih:∀p∈ps,∀m:Int,0≤m→m≤1000→aE PP 208 [Pat.av p,.int .i64 m] (.int .i64 (pL p m))) :
  ∀ (t:List Pat) (i:Nat) (k:Int),ps.drop i=t→ (i:Int) +1≤k→k≤m+1→Ends PP 0 (rR f n s ps m k (i:Int)).as (.ret (.int .i64 (mY t m k))) (aA [] 0)
 | [],i,k,h,h1,h2=>by
  have:=cD h
  rw [mY]
  exact aPy f n s ps m k i sd
 | .mk f' n' s' ps'::t,i,k,h,h1,h2=>by
  obtain⟨g1,g2,g3⟩ :=cA h
  rw [mY]
  split
  ·exact aPw f n s ps m k i f' n' s' ps' sd sd sd sd
  · rename_i hk
    have l:=aD5 (.mk f' n' s' ps') (m-k) (by omega)
    refine(aPx f n s ps m k i f' n' s' ps' _ sd sd sd sd sd (ih (.mk f' n' s' ps') (List.mem_of_getElem? g1) (m-k) (by omega) (by omega)) sd sd).ends ?_
    exact aD6 f n s ps m hm ih t (i+1) _ g2 (by omega) (by omega)
mutual
theorem aD7 :∀ (p:Pat) (m:Int),0≤m→m≤1000→aE PP 208 [Pat.av p,.int .i64 m] (.int .i64 (pL p m))
 | .mk f n s ps,m,h0,h1=>by
  refine bK (by kernel_rfl) (by simp [AV.keylessL,kT,AV.keyless]) rfl ?_
  rw [pL]
  refine(aPv f n s ps m).ends ?_
  exact aD6 f n s ps m h1 (aF0 ps) ps 0 1 rfl (by omega) (by omega)
theorem aF0 :∀ (ps:List Pat),∀p∈ps,∀m:Int,0≤m→m≤1000→aE PP 208 [Pat.av p,.int .i64 m] (.int .i64 (pL p m))
 | [],p,hp,_,_,_=>by cases hp
 | q::ps,p,hp,m,h0,h1=>by
  rcases List.mem_cons.1 hp with e|hp
  ·rw [e];exact aD7 q m h0 h1
  ·exact aF0 ps p hp m h0 h1
end
end Go.Hb
namespace Go.Hb
open Go.Proofs
set_option maxHeartbeats 2000000
theorem sdW {p:Prop}(h:p:=by simp_all only [inB_iff,inB_not,beq_iff_eq,decide_eq_true_eq,decide_eq_false_iff_not] <;>omega) :p:=h
theorem idW {p:Prop}(h:p:=by exact⟨_,List.getElem?_eq_getElem (by simp_all only [inB_iff,inB_not,beq_iff_eq,decide_eq_true_eq,decide_eq_false_iff_not] <;>omega)⟩) :p:=h
theorem aF1 (l:List Pat)(p:Prog)(hl:l.length<1000000)(ih:∀q∈l,aE PP 209 [Prog.av p,Pat.av q] (.bool (dM p.cons q))) :
  ∀ (t:List Pat) (i:Nat),l.drop i=t→Ends PP 0 (xB l p (i:Int)).as (.ret (.bool (cH p.cons t))) (aA [] 0)
 | [],i,h=>by
  have:=cD h
  exact Ends.eqv (aRI l p i sd) (by simp [cH])
 | .mk f n s ps::t,i,h=>by
  obtain⟨g1,g2,g3⟩ :=cA h
  have hq:=ih (.mk f n s ps) (List.mem_of_getElem? g1)
  cases k:dM p.cons (.mk f n s ps)with
  | false=>
   rw [k]at hq
   exact Ends.eqv (aRG l p i f n s ps false sd sd sd hq rfl) (by simp [cH,k])
  | true=>
   rw [k]at hq
   refine(aRH l p i f n s ps true sd sd sd hq rfl sd).ends ?_
   exact Ends.eqv (aF1 l p hl ih t (i+1) g2) (by simp [cH,k])
theorem aPU (l:List Pat)(p:Prog)(hl:l.length<1000000)(ih:∀q∈l,aE PP 209 [Prog.av p,Pat.av q] (.bool (dM p.cons q))) :
  aE PP 211 [.ilst 4 (Pats.av l) false,.func 209 [Prog.av p] []] (.bool (cH p.cons l)) :=
 bK (by kernel_rfl) (by simp [AV.keylessL,AV.keyless,Prog.av]) rfl ((aRF l p).ends (aF1 l p hl ih l 0 rfl))
theorem aWG (p:Prog)(q_form q_n:Int)(q_text:aX)(q_parts:List Pat)(hc:p.cons.length≤1000)(hev:aE PP 211 [.ilst 4 (Pats.av q_parts) false,.func 209 [Prog.av p] []] (.bool (cH p.cons q_parts))) :
  Ends PP 0 (start PP 209 [Prog.av p,Pat.av (.mk q_form q_n q_text q_parts)]).as (.ret (.bool (dM p.cons (.mk q_form q_n q_text q_parts)))) (aA [] 0) :=by
 have hw:IntKind.i64.wrap ((p.cons.length:Int) -1) = (p.cons.length:Int) -1:=by apply wrap64<;>omega
 cases hb1: (!(dR (List.length q_text) (aF q_text) 0 0))with
 | true=>
  exact Ends.eqv (aRv p q_form q_n q_text q_parts   hb1) (by clear hev;simp_all [dM,dT,fB,dS,gI] <;>rfl)
 | false =>
  cases hb2: (!(cH p.cons q_parts))with
  | true=>
   exact Ends.eqv (aRw p q_form q_n q_text q_parts  (cH p.cons q_parts) hb1 hev hb2) (by clear hev;simp_all [dM,dT,fB,dS,gI] <;>rfl)
  | false =>
   cases hb3: (q_form== (1:Int))with
   | true=>
    cases hb4: (q_n== (0:Int))with
    | true=>
     exact Ends.eqv (aRx p q_form q_n q_text q_parts  (cH p.cons q_parts) hb1 hev hb2 hb3 hb4) (by clear hev;simp_all [dM,dT,fB,dS,gI] <;>rfl)
    | false=>
     exact Ends.eqv (aRy p q_form q_n q_text q_parts  (cH p.cons q_parts) hb1 hev hb2 hb3 hb4) (by clear hev;simp_all [dM,dT,fB,dS,gI] <;>rfl)
   | false =>
    cases hb5: (q_form== (2:Int))with
    | true=>
     cases hb6: (q_n== (0:Int))with
     | true=>
      exact Ends.eqv (aRz p q_form q_n q_text q_parts  (cH p.cons q_parts) hb1 hev hb2 hb3 hb5 hb6) (by clear hev;simp_all [dM,dT,fB,dS,gI] <;>rfl)
     | false=>
      exact Ends.eqv (aRA p q_form q_n q_text q_parts  (cH p.cons q_parts) hb1 hev hb2 hb3 hb5 hb6) (by clear hev;simp_all [dM,dT,fB,dS,gI] <;>rfl)
    | false=>
     cases hb7: (q_form== (5:Int))with
     | true=>
      cases hb8: (q_n== (0:Int))with
      | true=>
       exact Ends.eqv (aRB p q_form q_n q_text q_parts  (cH p.cons q_parts) hb1 hev hb2 hb3 hb5 hb7 hb8) (by clear hev;simp_all [dM,dT,fB,dS,gI] <;>rfl)
      | false=>
       exact Ends.eqv (aRC p q_form q_n q_text q_parts  (cH p.cons q_parts) hb1 hev hb2 hb3 hb5 hb7 hb8) (by clear hev;simp_all [dM,dT,fB,dS,gI] <;>rfl)
     | false=>
      cases hb9: (q_form== (3:Int))with
      | true=>
       cases hb10: (dU q_n (-1000000000) 1000000000)with
       | true=>
        exact Ends.eqv (aRD p q_form q_n q_text q_parts  (cH p.cons q_parts) (dU q_n (-1000000000) 1000000000) hb1 hev hb2 hb3 hb5 hb7 hb9 (aBC q_n) hb10) (by clear hev;simp_all [dM,dT,fB,dS,gI] <;>rfl)
       | false=>
        exact Ends.eqv (aRE p q_form q_n q_text q_parts  (cH p.cons q_parts) (dU q_n (-1000000000) 1000000000) hb1 hev hb2 hb3 hb5 hb7 hb9 (aBC q_n) hb10) (by clear hev;simp_all [dM,dT,fB,dS,gI] <;>rfl)
      | false=>
       cases hb11: (q_form== (4:Int))with
       | true=>
        cases hb12: (dU q_n 0 1)with
        | true=>
         exact Ends.eqv (aPz p q_form q_n q_text q_parts  (cH p.cons q_parts) (dU q_n 0 1) hb1 hev hb2 hb3 hb5 hb7 hb9 hb11 (fW q_n 0 1) hb12) (by clear hev;simp_all [dM,dT,fB,dS,gI] <;>rfl)
        | false=>
         exact Ends.eqv (aPA p q_form q_n q_text q_parts  (cH p.cons q_parts) (dU q_n 0 1) hb1 hev hb2 hb3 hb5 hb7 hb9 hb11 (fW q_n 0 1) hb12) (by clear hev;simp_all [dM,dT,fB,dS,gI] <;>rfl)
       | false=>
        cases hb13: (q_form== (6:Int))with
        | true=>
         cases hb14: (dU q_n 0 (IntKind.i64.wrap (((List.length p.cons:Nat) :Int) - (1:Int))))with
         | true=>
          obtain⟨y2,hx15⟩ :∃y,((p.cons)[q_n.toNat]?) =some y:=idW
          exact Ends.eqv (aPB p q_form q_n q_text q_parts  (cH p.cons q_parts) (dU q_n 0 (IntKind.i64.wrap (((List.length p.cons:Nat) :Int) - (1:Int)))) y2 hb1 hev hb2 hb3 hb5 hb7 hb9 hb11 hb13 (fW q_n 0 (IntKind.i64.wrap (((List.length p.cons:Nat) :Int) - (1:Int)))) hb14 sdW hx15) (by clear hev;simp_all [dM,dT,fB,dS,gI] <;>rfl)
         | false=>
          exact Ends.eqv (aPC p q_form q_n q_text q_parts  (cH p.cons q_parts) (dU q_n 0 (IntKind.i64.wrap (((List.length p.cons:Nat) :Int) - (1:Int)))) hb1 hev hb2 hb3 hb5 hb7 hb9 hb11 hb13 (fW q_n 0 (IntKind.i64.wrap (((List.length p.cons:Nat) :Int) - (1:Int)))) hb14) (by clear hev;simp_all [dM,dT,fB,dS,gI] <;>rfl)
        | false=>
         exact Ends.eqv (aPD p q_form q_n q_text q_parts  (cH p.cons q_parts) hb1 hev hb2 hb3 hb5 hb7 hb9 hb11 hb13) (by clear hev;simp_all [dM,dT,fB,dS,gI] <;>rfl)
mutual
theorem aF2 (p:Prog)(hc:p.cons.length≤1000) :∀ (q:Pat),dL q<1000000→aE PP 209 [Prog.av p,Pat.av q] (.bool (dM p.cons q))
 | .mk f n s ps,h=>by
  refine bK (by kernel_rfl) (by simp [AV.keylessL,kT,AV.keyless,Prog.av]) rfl ?_
  simp only [dL]at h
  have:=fA ps
  exact aWG p f n s ps hc (aPU ps p (by omega) (aKr p hc ps (by omega)))
theorem aKr (p:Prog)(hc:p.cons.length≤1000) :∀ (ps:List Pat),bP ps<1000000→∀q∈ps,aE PP 209 [Prog.av p,Pat.av q] (.bool (dM p.cons q))
 | [],_,q,hq=>by cases hq
 | r::ps,h,q,hq=>by
  simp only [bP]at h
  rcases List.mem_cons.1 hq with e|hq
  ·rw [e];exact aF2 p hc r (by omega)
  ·exact aKr p hc ps (by omega) q hq
end
def dC (op:Int) :Option Int:=
 if op=1∨op=2∨op=3∨op=4∨op=21∨op=25∨op=28 then some 0
 else if op=5∨op=27∨op=16∨op=17∨op=19∨op=20∨op=23∨op=26∨op=24 then some 1
 else if op=6∨op=7∨op=9∨op=10∨op=11∨op=12∨op=13∨op=18∨op=22 then some 2
 else if op=8 then some 3 else none
def bM (op:Int) :AV:=
 match dC op with
 |some k=>.iface 306 (.int .i64 k)
 |none=>if op=15 then .iface 258 (.agg [])else if op=14 then .iface 307 (.agg [])else .nili
theorem aKs {op k:Int}(h:dC op=some k)(pats args:Int) :dV op pats args=k∧op≠15∧op≠14:=by
 unfold dC at h
 unfold dV
 split at h
 ·rename_i g;rw [if_pos g];simp only [Option.some.injEq]at h;refine⟨h,?_,?_⟩ <;>omega
 · rename_i g0;rw [if_neg g0]
   split at h
   ·rename_i g;rw [if_pos g];simp only [Option.some.injEq]at h;refine⟨h,?_,?_⟩ <;>omega
   · rename_i g1;rw [if_neg g1]
     split at h
     ·rename_i g;rw [if_pos g];simp only [Option.some.injEq]at h;refine⟨h,?_,?_⟩ <;>omega
     · rename_i g2;rw [if_neg g2]
       split at h
       ·rename_i g;rw [if_pos g];simp only [Option.some.injEq]at h;refine⟨h,?_,?_⟩ <;>omega
       ·cases h
theorem aMY {op:Int}(h:dC op=none)(pats args:Int) :dV op pats args=if op=15 then 1+pats else if op=14 then args else -1:=by
 unfold dC at h
 unfold dV
 split at h
 ·cases h
 · rename_i g0;rw [if_neg g0]
   split at h
   ·cases h
   · rename_i g1;rw [if_neg g1]
     split at h
     ·cases h
     · rename_i g2;rw [if_neg g2]
       split at h
       ·cases h
       ·rename_i g;rw [if_neg g]
theorem bKidsOf_E (op : Int) :Ends PP 0 (start PP 206 [.int .i64 op]).as (.ret (bM op)) (aA [] 0) :=by
 cases hb1: (op== (1:Int))with
 | true=>
  exact Ends.eqv (aJU op   hb1) (by simp_all [bM,dC])
 | false =>
  cases hb2: (op== (2:Int))with
  | true=>
   exact Ends.eqv (aJV op   hb1 hb2) (by simp_all [bM,dC])
  | false =>
   cases hb3: (op== (3:Int))with
   | true=>
    exact Ends.eqv (aJW op   hb1 hb2 hb3) (by simp_all [bM,dC])
   | false =>
    cases hb4: (op== (4:Int))with
    | true=>
     exact Ends.eqv (aJX op   hb1 hb2 hb3 hb4) (by simp_all [bM,dC])
    | false =>
     cases hb5: (op== (21:Int))with
     | true=>
      exact Ends.eqv (aJY op   hb1 hb2 hb3 hb4 hb5) (by simp_all [bM,dC])
     | false =>
      cases hb6: (op== (25:Int))with
      | true=>
       exact Ends.eqv (aJZ op   hb1 hb2 hb3 hb4 hb5 hb6) (by simp_all [bM,dC])
      | false =>
       cases hb7: (op== (28:Int))with
       | true=>
        exact Ends.eqv (aJ0 op   hb1 hb2 hb3 hb4 hb5 hb6 hb7) (by simp_all [bM,dC])
       | false =>
        cases hb8: (op== (5:Int))with
        | true=>
         exact Ends.eqv (aJ1 op   hb1 hb2 hb3 hb4 hb5 hb6 hb7 hb8) (by simp_all [bM,dC])
        | false =>
         cases hb9: (op== (27:Int))with
         | true=>
          exact Ends.eqv (aJ2 op   hb1 hb2 hb3 hb4 hb5 hb6 hb7 hb8 hb9) (by simp_all [bM,dC])
         | false =>
          cases hb10: (op== (16:Int))with
          | true=>
           exact Ends.eqv (aJ3 op   hb1 hb2 hb3 hb4 hb5 hb6 hb7 hb8 hb9 hb10) (by simp_all [bM,dC])
          | false =>
           cases hb11: (op== (17:Int))with
           | true=>
            exact Ends.eqv (aHJ op   hb1 hb2 hb3 hb4 hb5 hb6 hb7 hb8 hb9 hb10 hb11) (by simp_all [bM,dC])
           | false =>
            cases hb12: (op== (19:Int))with
            | true=>
             exact Ends.eqv (aHK op   hb1 hb2 hb3 hb4 hb5 hb6 hb7 hb8 hb9 hb10 hb11 hb12) (by simp_all [bM,dC])
            | false =>
             cases hb13: (op== (20:Int))with
             | true=>
              exact Ends.eqv (aHL op   hb1 hb2 hb3 hb4 hb5 hb6 hb7 hb8 hb9 hb10 hb11 hb12 hb13) (by simp_all [bM,dC])
             | false =>
              cases hb14: (op== (23:Int))with
              | true=>
               exact Ends.eqv (aHM op   hb1 hb2 hb3 hb4 hb5 hb6 hb7 hb8 hb9 hb10 hb11 hb12 hb13 hb14) (by simp_all [bM,dC])
              | false =>
               cases hb15: (op== (24:Int))with
               | true=>
                exact Ends.eqv (aHN op   hb1 hb2 hb3 hb4 hb5 hb6 hb7 hb8 hb9 hb10 hb11 hb12 hb13 hb14 hb15) (by simp_all [bM,dC])
               | false =>
                cases hb16: (op== (26:Int))with
                | true=>
                 exact Ends.eqv (aHO op   hb1 hb2 hb3 hb4 hb5 hb6 hb7 hb8 hb9 hb10 hb11 hb12 hb13 hb14 hb15 hb16) (by simp_all [bM,dC])
                | false =>
                 cases hb17: (op== (6:Int))with
                 | true=>
                  exact Ends.eqv (aHP op   hb1 hb2 hb3 hb4 hb5 hb6 hb7 hb8 hb9 hb10 hb11 hb12 hb13 hb14 hb15 hb16 hb17) (by simp_all [bM,dC])
                 | false =>
                  cases hb18: (op== (7:Int))with
                  | true=>
                   exact Ends.eqv (aHQ op   hb1 hb2 hb3 hb4 hb5 hb6 hb7 hb8 hb9 hb10 hb11 hb12 hb13 hb14 hb15 hb16 hb17 hb18) (by simp_all [bM,dC])
                  | false =>
                   cases hb19: (op== (9:Int))with
                   | true=>
                    exact Ends.eqv (aHR op   hb1 hb2 hb3 hb4 hb5 hb6 hb7 hb8 hb9 hb10 hb11 hb12 hb13 hb14 hb15 hb16 hb17 hb18 hb19) (by simp_all [bM,dC])
                   | false =>
                    cases hb20: (op== (10:Int))with
                    | true=>
                     exact Ends.eqv (aHS op   hb1 hb2 hb3 hb4 hb5 hb6 hb7 hb8 hb9 hb10 hb11 hb12 hb13 hb14 hb15 hb16 hb17 hb18 hb19 hb20) (by simp_all [bM,dC])
                    | false =>
                     cases hb21: (op== (11:Int))with
                     | true=>
                      exact Ends.eqv (aHT op   hb1 hb2 hb3 hb4 hb5 hb6 hb7 hb8 hb9 hb10 hb11 hb12 hb13 hb14 hb15 hb16 hb17 hb18 hb19 hb20 hb21) (by simp_all [bM,dC])
                     | false =>
                      cases hb22: (op== (12:Int))with
                      | true=>
                       exact Ends.eqv (aHU op   hb1 hb2 hb3 hb4 hb5 hb6 hb7 hb8 hb9 hb10 hb11 hb12 hb13 hb14 hb15 hb16 hb17 hb18 hb19 hb20 hb21 hb22) (by simp_all [bM,dC])
                      | false =>
                       cases hb23: (op== (13:Int))with
                       | true=>
                        exact Ends.eqv (aHV op   hb1 hb2 hb3 hb4 hb5 hb6 hb7 hb8 hb9 hb10 hb11 hb12 hb13 hb14 hb15 hb16 hb17 hb18 hb19 hb20 hb21 hb22 hb23) (by simp_all [bM,dC])
                       | false=>
                        cases hb24: (op== (18:Int))with
                        | true=>
                         exact Ends.eqv (aHW op   hb1 hb2 hb3 hb4 hb5 hb6 hb7 hb8 hb9 hb10 hb11 hb12 hb13 hb14 hb15 hb16 hb17 hb18 hb19 hb20 hb21 hb22 hb23 hb24) (by simp_all [bM,dC])
                        | false=>
                         cases hb25: (op== (22:Int))with
                         | true=>
                          exact Ends.eqv (aHX op   hb1 hb2 hb3 hb4 hb5 hb6 hb7 hb8 hb9 hb10 hb11 hb12 hb13 hb14 hb15 hb16 hb17 hb18 hb19 hb20 hb21 hb22 hb23 hb24 hb25) (by simp_all [bM,dC])
                         | false=>
                          cases hb26: (op== (8:Int))with
                          | true=>
                           exact Ends.eqv (aHY op   hb1 hb2 hb3 hb4 hb5 hb6 hb7 hb8 hb9 hb10 hb11 hb12 hb13 hb14 hb15 hb16 hb17 hb18 hb19 hb20 hb21 hb22 hb23 hb24 hb25 hb26) (by simp_all [bM,dC])
                          | false=>
                           cases hb27: (op== (14:Int))with
                           | true=>
                            exact Ends.eqv (aHZ op   hb1 hb2 hb3 hb4 hb5 hb6 hb7 hb8 hb9 hb10 hb11 hb12 hb13 hb14 hb15 hb16 hb17 hb18 hb19 hb20 hb21 hb22 hb23 hb24 hb25 hb26 hb27) (by simp_all [bM,dC])
                           | false=>
                            cases hb28: (op== (15:Int))with
                            | true=>
                             exact Ends.eqv (aH0 op   hb1 hb2 hb3 hb4 hb5 hb6 hb7 hb8 hb9 hb10 hb11 hb12 hb13 hb14 hb15 hb16 hb17 hb18 hb19 hb20 hb21 hb22 hb23 hb24 hb25 hb26 hb27 hb28) (by simp_all [bM,dC])
                            | false=>
                             exact Ends.eqv (aH1 op   hb1 hb2 hb3 hb4 hb5 hb6 hb7 hb8 hb9 hb10 hb11 hb12 hb13 hb14 hb15 hb16 hb17 hb18 hb19 hb20 hb21 hb22 hb23 hb24 hb25 hb26 hb27 hb28) (by simp_all [bM,dC])
theorem aMZ (op:Int) :AV.keyless (bM op) =true:=by
 unfold bM;split
 ·rfl
 · split
   ·rfl
   ·split<;>rfl
theorem aH3 (op:Int) :aE PP 206 [.int .i64 op] (bM op) :=
 bK (by kernel_rfl) rfl (aMZ op) (bKidsOf_E op)
theorem aD8 (p:Prog)(x:Node)(hc:p.cons.length≤1000)(hx:x.pats.length≤10) :
  ∀ (t:List Pat) (i:Nat),x.pats.drop i=t→Ends PP 0 (mD p x (i:Int)).as (.ret (.bool (t.all (iK p.cons)))) (aA [] 0)
 | [],i,h=>by
  have:=cD h
  exact Ends.eqv (aPQ p x i sd) (by simp)
 | .mk f n s ps::t,i,h=>by
  obtain⟨g1,g2,g3⟩ :=cA h
  have hs:=aD7 (.mk f n s ps) 12 (by omega) (by omega)
  by_cases k:dL (.mk f n s ps) ≤12
  · have hg:pL (.mk f n s ps) 12≤12:= (aFZ (.mk f n s ps) 12 (by omega)).2 (by omega)
    have hq:=aF2 p hc (.mk f n s ps) (by omega)
    cases kq:dM p.cons (.mk f n s ps)with
    | false=>
     rw [kq]at hq
     exact Ends.eqv (aPN p x i f n s ps _ false sd sd sd hs (decide_eq_true hg) hq rfl) (by simp [iK,kq])
    | true=>
     rw [kq]at hq
     refine(aPO p x i f n s ps _ true sd sd sd hs (decide_eq_true hg) hq rfl sd).ends ?_
     exact Ends.eqv (aD8 p x hc hx t (i+1) g2) (by simp [iK,k,kq])
  · have hg:¬pL (.mk f n s ps) 12≤12:=fun g=>k (by have:= (aFZ (.mk f n s ps) 12 (by omega)).1 g;omega)
    exact Ends.eqv (aPP p x i f n s ps _ sd sd sd hs (decide_eq_false hg)) (by simp [iK,k])
theorem aM0 (p:Prog)(x:Node)(hc:p.cons.length≤1000)(hf:p.funs.length≤1000)(hx:x.pats.length≤10)(hk:x.kids.length≤10) :aE PP 161 [Prog.av p,Node.av x] (.bool (bH p x)) :=by
 refine bK (by kernel_rfl) rfl rfl ?_
 have hw:IntKind.i64.wrap ((p.cons.length:Int) -1) = (p.cons.length:Int) -1:=by apply wrap64<;>omega
 have hko:=aH3 x.op
 have hn:=aH2 p x hf
 have hl:=aD8 p x hc hx x.pats 0 rfl
 cases kf:dC x.op with
 | some k=>
  obtain⟨e1,e2,e3⟩ :=aKs kf (x.pats.length:Int) (gX p x)
  have ev:bM x.op= .iface 306 (.int .i64 k) :=by unfold bM;rw [kf]
  rw [ev]at hko
  have en:bH p x= (oH p x&&decide (x.pats.length=0) &&x.pats.all (iK p.cons) &&decide ((x.kids.length:Int) =k)) :=by
   simp only [bH,fV,oH,e1,if_neg e2,if_neg e3]
  rw [en]
  by_cases g0:x.pats.length=0
  · by_cases g1: (x.kids.length:Int) =k
    · have b1: (((List.length x.kids:Nat) :Int) ==k) =true:=by simp [g1]
      cases g2:oH p x with
      | false=>
       rw [g2]at hn
       exact Ends.eqv (aMT p x k false hko sd b1 hn rfl) (by simp)
      | true=>
       rw [g2]at hn
       refine(aMS p x k true hko sd b1 hn rfl).ends ?_
       exact Ends.eqv hl (by simp [g0,g1])
    · have b1: (((List.length x.kids:Nat) :Int) ==k) =false:=by simp [g1]
      exact Ends.eqv (aMU p x k hko sd b1) (by simp [g1])
  ·exact Ends.eqv (aPM p x k hko sd) (by simp [g0])
 | none =>
  have e1:=aMY kf (x.pats.length:Int) (gX p x)
  by_cases h15:x.op=15
  · have ev:bM x.op= .iface 258 (.agg []) :=by unfold bM;rw [kf];simp only [h15,if_true]
    rw [ev]at hko
    have en:bH p x= (oH p x&&dU (x.pats.length:Int) 1 5&&x.pats.all (iK p.cons) &&decide ((x.kids.length:Int) =1+ (x.pats.length:Int))) :=by
     simp only [bH,fV,oH,e1,if_pos h15,if_neg (show ¬x.op=14 by omega)]
    rw [en]
    have hi:=fW (x.pats.length:Int) 1 5
    cases g0:dU (x.pats.length:Int) 1 5 with
    | false=>
     rw [g0]at hi
     exact Ends.eqv (aPH p x false hko hi rfl) (by simp)
    | true=>
     rw [g0]at hi
     by_cases g1: (x.kids.length:Int) =1+ (x.pats.length:Int)
     · have b1: (((List.length x.kids:Nat) :Int) == ((1:Int) + ((List.length x.pats:Nat) :Int))) =true:=by simp [g1]
       cases g2:oH p x with
       | false=>
        rw [g2]at hn
        exact Ends.eqv (aPF p x true false hko hi rfl sd b1 hn rfl) (by simp)
       | true=>
        rw [g2]at hn
        refine(aPE p x true true hko hi rfl sd b1 hn rfl).ends ?_
        exact Ends.eqv hl (by simp [g1])
     · have b1: (((List.length x.kids:Nat) :Int) == ((1:Int) + ((List.length x.pats:Nat) :Int))) =false:=by simp [g1]
       exact Ends.eqv (aPG p x true hko hi rfl sd b1) (by simp [g1])
  · by_cases h14:x.op=14
    · have ev:bM x.op= .iface 307 (.agg []) :=by unfold bM;rw [kf];simp [h14]
      rw [ev]at hko
      have en:bH p x= (dU x.n 0 ((p.cons.length:Int) -1) &&decide (x.pats.length=0) &&x.pats.all (iK p.cons) &&decide ((x.kids.length:Int) =gX p x)) :=by
       simp only [bH,fV,cI,e1,if_neg h15,if_pos h14,if_neg (show ¬x.op=1 by omega),if_neg (show ¬x.op=2 by omega),if_neg (show ¬x.op=4 by omega),if_neg (show ¬x.op=24 by omega)]
      rw [en]
      by_cases g0:x.pats.length=0
      · have hi:=fW x.n 0 ((p.cons.length:Int) -1)
        rw [←hw]at hi
        cases g1:dU x.n 0 ((p.cons.length:Int) -1)with
        | false=>
         rw [hw,g1,←hw]at hi
         exact Ends.eqv (aPL p x false hko sd hi rfl) (by simp)
        | true=>
         rw [hw,g1,←hw]at hi
         have hb:=inB_iff.1 g1
         obtain⟨c,hcx⟩ :∃c,p.cons[x.n.toNat]?=some c:= ⟨_,List.getElem?_eq_getElem (by omega)⟩
         have ea:gX p x=c.args:=by simp [gX,h14,g1,fB,hcx]
         rw [ea]
         by_cases g2: (x.kids.length:Int) =c.args
         · have b1: (((List.length x.kids:Nat) :Int) ==c.args) =true:=by simp [g2]
           have hnn:oH p x=true:=by simp [oH,h14]
           rw [hnn]at hn
           refine(aPJ p x true c true hko sd hi rfl (by omega) hcx b1 hn rfl).ends ?_
           exact Ends.eqv hl (by simp [g0,g2])
         · have b1: (((List.length x.kids:Nat) :Int) ==c.args) =false:=by simp [g2]
           exact Ends.eqv (aPK p x true c hko sd hi rfl (by omega) hcx b1) (by simp [g2])
      ·exact Ends.eqv (aPI p x hko sd) (by simp [g0])
    · have ev:bM x.op= .nili:=by unfold bM;rw [kf];simp [h15,h14]
      rw [ev]at hko
      have en:bH p x=false:=by
       have:dV x.op x.pats.length (gX p x) = -1:=by rw [e1,if_neg h15,if_neg h14]
       have h2:¬ (x.kids.length:Int) = -1:=by omega
       simp [bH,this,h2]
      rw [en]
      exact aMV p x hko
end Go.Hb
namespace Go.Hb
open Go.Proofs
set_option maxHeartbeats 1000000
def vU :List aX→List (aX×Bool) →List (aX×Bool)
 | [],m=>m
 |x::t,m=>vU t (cM x true m)
theorem aAR (l:List aX)(hl:l.length<1000000) :∀ (t:List aX) (i:Nat) (m:List (aX×Bool)),l.drop i=t→Ends PP 0 (pK l (i:Int) m).as (.ret (.bool (decide ((vU t m).length=l.length)))) (aA [] 0)
 | [],i,m,h=>by
  have:=cD h
  refine Ends.eqv (aJ6 l i m sd) ?_
  have: (((List.length m:Nat) :Int) == ((List.length l:Nat) :Int)) =decide (m.length=l.length) :=by
   by_cases k:m.length=l.length<;>simp [k] <;>omega
  rw [this];rfl
 | x::t,i,m,h=>by
  obtain⟨g1,g2,g3⟩ :=cA h
  refine(aJ5 l i m x sd sd sd sd).ends ?_
  exact aAR l hl t (i+1) _ g2
theorem aD9 {k:aX}{v w:Bool}:∀ {m:List (aX×Bool)},bF k m=some w→ (cM k v m).map Prod.fst=m.map Prod.fst
 | [],h=>by cases h
 | e::m,h=>by
  unfold bF at h
  unfold cM
  split at h
  ·rename_i hk;rw [if_pos hk];simp [hk]
  ·rename_i hk;rw [if_neg hk];simp [aD9 h]
theorem aEa {k:aX}{v:Bool}:∀ {m:List (aX×Bool)},bF k m=none→ (cM k v m).map Prod.fst=m.map Prod.fst++ [k]
 | [],_=>rfl
 | e::m,h=>by
  unfold bF at h
  unfold cM
  split at h
  ·cases h
  ·rename_i hk;rw [if_neg hk];simp [aEa h]
theorem aEb {k:aX}:∀ {m:List (aX×Bool)},(bF k m).isSome=tH (m.map Prod.fst) k
 | [] =>rfl
 | e ::m=>by
  unfold bF
  split
  ·rename_i hk;simp [tH,hk]
  · rename_i hk
    have:¬e.1=k:=fun h=>hk h.symm
    rw [aEb];simp [tH,this]
theorem aF3 :∀ (t:List aX) (m:List (aX×Bool)),(vU t m).length≤m.length+t.length
 | [],m=>by simp [vU]
 | x::t,m=>by
  have a:=aF3 t (cM x true m)
  have b: (cM x true m).length≤m.length+1:=by
   cases h:bF x m with
   |none=>have:=congrArg List.length (aEa (v:=true) h);simp at this;omega
   |some w=>have:=congrArg List.length (aD9 (v:=true) h);simp at this;omega
  simp only [vU,List.length_cons];omega
theorem aEc :∀ (t:List aX) (m:List (aX×Bool)),(vU t m).length=m.length+t.length↔dP (m.map Prod.fst) t=true
 | [],m=>by simp [vU,dP]
 | x::t,m=>by
  simp only [vU,dP]
  cases h:bF x m with
  | some w=>
   have e:=aD9 (v:=true) h
   have hs:tH (m.map Prod.fst) x=true:=by rw [←aEb,h];rfl
   have a:=aF3 t (cM x true m)
   have b:=congrArg List.length e
   simp only [List.length_map]at b
   rw [hs]
   constructor
   ·intro g;simp only [List.length_cons]at g;omega
   ·intro g;simp at g
  | none=>
   have e:=aEa (v:=true) h
   have hs:tH (m.map Prod.fst) x=false:=by rw [←aEb,h];rfl
   have ih:=aEc t (cM x true m)
   have b:=congrArg List.length e
   simp only [List.length_map,List.length_append,List.length_singleton]at b
   rw [hs,←e]
   simp only [Bool.not_false,Bool.true_and,List.length_cons]
   rw [←ih,b]
   omega
theorem aH4 (l:List aX)(hl:l.length<1000000) :aE PP 157 [.ilst 1 (List.map bO l) false] (.bool (oM l)) :=by
 refine bK (by kernel_rfl) rfl rfl ((aJ4 l).ends (Ends.eqv (aAR l hl l 0 [] rfl) ?_))
 have:=aEc l []
 simp only [List.length_nil,Nat.zero_add,List.map_nil]at this
 congr 1
 cases k:oM l with
 |true=>exact decide_eq_true (this.2 k)
 |false=>exact decide_eq_false fun g=>by have:=this.1 g;unfold oM at k;rw [k]at this;cases this
theorem aF4 (l:List Con)(hl:l.length<1000000) :∀ (t:List Con) (i:Nat),l.drop i=t→Ends PP 0 (xE l (i:Int)).as (.ret (.bool (t.all gG))) (aA [] 0)
 | [],i,h=>by
  have:=cD h
  exact Ends.eqv (aRQ l i sd) (by simp)
 | c::t,i,h=>by
  obtain⟨g1,g2,g3⟩ :=cA h
  have hq:=aPS c
  cases k:gG c with
  |false=>rw [k]at hq;exact Ends.eqv (aRO l i c false sd sd sd hq rfl) (by simp [k])
  | true=>
   rw [k]at hq
   refine(aRP l i c true sd sd sd hq rfl sd).ends ?_
   exact Ends.eqv (aF4 l hl t (i+1) g2) (by simp [k])
theorem aPV (l:List Con)(hl:l.length<1000000) :aE PP 155 [.ilst 2 (List.map Con.av l) false,.func 156 [] []] (.bool (l.all gG)) :=
 bK (by kernel_rfl) rfl rfl ((aRN l).ends (aF4 l hl l 0 rfl))
theorem aF5 (l:List Node)(p:Prog)(hl:l.length<1000000)(ih:∀x∈l,aE PP 161 [Prog.av p,Node.av x] (.bool (bH p x))) :∀ (t:List Node) (i:Nat),l.drop i=t→Ends PP 0 (xC l p (i:Int)).as (.ret (.bool (t.all (bH p)))) (aA [] 0)
 | [],i,h=>by
  have:=cD h
  exact Ends.eqv (aRM l p i sd) (by simp)
 | c::t,i,h=>by
  obtain⟨g1,g2,g3⟩ :=cA h
  have hq:=ih c (List.mem_of_getElem? g1)
  cases k:bH p c with
  |false=>rw [k]at hq;exact Ends.eqv (aRK l p i c false sd sd sd hq rfl) (by simp [k])
  | true=>
   rw [k]at hq
   refine(aRL l p i c true sd sd sd hq rfl sd).ends ?_
   exact Ends.eqv (aF5 l p hl ih t (i+1) g2) (by simp [k])
theorem aPW (l:List Node)(p:Prog)(hl:l.length<1000000)(ih:∀x∈l,aE PP 161 [Prog.av p,Node.av x] (.bool (bH p x))) :aE PP 160 [.ilst 4 (List.map Node.av l) false,.func 161 [Prog.av p] []] (.bool (l.all (bH p))) :=
 bK (by kernel_rfl) rfl rfl ((aRJ l p).ends (aF5 l p hl ih l 0 rfl))
def one (k:Int) :Bool:=decide (k=1)
theorem aF6 (l:List Int)(hl:l.length<1000000) :∀ (t:List Int) (i:Nat),l.drop i=t→Ends PP 0 (xF l (i:Int)).as (.ret (.bool (t.all one))) (aA [] 0)
 | [],i,h=>by
  have:=cD h
  exact Ends.eqv (aRU l i sd) (by simp)
 | c ::t,i,h=>by
  obtain⟨g1,g2,g3⟩ :=cA h
  by_cases k:c=1
  · refine(aRT l i c sd sd sd (by simp [k]) sd).ends ?_
    exact Ends.eqv (aF6 l hl t (i+1) g2) (by simp [k,one])
  ·exact Ends.eqv (aRS l i c sd sd sd (by simp [k])) (by simp [k,one])
theorem aPX (l:List Int)(hl:l.length<1000000) :aE PP 162 [.ilst 1 (List.map aB l) true,.func 163 [] []] (.bool (l.all one)) :=
 bK (by kernel_rfl) rfl rfl ((aRR l).ends (aF6 l hl l 0 rfl))
theorem aF7 (l:List Con)(hl:l.length<100000) :∀ (t:List Con) (i:Nat),l.drop i=t→Ends PP 0 (aAQ l (i:Int) (bI (l.take i))).as (.ret (.ilst 1 (List.map bO (bI l)) false)) (aA [] 0)
 | [],i,h=>by
  have hi:=cD h
  have e:bI (l.take i) =bI l:=by rw [List.take_of_length_le hi]
  rw [e]
  exact aRX l i _ sd
 | c::t,i,h=>by
  obtain⟨g1,g2,g3⟩ :=cA h
  have e:bI (l.take i) ++ [c.name] =bI (l.take (i+1)) :=by
   rw [List.take_add_one,g1];simp [bI]
  refine(aRW l i (bI (l.take i)) c sd sd sd (by simp [bI];omega) sd).ends ?_
  rw [e]
  exact aF7 l hl t (i+1) g2
theorem aPY (l:List Con)(hl:l.length<100000) :aE PP 158 [.ilst 2 (List.map Con.av l) false,.func 159 [] []] (.ilst 1 (List.map bO (bI l)) false) :=
 bK (by kernel_rfl) rfl rfl ((aRV l).ends (aF7 l hl l 0 rfl))
def nZ (lo n:Int) :List Int→List Int→Option (List Int)
 | [],c=>some c
 |k::ks,c=>if dU k lo (n-1) =true then nZ lo n ks (c.set k.toNat (c.getD k.toNat 0+1))else none
def mZ (p:Prog) :Nat→List Node→List Int→Option (List Int)
 |_,[],c=>some c
 | i,x::t,c=>match nZ ((i:Int) +1) (p.nodes.length:Int) x.kids c with
   |some d=>mZ p (i+1) t d
   |none=>none
def qE :Option (List Int) →Bool
 |some c=>c.all one
 |none=>false
def below (b:Int)(c:List Int) :Prop:=∀k∈c,0≤k∧k≤b
theorem aBD {b:Int}{c:List Int}(h:below b c){i:Nat}{z:Int}(hz:c[i]?=some z) :0≤z∧z≤b:=h z (List.mem_of_getElem? hz)
theorem aF8 {b:Int}{c:List Int}(h:below b c){i:Nat}{z:Int}(hz:c[i]?=some z) :below (b+1) (c.set i (z+1)) :=fun k hk=>by
 rcases List.mem_or_eq_of_mem_set hk with g|g
 ·have:=h k g;omega
 ·have:=aBD h hz;omega
theorem bF2 (p:Prog)(i:Nat)(hi:i<p.nodes.length)(hn:p.nodes.length≤1000)(ks:List Int)(hk:ks.length≤1000)(K:List Int→Bool)(B:Int)(hB:0≤B)(hB2:B≤1000000)
  (hb:∀v:List Int,v.length=p.nodes.length→below (B+ks.length) v→Ends PP 0 (mW p v ((i:Int) +1)).as (.ret (.bool (K v))) (aA [] 0)) :
  ∀ (t:List Int) (k:Nat) (c:List Int),c.length=p.nodes.length→k≤ks.length→below (B+k) c→ks.drop k=t→Ends PP 0 (mX p ks (ks.length:Int) c (k:Int) (i:Int) (i:Int)).as (.ret (.bool (match nZ ((i:Int) +1) p.nodes.length t c with|some v=>K v|none=>false))) (aA [] 0)
 | [],k,c,hc,hkl,hbl,h=>by
  have:=cD h
  have e:k=ks.length:=by omega
  subst e
  refine(aKn p ks ks.length c ks.length i i sd sd).ends ?_
  exact hb c hc hbl
 | y ::t,k,c,hc,hkl,hbl,h=>by
  obtain⟨g1,g2,g3⟩ :=cA h
  have hin:=fW y ((i:Int) +1) ((p.nodes.length:Int) -1)
  cases k1:dU y ((i:Int) +1) ((p.nodes.length:Int) -1)with
  | false=>
   rw [k1]at hin
   exact Ends.eqv (aKl p ks ks.length c k i i y false sd sd sd sd sd hin rfl) (by simp [nZ,k1])
  | true=>
   rw [k1]at hin
   have hy:=inB_iff.1 k1
   obtain⟨z,hz⟩ :∃z,c[y.toNat]?=some z:= ⟨_,List.getElem?_eq_getElem (by omega)⟩
   have hzb:=aBD hbl hz
   refine(aKm p ks ks.length c k i i y true z sd sd sd sd sd hin rfl (by omega) (by omega) hz sd sd).ends ?_
   have e:c.getD y.toNat 0=z:=by rw [List.getD_eq_getElem?_getD,hz];rfl
   have ei:nZ ((i:Int) +1) p.nodes.length (y::t) c=nZ ((i:Int) +1) p.nodes.length t (c.set y.toNat (z+1)) :=by
    rw [nZ,if_pos k1,e]
   rw [ei]
   refine bF2 p i hi hn ks hk K B hB hB2 hb t (k+1) (c.set y.toNat (z+1)) (by simpa using hc) (by omega) ?_ g2
   have:=aF8 hbl hz
   intro q hq
   have:=this q hq
   push_cast
   omega
def tI :List Node→Nat
 | [] =>0
 |x::t=>x.kids.length+tI t
theorem aEd :∀ (t:List Node),(∀x∈t,x.kids.length≤10) →tI t≤10*t.length
 | [],_=>by simp [tI]
 | x::t,h=>by
  have a:=aEd t (fun y hy=>h y (List.mem_cons_of_mem _ hy))
  have b:=h x (List.mem_cons_self ..)
  simp only [tI,List.length_cons];omega
theorem bF1 (p:Prog)(hp:aP p=true)(hn:p.nodes.length≤1000) :∀ (t:List Node) (i:Nat) (c:List Int) (B:Int),0≤B→B+tI t≤100000→c.length=p.nodes.length→below B c→p.nodes.drop i=t →
  Ends PP 0 (mW p c (i:Int)).as (.ret (.bool (qE (mZ p i t c)))) (aA [] 0)
 | [],i,c,B,h0,h1,hc,hb,h=>by
  have:=cD h
  exact Ends.eqv (aKk p c i _ sd (aPX c (by omega))) rfl
 | x::t,i,c,B,h0,h1,hc,hb,h=>by
  obtain⟨g1,g2,g3⟩ :=cA h
  have hx:bA x=true:=by
   simp only [aP,Bool.and_eq_true]at hp
   exact List.all_eq_true.1 hp.2 x (List.mem_of_getElem? g1)
  simp only [bA,Bool.and_eq_true,decide_eq_true_eq]at hx
  simp only [tI]at h1
  refine(aKj p c i x sd sd sd).ends ?_
  refine Ends.eqv (bF2 p i g3 hn x.kids (by omega) (fun v=>qE (mZ p (i+1) t v)) B h0 (by omega) (fun v hv hbv=>bF1 p hp hn t (i+1) v (B+x.kids.length) (by omega) (by omega) hv hbv g2) x.kids 0 c hc (by omega) (by simpa using hb) rfl) ?_
  rw [mZ]
  cases nZ ((i:Int) +1) (p.nodes.length:Int) x.kids c<;>rfl
theorem bF0 (p:Prog)(hp:aP p=true)(hn:p.nodes.length≤1000)(hks:tI p.nodes≤10000)(hf:p.funs.length≤1000) :∀ (t:List Int) (i:Nat) (c:List Int),i≤p.funs.length→c.length=p.nodes.length→below (i:Int) c→p.funs.drop i=t →
  Ends PP 0 (mV p (i:Int) c).as (.ret (.bool (match nZ 0 p.nodes.length t c with|some v=>qE (mZ p 0 p.nodes v) |none=>false))) (aA [] 0)
 | [],i,c,hi,hc,hb,h=>by
  have:=cD h
  refine(aKi p i c sd).ends ?_
  exact bF1 p hp hn p.nodes 0 c i (by omega) (by omega) hc hb rfl
 | y ::t,i,c,hi,hc,hb,h=>by
  obtain⟨g1,g2,g3⟩ :=cA h
  have hin:=fW y 0 ((p.nodes.length:Int) -1)
  cases k1:dU y 0 ((p.nodes.length:Int) -1)with
  | false=>
   rw [k1]at hin
   exact Ends.eqv (aKg p i c y false sd sd sd sd hin rfl) (by simp [nZ,k1])
  | true=>
   rw [k1]at hin
   have hy:=inB_iff.1 k1
   obtain⟨z,hz⟩ :∃z,c[y.toNat]?=some z:= ⟨_,List.getElem?_eq_getElem (by omega)⟩
   have hzb:=aBD hb hz
   refine(aKh p i c y true z sd sd sd sd hin rfl (by omega) (by omega) hz sd sd).ends ?_
   have e:c.getD y.toNat 0=z:=by rw [List.getD_eq_getElem?_getD,hz];rfl
   have ei:nZ 0 p.nodes.length (y::t) c=nZ 0 p.nodes.length t (c.set y.toNat (z+1)) :=by
    rw [nZ,if_pos k1,e]
   rw [ei]
   refine bF0 p hp hn hks hf t (i+1) (c.set y.toNat (z+1)) (by omega) (by simpa using hc) ?_ g2
   have:=aF8 hb hz
   intro q hq
   have:=this q hq
   push_cast
   omega
end Go.Hb
namespace Go.Hb
open Go.Proofs
set_option maxHeartbeats 1000000
def dQ (p:Prog) :Bool:=
 dY p&&decide (p.cons.length≤20) &&p.cons.all gG&&oM (bI p.cons) &&p.nodes.all (bH p) &&
  (match nZ 0 (p.nodes.length:Int) p.funs (List.replicate p.nodes.length 0)with
  |some v=>qE (mZ p 0 p.nodes v)
  |none=>false)
theorem aKt {p:Prog}(hp:aP p=true) :∀x∈p.nodes,x.kids.length≤10∧x.pats.length≤10:=fun x hx=>by
 simp only [aP,Bool.and_eq_true]at hp
 have:=List.all_eq_true.1 hp.2 x hx
 simp only [bA,Bool.and_eq_true,decide_eq_true_eq]at this
 exact this.1
theorem aH5 (p:Prog)(hp:aP p=true) :aE PP 93 [Prog.av p] (.bool (dQ p)) :=by
 refine bK (by kernel_rfl) rfl rfl ?_
 have hs:=hp
 simp only [aP,Bool.and_eq_true,decide_eq_true_eq]at hs
 obtain⟨⟨⟨⟨s1,s2⟩,s3⟩,_⟩,_⟩ :=hs
 have hno:=aKt hp
 by_cases k0:p.nodes.length≤300
 · by_cases k1 :1≤p.funs.length
   · by_cases k2:p.funs.length≤p.nodes.length
     · have kk :dU (p.funs.length:Int) 1 (p.nodes.length:Int) =true:=inB_iff.2 ⟨by omega,by omega⟩
       by_cases k3:p.cons.length≤20
       · have hi:=fW p.main 0 ((p.funs.length:Int) -1)
         cases k4:dU p.main 0 ((p.funs.length:Int) -1)with
         | false=>
          rw [k4]at hi
          exact Ends.eqv (aKb p false sd sd sd sd sd hi rfl) (by simp [dQ,dY,k4])
         | true =>
          rw [k4]at hi
          have hh:dY p=true:=by simp [dY,k0,kk,k4]
          have hc:=aPV p.cons (by omega)
          cases k5:p.cons.all gG with
          | false=>
           rw [k5]at hc
           exact Ends.eqv (aKc p true false sd sd sd sd sd hi rfl hc rfl) (by simp only [dQ,k5,Bool.and_false,Bool.false_and])
          | true=>
           rw [k5]at hc
           have hm:=aPY p.cons (by omega)
           have hd:=aH4 (bI p.cons) (by simp [bI];omega)
           cases k6:oM (bI p.cons)with
           | false=>
            rw [k6]at hd
            exact Ends.eqv (aKd p true true (bI p.cons) false sd sd sd sd sd hi rfl hc rfl hm hd rfl) (by simp only [dQ,k6,Bool.and_false,Bool.false_and])
           | true=>
            rw [k6]at hd
            have hn:=aPW p.nodes p (by omega) (fun x hx=>aM0 p x (by omega) (by omega) (hno x hx).2 (hno x hx).1)
            cases k7:p.nodes.all (bH p)with
            | false=>
             rw [k7]at hn
             exact Ends.eqv (aKe p true true (bI p.cons) true false sd sd sd sd sd hi rfl hc rfl hm hd rfl hn rfl) (by simp only [dQ,k7,Bool.and_false,Bool.false_and])
            | true=>
             rw [k7]at hn
             refine(aKf p true true (bI p.cons) true true sd sd sd sd sd hi rfl hc rfl hm hd rfl hn rfl (by omega)).ends ?_
             have hks:=aEd p.nodes (fun x hx=> (hno x hx).1)
             refine Ends.eqv (bF0 p hp (by omega) (by omega) (by omega) p.funs 0 _ (by omega) (by simp) ?_ rfl) ?_
             · intro q hq
               have:= (List.mem_replicate.1 hq).2
               omega
             ·simp only [dQ,hh,decide_eq_true k3,k5,k6,k7,Bool.true_and] <;>rfl
       ·exact Ends.eqv (aKa p sd sd sd sd) (by simp [dQ,k3])
     · have kk:dU (p.funs.length:Int) 1 (p.nodes.length:Int) =false:=inB_not.2 (by omega)
       exact Ends.eqv (aJ9 p sd sd sd) (by simp [dQ,dY,kk])
   · have kk:dU (p.funs.length:Int) 1 (p.nodes.length:Int) =false:=inB_not.2 (by omega)
     exact Ends.eqv (aJ8 p sd sd) (by simp [dQ,dY,kk])
 ·exact Ends.eqv (aJ7 p sd) (by simp [dQ,dY,k0])
theorem aKu (p:Prog)(hp:aP p=true) :aE PP 32 [Prog.av p] (.int .i64 (checkN (dQ p))) :=by
 refine bK (by kernel_rfl) rfl rfl ?_
 have h:=aH5 p hp
 cases k:dQ p with
 |false=>rw [k]at h;exact aMW p false h rfl
 |true=>rw [k]at h;exact aMX p true h rfl
def cnt (b:Bool) :Int:=if b=true then 1 else 0
def tJ (u:List Bool) :List Int:=u.map cnt
def zE (c:List Int) :Prop:= (∃ (i:Nat) (z:Int),c[i]?=some z∧2≤z) ∧∀z∈c,0≤z
theorem aKv {c:List Int}(h:zE c) :c.all one=false:=by
 obtain⟨⟨i,z,h1,h2⟩,_⟩ :=h
 cases k:c.all one with
 |false=>rfl
 | true=>
  have:=List.all_eq_true.1 k z (List.mem_of_getElem? h1)
  simp only [one,decide_eq_true_eq]at this;omega
theorem aM1 {c:List Int}{j:Nat}(h:zE c) :zE (c.set j (c.getD j 0+1)) :=by
 obtain⟨⟨i,z,h1,h2⟩,h3⟩ :=h
 have hi:= (List.getElem?_eq_some_iff.1 h1).1
 refine⟨⟨i,if j=i then z+1 else z,?_,by split<;>omega⟩,fun q hq=>?_⟩
 · rw [List.getElem?_set]
   by_cases e:j=i
   · subst e
     rw [if_pos rfl,if_pos hi,if_pos rfl,List.getD_eq_getElem?_getD,h1];rfl
   ·rw [if_neg e,if_neg e];exact h1
 · rcases List.mem_or_eq_of_mem_set hq with g|g
   ·exact h3 q g
   · rw [g,List.getD_eq_getElem?_getD]
     cases k:c[j]? with
     |none=>simp
     |some w=>have:=h3 w (List.mem_of_getElem? k);simp;omega
theorem vV {lo n:Int}:∀ {ks c:List Int} {d:List Int},zE c→nZ lo n ks c=some d→zE d
 | [],c,d,h,e=>by simp only [nZ,Option.some.injEq]at e;rw [←e];exact h
 | k::ks,c,d,h,e=>by
  simp only [nZ]at e
  split at e
  ·exact vV (aM1 h) e
  ·cases e
theorem aKw (u:List Bool) :∀z∈tJ u,0≤z:=fun z hz=>by
 obtain⟨b,_,rfl⟩ :=List.mem_map.1 hz
 cases b<;>simp [cnt]
theorem zF {lo n:Int}(hlo:0≤lo) :∀ (ks:List Int) (u:List Bool),n≤u.length →
  (∀v,marks lo n ks u=some v→nZ lo n ks (tJ u) =some (tJ v)) ∧ (marks lo n ks u=none→∀d,nZ lo n ks (tJ u) =some d→zE d)
 | [],u,hn=>by
  simp only [marks,nZ,Option.some.injEq]
  exact⟨fun v e=>by rw [e],fun e=>by cases e⟩
 | k :: ks,u,hn=>by
  simp only [marks,nZ]
  by_cases h1:dU k lo (n-1) =true
  · have hk:=inB_iff.1 h1
    have hlt:k.toNat<u.length:=by omega
    have hget:u[k.toNat]?=some u[k.toNat] :=List.getElem?_eq_getElem hlt
    have hc: (tJ u).getD k.toNat 0=cnt u[k.toNat] :=by
     rw [List.getD_eq_getElem?_getD,tJ,List.getElem?_map,hget];rfl
    rw [if_pos h1]
    cases hb:u[k.toNat]with
    | false=>
     rw [hb]at hget hc
     rw [if_pos ⟨h1,hget⟩]
     have e: (tJ u).set k.toNat ((tJ u).getD k.toNat 0+1) =tJ (u.set k.toNat true) :=by
      rw [hc,tJ,tJ,List.map_set];rfl
     rw [e]
     exact zF hlo ks (u.set k.toNat true) (by simpa using hn)
    | true=>
     rw [hb]at hget hc
     rw [if_neg (by rw [hget];simp)]
     refine And.intro (fun v e=>nomatch e) (fun _ d e=>vV (And.intro ⟨k.toNat,2,?_,by omega⟩ ?_) e)
     ·rw [hc,List.getElem?_set_self (by simp [tJ];exact hlt)];rfl
     · intro z hz
       rcases List.mem_or_eq_of_mem_set hz with g|g
       ·exact aKw u z g
       ·rw [g,hc];simp [cnt]
  · rw [if_neg h1,if_neg (fun g=>h1 g.1)]
    exact And.intro (fun v e=>nomatch e) (fun _ d e=>nomatch e)
theorem qV (p:Prog) :∀ (t:List Node) (i:Nat) (c:List Int),zE c→qE (mZ p i t c) =false
 | [],i,c,h=>by rw [mZ];exact aKv h
 | x::t,i,c,h=>by
  rw [mZ]
  cases e:nZ ((i:Int) +1) (p.nodes.length:Int) x.kids c with
  |none=>rfl
  |some d=>exact qV p t (i+1) d (vV h e)
theorem aF9 :∀ (u:List Bool),(tJ u).all one=u.all fun b=>b
 | [] =>rfl
 | b::u=>by
  have:=aF9 u
  simp only [tJ,List.map_cons,List.all_cons]at this ⊢
  rw [this]
  cases b<;>simp [cnt,one]
theorem aKx (p:Prog) :∀ (t:List Node) (i:Nat) (u:List Bool),u.length=p.nodes.length→t.all (bH p) =true→allT (bU p i t u) =qE (mZ p i t (tJ u))
 | [],i,u,hu,_=>by simp only [bU,mZ,allT,qE,aF9]
 | x::t,i,u,hu,ha=>by
  simp only [List.all_cons,Bool.and_eq_true]at ha
  obtain⟨m1,m2⟩ :=zF (lo:= (i:Int) +1) (n:= (p.nodes.length:Int)) (by omega) x.kids u (by omega)
  simp only [bU,mZ,if_pos ha.1]
  cases hm:marks ((i:Int) +1) (p.nodes.length:Int) x.kids u with
  | some v=>
   rw [m1 v hm]
   exact aKx p t (i+1) v (by rw [gY hm,hu]) ha.2
  | none=>
   cases hi:nZ ((i:Int) +1) (p.nodes.length:Int) x.kids (tJ u)with
   |none=>rfl
   |some d=>exact(qV p t (i+1) d (m2 hm d hi)).symm
theorem aAS (p:Prog) :∀ (t:List Node) (i:Nat) (u:List Bool),t.all (bH p) =false→allT (bU p i t u) =false
 | [],i,u,h=>by simp at h
 | x ::t,i,u,h=>by
  simp only [bU]
  by_cases hx:bH p x=true
  · rw [if_pos hx]
    have ht:t.all (bH p) =false:=by simpa [hx]using h
    cases marks ((i:Int) +1) (p.nodes.length:Int) x.kids u with
    |none=>rfl
    |some v=>exact aAS p t (i+1) v ht
  ·rw [if_neg hx];rfl
theorem aPZ (p:Prog) :dQ p=bJ p:=by
 have e1:dQ p= (dY p&&vT p.cons&& (p.nodes.all (bH p) && (match nZ 0 (p.nodes.length:Int) p.funs (List.replicate p.nodes.length 0)with
  |some v=>qE (mZ p 0 p.nodes v)
  |none=>false))) :=by
  unfold dQ vT
  cases dY p<;>cases p.cons.all gG<;>cases oM (bI p.cons) <;>cases p.nodes.all (bH p) <;>cases decide (p.cons.length≤20) <;>simp
 rw [e1,bJ]
 congr 1
 have ez:List.replicate p.nodes.length (0:Int) =tJ (List.replicate p.nodes.length false) :=by rw [tJ,List.map_replicate];rfl
 rw [ez]
 obtain⟨m1,m2⟩ :=zF (lo:=0) (n:= (p.nodes.length:Int)) (by omega) p.funs (List.replicate p.nodes.length false) (by simp)
 cases hm:marks 0 (p.nodes.length:Int) p.funs (List.replicate p.nodes.length false)with
 | some v=>
  rw [m1 v hm]
  cases ha:p.nodes.all (bH p)with
  |true=>simp only [Bool.true_and];exact(aKx p p.nodes 0 v (by rw [gY hm];simp) ha).symm
  |false=>simp only [Bool.false_and];exact(aAS p p.nodes 0 v ha).symm
 | none=>
  simp only
  cases hi:nZ 0 (p.nodes.length:Int) p.funs (tJ (List.replicate p.nodes.length false))with
  |none=>simp
  |some d=>simp only [qV p p.nodes 0 d (m2 hm d hi),Bool.and_false]
end Go.Hb
namespace Go.Hb
open Go.Proofs
theorem aP0 (x:Node)(kid:Int)(h0: (x.op== (5:Int)) =true) :
  Ends PP 0 (start PP 141 [(Node.av x),(nI kid)]).as (.ret (nI 1)) (aA [] 0) :=
 wE 1 [] [qp h0] [rn 13,bt 9,rn 21] trivial
theorem aP1 (x:Node)(kid:Int)(h0: (x.op== (5:Int)) =false)(h1: (x.op== (27:Int)) =true) :
  Ends PP 0 (start PP 141 [(Node.av x),(nI kid)]).as (.ret (nI 1)) (aA [] 0) :=
 wE 1 [] [qp h0,qp h1] [rn 13,bf 9,rn 5,bt 14,rn 16] trivial
theorem aP2 (x:Node)(kid:Int)(h0: (x.op== (5:Int)) =false)(h1: (x.op== (27:Int)) =false)(h2: (x.op== (7:Int)) =true)(h3: (kid== (1:Int)) =true) :
  Ends PP 0 (start PP 141 [(Node.av x),(nI kid)]).as (.ret (nI 1)) (aA [] 0) :=
 wE 1 [] [qp h0,qp h1,qp h2,qp h3] [rn 13,bf 9,rn 5,bf 14,rn 4,bt 18,rn 6,bt 5,rn 6] trivial
theorem aP3 (x:Node)(kid:Int)(h0: (x.op== (5:Int)) =false)(h1: (x.op== (27:Int)) =false)(h2: (x.op== (7:Int)) =true)(h3: (kid== (1:Int)) =false)(h4: (x.op== (15:Int)) =false) :
  Ends PP 0 (start PP 141 [(Node.av x),(nI kid)]).as (.ret (nI 0)) (aA [] 0) :=
 wE 1 [] [qp h0,qp h1,qp h2,qp h3,qp h4] [rn 13,bf 9,rn 5,bf 14,rn 4,bt 18,rn 6,bf 5,rn 7,bf 27,rn 13] trivial
theorem aP4 (x:Node)(kid y_form0 y_n1:Int)(y_text2:aX)(y_parts3:List Pat)(y4:Int)(h0: (x.op== (5:Int)) =false)(h1: (x.op== (27:Int)) =false)(h2: (x.op== (7:Int)) =false)(h3: (x.op== (15:Int)) =true)(h4:decide (kid> (0:Int)) =true)(h5: (IntKind.i64.wrap (kid- (1:Int))) = (kid- (1:Int)))(h6:0≤ (kid- (1:Int)))(h7: ((x.pats)[(kid- (1:Int)).toNat]?) =some (Pat.mk y_form0 y_n1 y_text2 y_parts3))(h8:aE PP 195 [(.agg [(nI y_form0),(nI y_n1),(bO y_text2),(iP y_parts3)])] (nI y4)) :
  Ends PP 0 (start PP 141 [(Node.av x),(nI kid)]).as (.ret (nI y4)) (aA [] 0) :=
 wE 1 [] [qp h0,qp h1,qp h2,qp h3,qp h4,qp (congrArg (AV.int .i64) h5),qp h6,qgP h7,qp h8] [rn 13,bf 9,rn 5,bf 14,rn 4,bf 18,rn 13,bt 27,rn 5,bt 23,rn 7,sI 34 (kid- (1:Int)),aI (Pat.av (Pat.mk y_form0 y_n1 y_text2 y_parts3)),rn 1,.pure (nI y4),rn 3] trivial
theorem aP5 (x:Node)(kid:Int)(h0: (x.op== (5:Int)) =false)(h1: (x.op== (27:Int)) =false)(h2: (x.op== (7:Int)) =false)(h3: (x.op== (15:Int)) =true)(h4:decide (kid> (0:Int)) =false) :
  Ends PP 0 (start PP 141 [(Node.av x),(nI kid)]).as (.ret (nI 0)) (aA [] 0) :=
 wE 1 [] [qp h0,qp h1,qp h2,qp h3,qp h4] [rn 13,bf 9,rn 5,bf 14,rn 4,bf 18,rn 13,bt 27,rn 5,bf 23,rn 8] trivial
theorem aP6 (x:Node)(kid:Int)(h0: (x.op== (5:Int)) =false)(h1: (x.op== (27:Int)) =false)(h2: (x.op== (7:Int)) =false)(h3: (x.op== (15:Int)) =false) :
  Ends PP 0 (start PP 141 [(Node.av x),(nI kid)]).as (.ret (nI 0)) (aA [] 0) :=
 wE 1 [] [qp h0,qp h1,qp h2,qp h3] [rn 13,bf 9,rn 5,bf 14,rn 4,bf 18,rn 13,bf 27,rn 13] trivial
noncomputable def rS (q_form q_n:Int)(q_text:aX)(q_parts:List Pat)(n3 t12:Int) :TS:=
 {fr:={fn:=195,nt:=22,sl:=[(2,(nI 0)),(3,(nI n3)),(10,(iP q_parts)),(11,(nI (q_parts.length:Int))),(12,(nI t12))],todo:=[.code (cd Tryz.f195 [1,1,1,0,1,0,0]),.inLoop (cd Tryz.f195 [1,1,1,0,1,0,0]),.inBlock 0,.code (cd Tryz.f195 [1,1,1,1])]},cs:=[],hp:=[],nb:=0}
theorem aM2 (q_form q_n:Int)(q_text:aX)(q_parts:List Pat)(h0: (q_form== (2:Int)) =true) :
  Ends PP 0 (start PP 195 [(.agg [(nI q_form),(nI q_n),(bO q_text),(iP q_parts)])]).as (.ret (nI 1)) (aA [] 0) :=
 wE 1 [] [qp h0] [rn 12,bt 8,rn 6] trivial
theorem aM3 (q_form q_n:Int)(q_text:aX)(q_parts:List Pat)(h0: (q_form== (2:Int)) =false) :
  LeadsM PP 0 (start PP 195 [(.agg [(nI q_form),(nI q_n),(bO q_text),(iP q_parts)])]).as (rS q_form q_n q_text q_parts 0 0).as:=
 wW 1 [] [qp h0,fU q_parts] [rn 12,bf 8,rn 11,aL q_parts,rn 4] trivial
theorem aM4 (q_form q_n:Int)(q_text:aX)(q_parts:List Pat)(n3 t12:Int)(y_form0 y_n1:Int)(y_text2:aX)(y_parts3:List Pat)(y4:Int)(h0:decide (t12< (q_parts.length:Int)) =true)(h1:0≤t12)(h2: ((q_parts)[t12.toNat]?) =some (Pat.mk y_form0 y_n1 y_text2 y_parts3))(h3:aE PP 195 [(.agg [(nI y_form0),(nI y_n1),(bO y_text2),(iP y_parts3)])] (nI y4))(h4: (IntKind.i64.wrap (n3+y4)) = (n3+y4))(h5: (IntKind.i64.wrap (t12+ (1:Int))) = (t12+ (1:Int))) :
  LeadsM PP 0 (rS q_form q_n q_text q_parts n3 t12).as (rS q_form q_n q_text q_parts (n3+y4) (t12+ (1:Int))).as:=
 wW 1 [] [qp h0,qp h1,qgP h2,qp h3,qp (congrArg (AV.int .i64) h4),qp (congrArg (AV.int .i64) h5)] [rn 5,bt 13,rn 6,aI (Pat.av (Pat.mk y_form0 y_n1 y_text2 y_parts3)),rn 7,.pure (nI y4),rn 1,sI 19 (n3+y4),rn 5,sI 20 (t12+ (1:Int)),rn 3] trivial
theorem aM5 (q_form q_n:Int)(q_text:aX)(q_parts:List Pat)(n3 t12:Int)(h0:decide (t12< (q_parts.length:Int)) =false) :
  Ends PP 0 (rS q_form q_n q_text q_parts n3 t12).as (.ret (nI n3)) (aA [] 0) :=
 wE 0 [] [qp h0] [rn 5,bf 13,rn 8] trivial
end Go.Hb
namespace Go.Hb
open Go.Proofs
end Go.Hb
namespace Go.Hb
open Go.Proofs
theorem Ends.val {P:Program}{m:Nat}{s:AS}{v v':AV}{h':Hp}(h:Ends P m s (.ret v) h')(hv:∀E cv,VR E v cv→VR E v' cv) :Ends P m s (.ret v') h':=fun hm E fr ccs w f fs r cl base=>by
 obtain⟨cl',w',E',s1,⟨cv,e,g⟩,r2,x2⟩ :=h hm E fr ccs w f fs r cl base
 exact⟨cl',w',E',s1,⟨cv,e,hv _ _ g⟩,r2,x2⟩
mutual
def bnm :Pat→Int
 | .mk f _ _ ps=>if f=2 then 1 else aFq ps
def aFq :List Pat→Int
 | [] =>0
 |p::ps=>bnm p+aFq ps
end
mutual
theorem aM6 :∀p,0≤bnm p∧bnm p≤dL p
 | .mk f _ _ ps=>by
  have:=aCV ps
  simp only [bnm,dL];split<;>omega
theorem aCV :∀ps,0≤aFq ps∧aFq ps≤bP ps
 | [] =>by simp [aFq,bP]
 | p::ps=>by
  have:=aM6 p;have:=aCV ps
  simp only [aFq,bP];omega
end
theorem aCi (f n:Int)(s:aX)(ps:List Pat)(hl:ps.length<1000000)(ih:∀p∈ps,aE PP 195 [Pat.av p] (.int .i64 (bnm p))) :
  ∀ (t:List Pat) (i:Nat) (a:Int),0≤a→a+aFq t≤1000000→ps.drop i=t→Ends PP 0 (rS f n s ps a (i:Int)).as (.ret (.int .i64 (a+aFq t))) (aA [] 0)
 | [],i,a,_,_,h=>by
  have:=cD h
  exact Ends.eqv (aM5 f n s ps a i sd) (by simp [aFq])
 | .mk f' n' s' ps'::t,i,a,ha,hb,h=>by
  obtain⟨g1,g2,g3⟩ :=cA h
  have ihp:=ih _ (List.mem_of_getElem? g1)
  have b1:=aM6 (.mk f' n' s' ps')
  have b2:=aCV t
  rw [aFq]at hb ⊢
  refine(aM4 f n s ps a i f' n' s' ps' _ sd sd sd ihp sd sd).ends ?_
  exact Ends.eqv (aCi f n s ps hl ih t (i+1) (a+bnm (.mk f' n' s' ps')) (by omega) (by omega) g2) (by rw [Int.add_assoc])
mutual
theorem aCj :∀ (p:Pat),dL p<100000→aE PP 195 [Pat.av p] (.int .i64 (bnm p))
 | .mk f n s ps,h=>by
  refine bK (by kernel_rfl) (by simp [AV.keylessL,kT]) rfl ?_
  simp only [dL]at h
  have:=fA ps
  have b:=aCV ps
  by_cases g:f=2
  · subst g
    exact Ends.eqv (aM2 2 n s ps rfl) (by simp [bnm])
  · refine(aM3 f n s ps (by simpa using g)).ends ?_
    exact Ends.eqv (aCi f n s ps (by omega) (aEe ps (by omega)) ps 0 0 (by omega) (by omega) rfl) (by simp [bnm,g])
theorem aEe :∀ (ps:List Pat),bP ps<100000→∀p∈ps,aE PP 195 [Pat.av p] (.int .i64 (bnm p))
 | [],_,p,hp=>by cases hp
 | q::ps,h,p,hp=>by
  simp only [bP]at h
  rcases List.mem_cons.1 hp with e|hp
  ·rw [e];exact aCj q (by omega)
  ·exact aEe ps (by omega) p hp
end
def dF (x:Node)(k:Int) :Int:=
 if x.op=5∨x.op=27∨ (x.op=7∧k=1)then 1
 else if x.op=15∧k>0 then(match x.pats[(k-1).toNat]? with|some q=>bnm q|none=>0)else 0
structure FineN (cons:List Con) (x:Node) :Prop where
 pats:∀q∈x.pats,dL q≤12∧dM cons q=true
 mat:x.op=15→x.kids.length=1+x.pats.length
 let2:x.op=7→x.kids.length=2
theorem aAT {p:Prog}{x:Node}(h:bH p x=true) :FineN p.cons x:=by
 simp only [bH,Bool.and_eq_true,decide_eq_true_eq]at h
 obtain⟨⟨_,h2⟩,h3⟩ :=h
 refine⟨fun q hq=>?_,fun e=>?_,fun e=>?_⟩
 · have:=List.all_eq_true.1 h2 q hq
   simpa [iK]using this
 ·rw [e]at h3;simp [dV]at h3;omega
 ·rw [e]at h3;simp [dV]at h3;omega
theorem pM {cons:List Con}{x:Node}(hf:FineN cons x)(k:Int) :0≤dF x k∧dF x k≤12:=by
 unfold dF
 split
 ·omega
 · split
   · split
     · rename_i q hq
       have:= (hf.pats q (List.mem_of_getElem? hq)).1
       have:=aM6 q
       omega
     ·omega
   ·omega
theorem aP8 {x:Node}{k:Int}(h15:x.op=15)(hk:k>0){q:Pat}(hq:x.pats[(k-1).toNat]?=some q) :dF x k=bnm q:=by
 unfold dF
 rw [if_neg (by rw [h15];omega),if_pos ⟨h15,hk⟩,hq]
theorem jL {cons:List Con}{x:Node}(hf:FineN cons x){k:Int}(h0:0≤k)(h1:k<x.kids.length)(hk:x.kids.length≤10) :aE PP 141 [Node.av x,.int .i64 k] (.int .i64 (dF x k)) :=by
 refine bK (by kernel_rfl) rfl rfl ?_
 have mt:x.op=15→k>0→∃f n s ps,x.pats[(k-1).toNat]?=some (.mk f n s ps) ∧aE PP 195 [Pat.av (.mk f n s ps)] (.int .i64 (bnm (.mk f n s ps))) :=fun e g=>by
  have hl:=hf.mat e
  obtain⟨q,hq⟩ :∃q,x.pats[(k-1).toNat]?=some q:= ⟨_,List.getElem?_eq_getElem (by omega)⟩
  obtain⟨f,n,s,ps⟩ :=q
  have:= (hf.pats _ (List.mem_of_getElem? hq)).1
  exact⟨f,n,s,ps,hq,aCj _ (by omega)⟩
 by_cases g5:x.op=5
 ·exact Ends.eqv (aP0 x k (by simp [g5])) (by simp [dF,g5])
 · by_cases g27:x.op=27
   ·exact Ends.eqv (aP1 x k (by simp [g5]) (by simp [g27])) (by simp [dF,g27])
   · by_cases g7:x.op=7
     · by_cases gk:k=1
       ·exact Ends.eqv (aP2 x k (by simp [g5]) (by simp [g27]) (by simp [g7]) (by simp [gk])) (by simp [dF,g7,gk])
       ·exact Ends.eqv (aP3 x k (by simp [g5]) (by simp [g27]) (by simp [g7]) (by simp [gk]) (by simp [g7])) (by simp [dF,g7,gk])
     · by_cases g15:x.op=15
       · by_cases gk:k>0
         · obtain⟨f,n,s,ps,hq,hp⟩ :=mt g15 gk
           exact Ends.eqv (aP4 x k f n s ps _ (by simp [g5]) (by simp [g27]) (by simp [g7]) (by simp [g15]) (by simpa using gk) sd (by omega) hq hp) (by rw [aP8 g15 gk hq])
         ·exact Ends.eqv (aP5 x k (by simp [g5]) (by simp [g27]) (by simp [g7]) (by simp [g15]) (by simpa using gk)) (by simp [dF,g15,gk])
       ·exact Ends.eqv (aP6 x k (by simp [g5]) (by simp [g27]) (by simp [g7]) (by simp [g15])) (by simp [dF,g5,g27,g7,g15])
end Go.Hb
namespace Go.Hb
open Go.Proofs
end Go.Hb
namespace Go.Hb
open Go.Proofs
end Go.Hb
namespace Go.Hb
open Go.Proofs
set_option maxHeartbeats 1000000
structure FineP (p:Prog) :Prop where
 small:p.nodes.length≤320
 fsmall:p.funs.length≤320
 node:∀ (i:Nat) (x:Node),p.nodes[i]?=some x→FineN p.cons x∧x.kids.length≤10∧∀k∈x.kids,(i:Int) <k∧k<p.nodes.length
 funs:∀f∈p.funs,0≤f∧f<p.nodes.length
def aM7 (a fn sz:Int) :AV:=.agg [.int .i64 a,.int .i64 fn,.int .i64 sz]
end Go.Hb
