/-
  OWN WORK (G3, G4, G5, V13, V14, V15, V16, H3, H4): a machine on abstract values, its soundness, ways through the text (the ways WRITTEN BY A PROGRAM), plain laws.
-/
import Derived.Test.YtogkjcpighphfaaGreatHF
import Derived.Test.YtogkjcpighphfaaGreatHG
set_option linter.unusedVariables false
set_option linter.unusedSimpArgs false
set_option linter.unusedSectionVars false
set_option maxRecDepth 100000
namespace Go.Hb
open Go.Proofs
theorem bIn_E_0 (n lo hi:Int)(h0:decide (n≥lo) =true) :
  Ends PP 0 (start PP 65 [(nI n),(nI lo),(nI hi)]).as (.ret (bV (decide (n≤hi)))) (hpOf [] 0) :=
 wE 0 [] [qp h0] [rn 10,bt 10,rn 7] trivial
theorem bIn_E_1 (n lo hi:Int)(h0:decide (n≥lo) =false) :
  Ends PP 0 (start PP 65 [(nI n),(nI lo),(nI hi)]).as (.ret (bV false)) (hpOf [] 0) :=
 wE 0 [] [qp h0] [rn 10,bf 10,rn 7] trivial
theorem bInt_E_0 (n:Int)(y0:Bool)(h0:Pure PP 65 [(nI n),(nI (-1000000000)),(nI 1000000000)] (bV y0)) :
  Ends PP 0 (start PP 180 [(nI n)]).as (.ret (bV y0)) (hpOf [] 0) :=
 wE 0 [] [qp h0] [rn 7,pB y0,rn 3] trivial
noncomputable def bSmall_c0 (s:Str)(p0:Nat) :TS:=
 {fr:={fn:=148,nt:=16,sl:=[(2,(bV false)),(6,(.ptr 0 0))],todo:=[.code (cd Tryz.f148 [1,0,1,0,0]),.inLoop (cd Tryz.f148 [1,0,1,0,0]),.inBlock 0,.code (cd Tryz.f148 [1,1])]},cs:=[],hp:=[(0,(.siter s.length (bytesNat s) p0),false)],nb:=1}
theorem bSmall_E_0 (s:Str) :
  LeadsM PP 0 (start PP 148 [(avS s)]).as (bSmall_c0 s 0).as:=
 wW 1 [0] [] [rn 12] trivial
theorem bSmall_0_0 (s:Str)(p0 c0 d1:Nat)(h0:p0<s.length)(h1:adec s.length (bytesNat s) p0=some (c0,d1))(h2:decide (((c0:Nat) :Int) < (97:Int)) =true) :
  Ends PP 0 (bSmall_c0 s p0).as (.ret (bV false)) (hpOf [] 0) :=
 wE 1 [] [qp h0,qp h1,qp h2] [rn 2,.nxt c0 d1,rn 16,bt 12,rn 10] trivial
theorem bSmall_0_1 (s:Str)(p0 c0 d1:Nat)(h0:p0<s.length)(h1:adec s.length (bytesNat s) p0=some (c0,d1))(h2:decide (((c0:Nat) :Int) < (97:Int)) =false)(h3:decide (((c0:Nat) :Int) > (122:Int)) =true) :
  Ends PP 0 (bSmall_c0 s p0).as (.ret (bV false)) (hpOf [] 0) :=
 wE 1 [] [qp h0,qp h1,qp h2,qp h3] [rn 2,.nxt c0 d1,rn 16,bf 12,rn 4,bt 15,rn 6] trivial
theorem bSmall_0_2 (s:Str)(p0 c0 d1:Nat)(h0:p0<s.length)(h1:adec s.length (bytesNat s) p0=some (c0,d1))(h2:decide (((c0:Nat) :Int) < (97:Int)) =false)(h3:decide (((c0:Nat) :Int) > (122:Int)) =false) :
  LeadsM PP 0 (bSmall_c0 s p0).as (bSmall_c0 s (Nat.add p0 d1)).as:=
 wW 1 [0] [qp h0,qp h1,qp h2,qp h3] [rn 2,.nxt c0 d1,rn 16,bf 12,rn 4,bf 15,rn 4] trivial
theorem bSmall_0_3 (s:Str)(p0:Nat)(h0:s.length≤p0) :
  Ends PP 0 (bSmall_c0 s p0).as (.ret (bV true)) (hpOf [] 0) :=
 wE 1 [] [qp h0] [rn 2,.nxtE,rn 10] trivial
theorem bGreat_E_0 (s:Str)(y0:UInt8)(y1:Bool)(h0: (!(strEq s.length (bytesNat s) 0 0)) =true)(h1:decide ((s.length:Int) ≤ (8:Int)) =true)(h2: (s)[0]?=some y0)(h3:decide (((y0.toNat:Nat) :Int) ≥ (65:Int)) =true)(h4:decide (((y0.toNat:Nat) :Int) ≤ (90:Int)) =true)(h5:1≤List.length s)(h6:Pure PP 148 [(avS (List.drop 1 s))] (bV y1)) :
  Ends PP 0 (start PP 128 [(avS s)]).as (.ret (bV y1)) (hpOf [] 0) :=
 wE 0 [] [qp h0,qp h1,qp (p:=0≤ (0:Int)) (by decide),qp (p:= (0:Int) < (s.length:Int)) (str_lt (k:= (0:Int)) (by decide) h2),qp (p:=AV.int .u8 ((Nat.mod (Nat.div (bytesNat s) (Nat.pow 256 (0:Int).toNat)) 256:Nat) :Int) = (.int .u8 ((y0.toNat:Nat) :Int))) (str_at (k:= (0:Int)) h2),qp h3,qp (p:=0≤ (0:Int)) (by decide),qp (p:= (0:Int) < (s.length:Int)) (str_lt (k:= (0:Int)) (by decide) h2),qp (p:=AV.int .u8 ((Nat.mod (Nat.div (bytesNat s) (Nat.pow 256 (0:Int).toNat)) 256:Nat) :Int) = (.int .u8 ((y0.toNat:Nat) :Int))) (str_at (k:= (0:Int)) h2),qp h4,qp (p:=SlOk PP 9 (avS s) (some (nI 1)) none (avS (List.drop 1 s))) (sl_str_from (k:= (1:Int)) (by kernel_rfl) (by decide) h5),qp h6] [rn 9,bt 5,rn 5,bt 10,rn 1,.ans (.ev (.int .u8 ((y0.toNat:Nat) :Int))),rn 3,bt 15,rn 1,.ans (.ev (.int .u8 ((y0.toNat:Nat) :Int))),rn 3,bt 20,rn 1,.ans (.ev (avS (List.drop 1 s))),pB y1,rn 4] trivial
theorem bGreat_E_1 (s:Str)(y0:UInt8)(h0: (!(strEq s.length (bytesNat s) 0 0)) =true)(h1:decide ((s.length:Int) ≤ (8:Int)) =true)(h2: (s)[0]?=some y0)(h3:decide (((y0.toNat:Nat) :Int) ≥ (65:Int)) =true)(h4:decide (((y0.toNat:Nat) :Int) ≤ (90:Int)) =false) :
  Ends PP 0 (start PP 128 [(avS s)]).as (.ret (bV false)) (hpOf [] 0) :=
 wE 0 [] [qp h0,qp h1,qp (p:=0≤ (0:Int)) (by decide),qp (p:= (0:Int) < (s.length:Int)) (str_lt (k:= (0:Int)) (by decide) h2),qp (p:=AV.int .u8 ((Nat.mod (Nat.div (bytesNat s) (Nat.pow 256 (0:Int).toNat)) 256:Nat) :Int) = (.int .u8 ((y0.toNat:Nat) :Int))) (str_at (k:= (0:Int)) h2),qp h3,qp (p:=0≤ (0:Int)) (by decide),qp (p:= (0:Int) < (s.length:Int)) (str_lt (k:= (0:Int)) (by decide) h2),qp (p:=AV.int .u8 ((Nat.mod (Nat.div (bytesNat s) (Nat.pow 256 (0:Int).toNat)) 256:Nat) :Int) = (.int .u8 ((y0.toNat:Nat) :Int))) (str_at (k:= (0:Int)) h2),qp h4] [rn 9,bt 5,rn 5,bt 10,rn 1,.ans (.ev (.int .u8 ((y0.toNat:Nat) :Int))),rn 3,bt 15,rn 1,.ans (.ev (.int .u8 ((y0.toNat:Nat) :Int))),rn 3,bf 20,rn 7] trivial
theorem bGreat_E_2 (s:Str)(y0:UInt8)(h0: (!(strEq s.length (bytesNat s) 0 0)) =true)(h1:decide ((s.length:Int) ≤ (8:Int)) =true)(h2: (s)[0]?=some y0)(h3:decide (((y0.toNat:Nat) :Int) ≥ (65:Int)) =false) :
  Ends PP 0 (start PP 128 [(avS s)]).as (.ret (bV false)) (hpOf [] 0) :=
 wE 0 [] [qp h0,qp h1,qp (p:=0≤ (0:Int)) (by decide),qp (p:= (0:Int) < (s.length:Int)) (str_lt (k:= (0:Int)) (by decide) h2),qp (p:=AV.int .u8 ((Nat.mod (Nat.div (bytesNat s) (Nat.pow 256 (0:Int).toNat)) 256:Nat) :Int) = (.int .u8 ((y0.toNat:Nat) :Int))) (str_at (k:= (0:Int)) h2),qp h3] [rn 9,bt 5,rn 5,bt 10,rn 1,.ans (.ev (.int .u8 ((y0.toNat:Nat) :Int))),rn 3,bf 15,rn 12] trivial
theorem bGreat_E_3 (s:Str)(h0: (!(strEq s.length (bytesNat s) 0 0)) =true)(h1:decide ((s.length:Int) ≤ (8:Int)) =false) :
  Ends PP 0 (start PP 128 [(avS s)]).as (.ret (bV false)) (hpOf [] 0) :=
 wE 0 [] [qp h0,qp h1] [rn 9,bt 5,rn 5,bf 10,rn 17] trivial
theorem bGreat_E_4 (s:Str)(h0: (!(strEq s.length (bytesNat s) 0 0)) =false) :
  Ends PP 0 (start PP 128 [(avS s)]).as (.ret (bV false)) (hpOf [] 0) :=
 wE 0 [] [qp h0] [rn 9,bf 5,rn 22] trivial
theorem bCon_E_0 (c:Con)(y0 y1:Bool)(h0:Pure PP 128 [(avS c.name)] (bV y0))(h1:y0=true)(h2:Pure PP 65 [(nI c.args),(nI 0),(nI 3)] (bV y1)) :
  Ends PP 0 (start PP 74 [(.agg [(avS c.name),(nI c.args)])]).as (.ret (bV y1)) (hpOf [] 0) :=
 wE 1 [] [qp h0,qp h1,qp h2] [rn 9,pB y0,rn 1,bt 6,rn 2,pB y1,rn 4] trivial
theorem bCon_E_1 (c:Con)(y0:Bool)(h0:Pure PP 128 [(avS c.name)] (bV y0))(h1:y0=false) :
  Ends PP 0 (start PP 74 [(.agg [(avS c.name),(nI c.args)])]).as (.ret (bV false)) (hpOf [] 0) :=
 wE 1 [] [qp h0,qp h1] [rn 9,pB y0,rn 1,bf 6,rn 7] trivial
theorem bNumber_E_0 (p:Prog)(x:Node)(y0:Bool)(h0: (x.op== (1:Int)) =true)(h1:Pure PP 180 [(nI x.n)] (bV y0)) :
  Ends PP 0 (start PP 134 [(Prog.av p),(Node.av x)]).as (.ret (bV y0)) (hpOf [] 0) :=
 wE 2 [] [qp h0,qp h1] [rn 18,bt 7,rn 5,pB y0,rn 3] trivial
theorem bNumber_E_1 (p:Prog)(x:Node)(y0:Bool)(h0: (x.op== (1:Int)) =false)(h1: (x.op== (2:Int)) =true)(h2:Pure PP 65 [(nI x.n),(nI 0),(nI 1)] (bV y0)) :
  Ends PP 0 (start PP 134 [(Prog.av p),(Node.av x)]).as (.ret (bV y0)) (hpOf [] 0) :=
 wE 2 [] [qp h0,qp h1,qp h2] [rn 18,bf 7,rn 6,bt 12,rn 5,pB y0,rn 3] trivial
theorem bNumber_E_2 (p:Prog)(x:Node)(y0:Bool)(h0: (x.op== (1:Int)) =false)(h1: (x.op== (2:Int)) =false)(h2: (x.op== (24:Int)) =true)(h3:Pure PP 65 [(nI x.n),(nI 0),(nI 3)] (bV y0)) :
  Ends PP 0 (start PP 134 [(Prog.av p),(Node.av x)]).as (.ret (bV y0)) (hpOf [] 0) :=
 wE 2 [] [qp h0,qp h1,qp h2,qp h3] [rn 18,bf 7,rn 6,bf 12,rn 6,bt 17,rn 5,pB y0,rn 3] trivial
theorem bNumber_E_3 (p:Prog)(x:Node)(y0:Bool)(h0: (x.op== (1:Int)) =false)(h1: (x.op== (2:Int)) =false)(h2: (x.op== (24:Int)) =false)(h3: (x.op== (4:Int)) =true)(h4: (IntKind.i64.wrap (0- (p.funs.length:Int))) = (0- (p.funs.length:Int)))(h5:Pure PP 65 [(nI x.n),(nI (0- (p.funs.length:Int))),(nI 29)] (bV y0)) :
  Ends PP 0 (start PP 134 [(Prog.av p),(Node.av x)]).as (.ret (bV y0)) (hpOf [] 0) :=
 wE 2 [] [qp h0,qp h1,qp h2,qp h3,ql avI p.funs,qp (congrArg (AV.int .i64) h4),qp h5] [rn 18,bf 7,rn 6,bf 12,rn 6,bf 17,rn 6,bt 22,rn 8,aL p.funs,rn 1,sI 30 (0- (p.funs.length:Int)),pB y0,rn 3] trivial
theorem bNumber_E_4 (p:Prog)(x:Node)(h0: (x.op== (1:Int)) =false)(h1: (x.op== (2:Int)) =false)(h2: (x.op== (24:Int)) =false)(h3: (x.op== (4:Int)) =false)(h4: (x.op== (14:Int)) =true) :
  Ends PP 0 (start PP 134 [(Prog.av p),(Node.av x)]).as (.ret (bV true)) (hpOf [] 0) :=
 wE 2 [] [qp h0,qp h1,qp h2,qp h3,qp h4] [rn 18,bf 7,rn 6,bf 12,rn 6,bf 17,rn 6,bf 22,rn 6,bt 32,rn 6] trivial
theorem bNumber_E_5 (p:Prog)(x:Node)(h0: (x.op== (1:Int)) =false)(h1: (x.op== (2:Int)) =false)(h2: (x.op== (24:Int)) =false)(h3: (x.op== (4:Int)) =false)(h4: (x.op== (14:Int)) =false) :
  Ends PP 0 (start PP 134 [(Prog.av p),(Node.av x)]).as (.ret (bV (x.n== (0:Int)))) (hpOf [] 0) :=
 wE 2 [] [qp h0,qp h1,qp h2,qp h3,qp h4] [rn 18,bf 7,rn 6,bf 12,rn 6,bf 17,rn 6,bf 22,rn 6,bf 32,rn 11] trivial
noncomputable def bSize_c0 (p_form p_n:Int)(p_text:Str)(p_parts:List Pat)(most n5 t11:Int) :TS:=
 {fr:={fn:=132,nt:=27,sl:=[(1,(nI most)),(4,(nI 0)),(5,(nI n5)),(9,(iP p_parts)),(10,(nI (p_parts.length:Int))),(11,(nI t11))],todo:=[.code (cd Tryz.f132 [1,1,0,1,0,0]),.inLoop (cd Tryz.f132 [1,1,0,1,0,0]),.inBlock 0,.code (cd Tryz.f132 [1,1,1])]},cs:=[],hp:=[],nb:=0}
theorem bSize_E_0 (p_form p_n:Int)(p_text:Str)(p_parts:List Pat)(most:Int) :
  LeadsM PP 0 (start PP 132 [(.agg [(nI p_form),(nI p_n),(avS p_text),(iP p_parts)]),(nI most)]).as (bSize_c0 p_form p_n p_text p_parts most 1 0).as:=
 wW 1 [] [qlP p_parts] [rn 14,aL p_parts,rn 4] trivial
theorem bSize_0_0 (p_form p_n:Int)(p_text:Str)(p_parts:List Pat)(most n5:Int)(t11 y_form0 y_n1:Int)(y_text2:Str)(y_parts3:List Pat)(h0:decide (t11< (p_parts.length:Int)) =true)(h1:0≤t11)(h2: ((p_parts)[t11.toNat]?) =some (Pat.mk y_form0 y_n1 y_text2 y_parts3))(h3:decide (n5>most) =true) :
  Ends PP 0 (bSize_c0 p_form p_n p_text p_parts most n5 t11).as (.ret (nI n5)) (hpOf [] 0) :=
 wE 1 [] [qp h0,qp h1,qgP h2,qp h3] [rn 5,bt 12,rn 6,aI (Pat.av (Pat.mk y_form0 y_n1 y_text2 y_parts3)),rn 11,bt 17,rn 8] trivial
theorem bSize_0_1 (p_form p_n:Int)(p_text:Str)(p_parts:List Pat)(most n5:Int)(t11 y_form0 y_n1:Int)(y_text2:Str)(y_parts3:List Pat)(y4:Int)(h0:decide (t11< (p_parts.length:Int)) =true)(h1:0≤t11)(h2: ((p_parts)[t11.toNat]?) =some (Pat.mk y_form0 y_n1 y_text2 y_parts3))(h3:decide (n5>most) =false)(h4: (IntKind.i64.wrap (most-n5)) = (most-n5))(h5:Pure PP 132 [(.agg [(nI y_form0),(nI y_n1),(avS y_text2),(iP y_parts3)]),(nI (most-n5))] (nI y4))(h6: (IntKind.i64.wrap (n5+y4)) = (n5+y4))(h7: (IntKind.i64.wrap (t11+ (1:Int))) = (t11+ (1:Int))) :
  LeadsM PP 0 (bSize_c0 p_form p_n p_text p_parts most n5 t11).as (bSize_c0 p_form p_n p_text p_parts most (n5+y4) (t11+ (1:Int))).as:=
 wW 1 [] [qp h0,qp h1,qgP h2,qp h3,qp (congrArg (AV.int .i64) h4),qp h5,qp (congrArg (AV.int .i64) h6),qp (congrArg (AV.int .i64) h7)] [rn 5,bt 12,rn 6,aI (Pat.av (Pat.mk y_form0 y_n1 y_text2 y_parts3)),rn 11,bf 17,rn 8,sI 22 (most-n5),.pure (nI y4),rn 1,sI 24 (n5+y4),rn 5,sI 25 (t11+ (1:Int)),rn 3] trivial
theorem bSize_0_2 (p_form p_n:Int)(p_text:Str)(p_parts:List Pat)(most n5 t11:Int)(h0:decide (t11< (p_parts.length:Int)) =false) :
  Ends PP 0 (bSize_c0 p_form p_n p_text p_parts most n5 t11).as (.ret (nI n5)) (hpOf [] 0) :=
 wE 0 [] [qp h0] [rn 5,bf 12,rn 8] trivial
theorem bPat_E_0 (p:Prog)(q_form q_n:Int)(q_text:Str)(q_parts:List Pat)(h0: (!(strEq q_text.length (bytesNat q_text) 0 0)) =true) :
  Ends PP 0 (start PP 133 [(Prog.av p),(.agg [(nI q_form),(nI q_n),(avS q_text),(iP q_parts)])]).as (.ret (bV false)) (hpOf [] 0) :=
 wE 2 [] [qp h0] [rn 13,bt 8,rn 14] trivial
theorem bPat_E_1 (p:Prog)(q_form q_n:Int)(q_text:Str)(q_parts:List Pat)(y0:Bool)(h0: (!(strEq q_text.length (bytesNat q_text) 0 0)) =false)(h1:Pure PP 135 [(iP q_parts),(.func 133 [(Prog.av p)] [])] (bV y0))(h2: (!y0) =true) :
  Ends PP 0 (start PP 133 [(Prog.av p),(.agg [(nI q_form),(nI q_n),(avS q_text),(iP q_parts)])]).as (.ret (bV false)) (hpOf [] 0) :=
 wE 2 [] [qp h0,qp h1,qp h2] [rn 13,bf 8,rn 4,pB y0,rn 3,bt 15,rn 6] trivial
theorem bPat_E_2 (p:Prog)(q_form q_n:Int)(q_text:Str)(q_parts:List Pat)(y0:Bool)(h0: (!(strEq q_text.length (bytesNat q_text) 0 0)) =false)(h1:Pure PP 135 [(iP q_parts),(.func 133 [(Prog.av p)] [])] (bV y0))(h2: (!y0) =false)(h3: (q_form== (1:Int)) =true)(h4: (q_n== (0:Int)) =true) :
  Ends PP 0 (start PP 133 [(Prog.av p),(.agg [(nI q_form),(nI q_n),(avS q_text),(iP q_parts)])]).as (.ret (bV ((q_parts.length:Int) == (0:Int)))) (hpOf [] 0) :=
 wE 2 [] [qp h0,qp h1,qp h2,qp h3,qp h4,qlP q_parts] [rn 13,bf 8,rn 4,pB y0,rn 3,bf 15,rn 15,bt 18,rn 9,bt 25,rn 2,aL q_parts,rn 5] trivial
theorem bPat_E_3 (p:Prog)(q_form q_n:Int)(q_text:Str)(q_parts:List Pat)(y0:Bool)(h0: (!(strEq q_text.length (bytesNat q_text) 0 0)) =false)(h1:Pure PP 135 [(iP q_parts),(.func 133 [(Prog.av p)] [])] (bV y0))(h2: (!y0) =false)(h3: (q_form== (1:Int)) =true)(h4: (q_n== (0:Int)) =false) :
  Ends PP 0 (start PP 133 [(Prog.av p),(.agg [(nI q_form),(nI q_n),(avS q_text),(iP q_parts)])]).as (.ret (bV false)) (hpOf [] 0) :=
 wE 2 [] [qp h0,qp h1,qp h2,qp h3,qp h4] [rn 13,bf 8,rn 4,pB y0,rn 3,bf 15,rn 15,bt 18,rn 9,bf 25,rn 8] trivial
theorem bPat_E_4 (p:Prog)(q_form q_n:Int)(q_text:Str)(q_parts:List Pat)(y0:Bool)(h0: (!(strEq q_text.length (bytesNat q_text) 0 0)) =false)(h1:Pure PP 135 [(iP q_parts),(.func 133 [(Prog.av p)] [])] (bV y0))(h2: (!y0) =false)(h3: (q_form== (1:Int)) =false)(h4: (q_form== (2:Int)) =true)(h5: (q_n== (0:Int)) =true) :
  Ends PP 0 (start PP 133 [(Prog.av p),(.agg [(nI q_form),(nI q_n),(avS q_text),(iP q_parts)])]).as (.ret (bV ((q_parts.length:Int) == (0:Int)))) (hpOf [] 0) :=
 wE 2 [] [qp h0,qp h1,qp h2,qp h3,qp h4,qp h5,qlP q_parts] [rn 13,bf 8,rn 4,pB y0,rn 3,bf 15,rn 15,bf 18,rn 6,bt 18,rn 9,bt 25,rn 2,aL q_parts,rn 5] trivial
theorem bPat_E_5 (p:Prog)(q_form q_n:Int)(q_text:Str)(q_parts:List Pat)(y0:Bool)(h0: (!(strEq q_text.length (bytesNat q_text) 0 0)) =false)(h1:Pure PP 135 [(iP q_parts),(.func 133 [(Prog.av p)] [])] (bV y0))(h2: (!y0) =false)(h3: (q_form== (1:Int)) =false)(h4: (q_form== (2:Int)) =true)(h5: (q_n== (0:Int)) =false) :
  Ends PP 0 (start PP 133 [(Prog.av p),(.agg [(nI q_form),(nI q_n),(avS q_text),(iP q_parts)])]).as (.ret (bV false)) (hpOf [] 0) :=
 wE 2 [] [qp h0,qp h1,qp h2,qp h3,qp h4,qp h5] [rn 13,bf 8,rn 4,pB y0,rn 3,bf 15,rn 15,bf 18,rn 6,bt 18,rn 9,bf 25,rn 8] trivial
theorem bPat_E_6 (p:Prog)(q_form q_n:Int)(q_text:Str)(q_parts:List Pat)(y0:Bool)(h0: (!(strEq q_text.length (bytesNat q_text) 0 0)) =false)(h1:Pure PP 135 [(iP q_parts),(.func 133 [(Prog.av p)] [])] (bV y0))(h2: (!y0) =false)(h3: (q_form== (1:Int)) =false)(h4: (q_form== (2:Int)) =false)(h5: (q_form== (5:Int)) =true)(h6: (q_n== (0:Int)) =true) :
  Ends PP 0 (start PP 133 [(Prog.av p),(.agg [(nI q_form),(nI q_n),(avS q_text),(iP q_parts)])]).as (.ret (bV ((q_parts.length:Int) == (0:Int)))) (hpOf [] 0) :=
 wE 2 [] [qp h0,qp h1,qp h2,qp h3,qp h4,qp h5,qp h6,qlP q_parts] [rn 13,bf 8,rn 4,pB y0,rn 3,bf 15,rn 15,bf 18,rn 6,bf 18,rn 5,bt 18,rn 7,bt 25,rn 2,aL q_parts,rn 5] trivial
theorem bPat_E_7 (p:Prog)(q_form q_n:Int)(q_text:Str)(q_parts:List Pat)(y0:Bool)(h0: (!(strEq q_text.length (bytesNat q_text) 0 0)) =false)(h1:Pure PP 135 [(iP q_parts),(.func 133 [(Prog.av p)] [])] (bV y0))(h2: (!y0) =false)(h3: (q_form== (1:Int)) =false)(h4: (q_form== (2:Int)) =false)(h5: (q_form== (5:Int)) =true)(h6: (q_n== (0:Int)) =false) :
  Ends PP 0 (start PP 133 [(Prog.av p),(.agg [(nI q_form),(nI q_n),(avS q_text),(iP q_parts)])]).as (.ret (bV false)) (hpOf [] 0) :=
 wE 2 [] [qp h0,qp h1,qp h2,qp h3,qp h4,qp h5,qp h6] [rn 13,bf 8,rn 4,pB y0,rn 3,bf 15,rn 15,bf 18,rn 6,bf 18,rn 5,bt 18,rn 7,bf 25,rn 8] trivial
theorem bPat_E_8 (p:Prog)(q_form q_n:Int)(q_text:Str)(q_parts:List Pat)(y0 y1:Bool)(h0: (!(strEq q_text.length (bytesNat q_text) 0 0)) =false)(h1:Pure PP 135 [(iP q_parts),(.func 133 [(Prog.av p)] [])] (bV y0))(h2: (!y0) =false)(h3: (q_form== (1:Int)) =false)(h4: (q_form== (2:Int)) =false)(h5: (q_form== (5:Int)) =false)(h6: (q_form== (3:Int)) =true)(h7:Pure PP 180 [(nI q_n)] (bV y1))(h8:y1=true) :
  Ends PP 0 (start PP 133 [(Prog.av p),(.agg [(nI q_form),(nI q_n),(avS q_text),(iP q_parts)])]).as (.ret (bV ((q_parts.length:Int) == (0:Int)))) (hpOf [] 0) :=
 wE 2 [] [qp h0,qp h1,qp h2,qp h3,qp h4,qp h5,qp h6,qp h7,qp h8,qlP q_parts] [rn 13,bf 8,rn 4,pB y0,rn 3,bf 15,rn 15,bf 18,rn 6,bf 18,rn 5,bf 18,rn 6,bt 31,rn 5,pB y1,rn 1,bt 36,rn 2,aL q_parts,rn 5] trivial
theorem bPat_E_9 (p:Prog)(q_form q_n:Int)(q_text:Str)(q_parts:List Pat)(y0 y1:Bool)(h0: (!(strEq q_text.length (bytesNat q_text) 0 0)) =false)(h1:Pure PP 135 [(iP q_parts),(.func 133 [(Prog.av p)] [])] (bV y0))(h2: (!y0) =false)(h3: (q_form== (1:Int)) =false)(h4: (q_form== (2:Int)) =false)(h5: (q_form== (5:Int)) =false)(h6: (q_form== (3:Int)) =true)(h7:Pure PP 180 [(nI q_n)] (bV y1))(h8:y1=false) :
  Ends PP 0 (start PP 133 [(Prog.av p),(.agg [(nI q_form),(nI q_n),(avS q_text),(iP q_parts)])]).as (.ret (bV false)) (hpOf [] 0) :=
 wE 2 [] [qp h0,qp h1,qp h2,qp h3,qp h4,qp h5,qp h6,qp h7,qp h8] [rn 13,bf 8,rn 4,pB y0,rn 3,bf 15,rn 15,bf 18,rn 6,bf 18,rn 5,bf 18,rn 6,bt 31,rn 5,pB y1,rn 1,bf 36,rn 8] trivial
theorem bPat_E_10 (p:Prog)(q_form q_n:Int)(q_text:Str)(q_parts:List Pat)(y0 y1:Bool)(h0: (!(strEq q_text.length (bytesNat q_text) 0 0)) =false)(h1:Pure PP 135 [(iP q_parts),(.func 133 [(Prog.av p)] [])] (bV y0))(h2: (!y0) =false)(h3: (q_form== (1:Int)) =false)(h4: (q_form== (2:Int)) =false)(h5: (q_form== (5:Int)) =false)(h6: (q_form== (3:Int)) =false)(h7: (q_form== (4:Int)) =true)(h8:Pure PP 65 [(nI q_n),(nI 0),(nI 1)] (bV y1))(h9:y1=true) :
  Ends PP 0 (start PP 133 [(Prog.av p),(.agg [(nI q_form),(nI q_n),(avS q_text),(iP q_parts)])]).as (.ret (bV ((q_parts.length:Int) == (0:Int)))) (hpOf [] 0) :=
 wE 2 [] [qp h0,qp h1,qp h2,qp h3,qp h4,qp h5,qp h6,qp h7,qp h8,qp h9,qlP q_parts] [rn 13,bf 8,rn 4,pB y0,rn 3,bf 15,rn 15,bf 18,rn 6,bf 18,rn 5,bf 18,rn 6,bf 31,rn 6,bt 42,rn 5,pB y1,rn 1,bt 47,rn 2,aL q_parts,rn 5] trivial
theorem bPat_E_11 (p:Prog)(q_form q_n:Int)(q_text:Str)(q_parts:List Pat)(y0 y1:Bool)(h0: (!(strEq q_text.length (bytesNat q_text) 0 0)) =false)(h1:Pure PP 135 [(iP q_parts),(.func 133 [(Prog.av p)] [])] (bV y0))(h2: (!y0) =false)(h3: (q_form== (1:Int)) =false)(h4: (q_form== (2:Int)) =false)(h5: (q_form== (5:Int)) =false)(h6: (q_form== (3:Int)) =false)(h7: (q_form== (4:Int)) =true)(h8:Pure PP 65 [(nI q_n),(nI 0),(nI 1)] (bV y1))(h9:y1=false) :
  Ends PP 0 (start PP 133 [(Prog.av p),(.agg [(nI q_form),(nI q_n),(avS q_text),(iP q_parts)])]).as (.ret (bV false)) (hpOf [] 0) :=
 wE 2 [] [qp h0,qp h1,qp h2,qp h3,qp h4,qp h5,qp h6,qp h7,qp h8,qp h9] [rn 13,bf 8,rn 4,pB y0,rn 3,bf 15,rn 15,bf 18,rn 6,bf 18,rn 5,bf 18,rn 6,bf 31,rn 6,bt 42,rn 5,pB y1,rn 1,bf 47,rn 8] trivial
theorem bPat_E_12 (p:Prog)(q_form q_n:Int)(q_text:Str)(q_parts:List Pat)(y0 y1:Bool)(y2:Con)(h0: (!(strEq q_text.length (bytesNat q_text) 0 0)) =false)(h1:Pure PP 135 [(iP q_parts),(.func 133 [(Prog.av p)] [])] (bV y0))(h2: (!y0) =false)(h3: (q_form== (1:Int)) =false)(h4: (q_form== (2:Int)) =false)(h5: (q_form== (5:Int)) =false)(h6: (q_form== (3:Int)) =false)(h7: (q_form== (4:Int)) =false)(h8: (q_form== (6:Int)) =true)(h9:Pure PP 65 [(nI q_n),(nI 0),(nI (IntKind.i64.wrap ((p.cons.length:Int) - (1:Int))))] (bV y1))(h10:y1=true)(h11:0≤q_n)(h12: ((p.cons)[q_n.toNat]?) =some y2) :
  Ends PP 0 (start PP 133 [(Prog.av p),(.agg [(nI q_form),(nI q_n),(avS q_text),(iP q_parts)])]).as (.ret (bV ((q_parts.length:Int) ==y2.args))) (hpOf [] 0) :=
 wE 2 [] [qp h0,qp h1,qp h2,qp h3,qp h4,qp h5,qp h6,qp h7,qp h8,ql Con.av p.cons,qp h9,qp h10,qlP q_parts,qp h11,qg Con.av h12] [rn 13,bf 8,rn 4,pB y0,rn 3,bf 15,rn 15,bf 18,rn 6,bf 18,rn 5,bf 18,rn 6,bf 31,rn 6,bf 42,rn 6,bt 53,rn 2,.reg [.d,.d,.d,.d,.d,.ans (.len (p.cons.length:Int)),.d,.pure (bV y1),.d,.b 63 true,.d,.d,.ans (.len (q_parts.length:Int)),.d,.d,.d,.d,.d,.ans (.idx (Con.av y2)),.d,.d,.d,.d,.d],rn 1] trivial
theorem bPat_E_13 (p:Prog)(q_form q_n:Int)(q_text:Str)(q_parts:List Pat)(y0 y1:Bool)(h0: (!(strEq q_text.length (bytesNat q_text) 0 0)) =false)(h1:Pure PP 135 [(iP q_parts),(.func 133 [(Prog.av p)] [])] (bV y0))(h2: (!y0) =false)(h3: (q_form== (1:Int)) =false)(h4: (q_form== (2:Int)) =false)(h5: (q_form== (5:Int)) =false)(h6: (q_form== (3:Int)) =false)(h7: (q_form== (4:Int)) =false)(h8: (q_form== (6:Int)) =true)(h9:Pure PP 65 [(nI q_n),(nI 0),(nI (IntKind.i64.wrap ((p.cons.length:Int) - (1:Int))))] (bV y1))(h10:y1=false) :
  Ends PP 0 (start PP 133 [(Prog.av p),(.agg [(nI q_form),(nI q_n),(avS q_text),(iP q_parts)])]).as (.ret (bV false)) (hpOf [] 0) :=
 wE 2 [] [qp h0,qp h1,qp h2,qp h3,qp h4,qp h5,qp h6,qp h7,qp h8,ql Con.av p.cons,qp h9,qp h10] [rn 13,bf 8,rn 4,pB y0,rn 3,bf 15,rn 15,bf 18,rn 6,bf 18,rn 5,bf 18,rn 6,bf 31,rn 6,bf 42,rn 6,bt 53,rn 2,.reg [.d,.d,.d,.d,.d,.ans (.len (p.cons.length:Int)),.d,.pure (bV y1),.d,.b 63 false,.d,.d,.d,.d,.d,.d,.d,.d,.d,.d,.d,.d,.d,.d],rn 1] trivial
theorem bPat_E_14 (p:Prog)(q_form q_n:Int)(q_text:Str)(q_parts:List Pat)(y0:Bool)(h0: (!(strEq q_text.length (bytesNat q_text) 0 0)) =false)(h1:Pure PP 135 [(iP q_parts),(.func 133 [(Prog.av p)] [])] (bV y0))(h2: (!y0) =false)(h3: (q_form== (1:Int)) =false)(h4: (q_form== (2:Int)) =false)(h5: (q_form== (5:Int)) =false)(h6: (q_form== (3:Int)) =false)(h7: (q_form== (4:Int)) =false)(h8: (q_form== (6:Int)) =false) :
  Ends PP 0 (start PP 133 [(Prog.av p),(.agg [(nI q_form),(nI q_n),(avS q_text),(iP q_parts)])]).as (.ret (bV false)) (hpOf [] 0) :=
 wE 2 [] [qp h0,qp h1,qp h2,qp h3,qp h4,qp h5,qp h6,qp h7,qp h8] [rn 13,bf 8,rn 4,pB y0,rn 3,bf 15,rn 15,bf 18,rn 6,bf 18,rn 5,bf 18,rn 6,bf 31,rn 6,bf 42,rn 6,bf 53,rn 8] trivial
theorem bKidsOf_E_0 (op:Int)(h0: (op== (1:Int)) =true) :
  Ends PP 0 (start PP 130 [(nI op)]).as (.ret (.iface 231 (nI 0))) (hpOf [] 0) :=
 wE 0 [] [qp h0] [rn 16,bt 4,rn 9] trivial
theorem bKidsOf_E_1 (op:Int)(h0: (op== (1:Int)) =false)(h1: (op== (2:Int)) =true) :
  Ends PP 0 (start PP 130 [(nI op)]).as (.ret (.iface 231 (nI 0))) (hpOf [] 0) :=
 wE 0 [] [qp h0,qp h1] [rn 16,bf 4,rn 6,bt 4,rn 9] trivial
theorem bKidsOf_E_2 (op:Int)(h0: (op== (1:Int)) =false)(h1: (op== (2:Int)) =false)(h2: (op== (3:Int)) =true) :
  Ends PP 0 (start PP 130 [(nI op)]).as (.ret (.iface 231 (nI 0))) (hpOf [] 0) :=
 wE 0 [] [qp h0,qp h1,qp h2] [rn 16,bf 4,rn 6,bf 4,rn 6,bt 4,rn 9] trivial
theorem bKidsOf_E_3 (op:Int)(h0: (op== (1:Int)) =false)(h1: (op== (2:Int)) =false)(h2: (op== (3:Int)) =false)(h3: (op== (4:Int)) =true) :
  Ends PP 0 (start PP 130 [(nI op)]).as (.ret (.iface 231 (nI 0))) (hpOf [] 0) :=
 wE 0 [] [qp h0,qp h1,qp h2,qp h3] [rn 16,bf 4,rn 6,bf 4,rn 6,bf 4,rn 6,bt 4,rn 9] trivial
theorem bKidsOf_E_4 (op:Int)(h0: (op== (1:Int)) =false)(h1: (op== (2:Int)) =false)(h2: (op== (3:Int)) =false)(h3: (op== (4:Int)) =false)(h4: (op== (21:Int)) =true) :
  Ends PP 0 (start PP 130 [(nI op)]).as (.ret (.iface 231 (nI 0))) (hpOf [] 0) :=
 wE 0 [] [qp h0,qp h1,qp h2,qp h3,qp h4] [rn 16,bf 4,rn 6,bf 4,rn 6,bf 4,rn 6,bf 4,rn 6,bt 4,rn 9] trivial
theorem bKidsOf_E_5 (op:Int)(h0: (op== (1:Int)) =false)(h1: (op== (2:Int)) =false)(h2: (op== (3:Int)) =false)(h3: (op== (4:Int)) =false)(h4: (op== (21:Int)) =false)(h5: (op== (25:Int)) =true) :
  Ends PP 0 (start PP 130 [(nI op)]).as (.ret (.iface 231 (nI 0))) (hpOf [] 0) :=
 wE 0 [] [qp h0,qp h1,qp h2,qp h3,qp h4,qp h5] [rn 16,bf 4,rn 6,bf 4,rn 6,bf 4,rn 6,bf 4,rn 6,bf 4,rn 6,bt 4,rn 9] trivial
theorem bKidsOf_E_6 (op:Int)(h0: (op== (1:Int)) =false)(h1: (op== (2:Int)) =false)(h2: (op== (3:Int)) =false)(h3: (op== (4:Int)) =false)(h4: (op== (21:Int)) =false)(h5: (op== (25:Int)) =false)(h6: (op== (28:Int)) =true) :
  Ends PP 0 (start PP 130 [(nI op)]).as (.ret (.iface 231 (nI 0))) (hpOf [] 0) :=
 wE 0 [] [qp h0,qp h1,qp h2,qp h3,qp h4,qp h5,qp h6] [rn 16,bf 4,rn 6,bf 4,rn 6,bf 4,rn 6,bf 4,rn 6,bf 4,rn 6,bf 4,rn 5,bt 4,rn 7] trivial
theorem bKidsOf_E_7 (op:Int)(h0: (op== (1:Int)) =false)(h1: (op== (2:Int)) =false)(h2: (op== (3:Int)) =false)(h3: (op== (4:Int)) =false)(h4: (op== (21:Int)) =false)(h5: (op== (25:Int)) =false)(h6: (op== (28:Int)) =false)(h7: (op== (5:Int)) =true) :
  Ends PP 0 (start PP 130 [(nI op)]).as (.ret (.iface 231 (nI 1))) (hpOf [] 0) :=
 wE 0 [] [qp h0,qp h1,qp h2,qp h3,qp h4,qp h5,qp h6,qp h7] [rn 16,bf 4,rn 6,bf 4,rn 6,bf 4,rn 6,bf 4,rn 6,bf 4,rn 6,bf 4,rn 5,bf 4,rn 7,bt 13,rn 9] trivial
theorem bKidsOf_E_8 (op:Int)(h0: (op== (1:Int)) =false)(h1: (op== (2:Int)) =false)(h2: (op== (3:Int)) =false)(h3: (op== (4:Int)) =false)(h4: (op== (21:Int)) =false)(h5: (op== (25:Int)) =false)(h6: (op== (28:Int)) =false)(h7: (op== (5:Int)) =false)(h8: (op== (27:Int)) =true) :
  Ends PP 0 (start PP 130 [(nI op)]).as (.ret (.iface 231 (nI 1))) (hpOf [] 0) :=
 wE 0 [] [qp h0,qp h1,qp h2,qp h3,qp h4,qp h5,qp h6,qp h7,qp h8] [rn 16,bf 4,rn 6,bf 4,rn 6,bf 4,rn 6,bf 4,rn 6,bf 4,rn 6,bf 4,rn 5,bf 4,rn 7,bf 13,rn 6,bt 13,rn 9] trivial
theorem bKidsOf_E_9 (op:Int)(h0: (op== (1:Int)) =false)(h1: (op== (2:Int)) =false)(h2: (op== (3:Int)) =false)(h3: (op== (4:Int)) =false)(h4: (op== (21:Int)) =false)(h5: (op== (25:Int)) =false)(h6: (op== (28:Int)) =false)(h7: (op== (5:Int)) =false)(h8: (op== (27:Int)) =false)(h9: (op== (16:Int)) =true) :
  Ends PP 0 (start PP 130 [(nI op)]).as (.ret (.iface 231 (nI 1))) (hpOf [] 0) :=
 wE 0 [] [qp h0,qp h1,qp h2,qp h3,qp h4,qp h5,qp h6,qp h7,qp h8,qp h9] [rn 16,bf 4,rn 6,bf 4,rn 6,bf 4,rn 6,bf 4,rn 6,bf 4,rn 6,bf 4,rn 5,bf 4,rn 7,bf 13,rn 6,bf 13,rn 6,bt 13,rn 9] trivial
theorem bKidsOf_E_10 (op:Int)(h0: (op== (1:Int)) =false)(h1: (op== (2:Int)) =false)(h2: (op== (3:Int)) =false)(h3: (op== (4:Int)) =false)(h4: (op== (21:Int)) =false)(h5: (op== (25:Int)) =false)(h6: (op== (28:Int)) =false)(h7: (op== (5:Int)) =false)(h8: (op== (27:Int)) =false)(h9: (op== (16:Int)) =false)(h10: (op== (17:Int)) =true) :
  Ends PP 0 (start PP 130 [(nI op)]).as (.ret (.iface 231 (nI 1))) (hpOf [] 0) :=
 wE 0 [] [qp h0,qp h1,qp h2,qp h3,qp h4,qp h5,qp h6,qp h7,qp h8,qp h9,qp h10] [rn 16,bf 4,rn 6,bf 4,rn 6,bf 4,rn 6,bf 4,rn 6,bf 4,rn 6,bf 4,rn 5,bf 4,rn 7,bf 13,rn 6,bf 13,rn 6,bf 13,rn 6,bt 13,rn 9] trivial
theorem bKidsOf_E_11 (op:Int)(h0: (op== (1:Int)) =false)(h1: (op== (2:Int)) =false)(h2: (op== (3:Int)) =false)(h3: (op== (4:Int)) =false)(h4: (op== (21:Int)) =false)(h5: (op== (25:Int)) =false)(h6: (op== (28:Int)) =false)(h7: (op== (5:Int)) =false)(h8: (op== (27:Int)) =false)(h9: (op== (16:Int)) =false)(h10: (op== (17:Int)) =false)(h11: (op== (19:Int)) =true) :
  Ends PP 0 (start PP 130 [(nI op)]).as (.ret (.iface 231 (nI 1))) (hpOf [] 0) :=
 wE 0 [] [qp h0,qp h1,qp h2,qp h3,qp h4,qp h5,qp h6,qp h7,qp h8,qp h9,qp h10,qp h11] [rn 16,bf 4,rn 6,bf 4,rn 6,bf 4,rn 6,bf 4,rn 6,bf 4,rn 6,bf 4,rn 5,bf 4,rn 7,bf 13,rn 6,bf 13,rn 6,bf 13,rn 6,bf 13,rn 6,bt 13,rn 9] trivial
theorem bKidsOf_E_12 (op:Int)(h0: (op== (1:Int)) =false)(h1: (op== (2:Int)) =false)(h2: (op== (3:Int)) =false)(h3: (op== (4:Int)) =false)(h4: (op== (21:Int)) =false)(h5: (op== (25:Int)) =false)(h6: (op== (28:Int)) =false)(h7: (op== (5:Int)) =false)(h8: (op== (27:Int)) =false)(h9: (op== (16:Int)) =false)(h10: (op== (17:Int)) =false)(h11: (op== (19:Int)) =false)(h12: (op== (20:Int)) =true) :
  Ends PP 0 (start PP 130 [(nI op)]).as (.ret (.iface 231 (nI 1))) (hpOf [] 0) :=
 wE 0 [] [qp h0,qp h1,qp h2,qp h3,qp h4,qp h5,qp h6,qp h7,qp h8,qp h9,qp h10,qp h11,qp h12] [rn 16,bf 4,rn 6,bf 4,rn 6,bf 4,rn 6,bf 4,rn 6,bf 4,rn 6,bf 4,rn 5,bf 4,rn 7,bf 13,rn 6,bf 13,rn 6,bf 13,rn 6,bf 13,rn 6,bf 13,rn 6,bt 13,rn 9] trivial
theorem bKidsOf_E_13 (op:Int)(h0: (op== (1:Int)) =false)(h1: (op== (2:Int)) =false)(h2: (op== (3:Int)) =false)(h3: (op== (4:Int)) =false)(h4: (op== (21:Int)) =false)(h5: (op== (25:Int)) =false)(h6: (op== (28:Int)) =false)(h7: (op== (5:Int)) =false)(h8: (op== (27:Int)) =false)(h9: (op== (16:Int)) =false)(h10: (op== (17:Int)) =false)(h11: (op== (19:Int)) =false)(h12: (op== (20:Int)) =false)(h13: (op== (23:Int)) =true) :
  Ends PP 0 (start PP 130 [(nI op)]).as (.ret (.iface 231 (nI 1))) (hpOf [] 0) :=
 wE 0 [] [qp h0,qp h1,qp h2,qp h3,qp h4,qp h5,qp h6,qp h7,qp h8,qp h9,qp h10,qp h11,qp h12,qp h13] [rn 16,bf 4,rn 6,bf 4,rn 6,bf 4,rn 6,bf 4,rn 6,bf 4,rn 6,bf 4,rn 5,bf 4,rn 7,bf 13,rn 6,bf 13,rn 6,bf 13,rn 6,bf 13,rn 6,bf 13,rn 6,bf 13,rn 6,bt 13,rn 9] trivial
theorem bKidsOf_E_14 (op:Int)(h0: (op== (1:Int)) =false)(h1: (op== (2:Int)) =false)(h2: (op== (3:Int)) =false)(h3: (op== (4:Int)) =false)(h4: (op== (21:Int)) =false)(h5: (op== (25:Int)) =false)(h6: (op== (28:Int)) =false)(h7: (op== (5:Int)) =false)(h8: (op== (27:Int)) =false)(h9: (op== (16:Int)) =false)(h10: (op== (17:Int)) =false)(h11: (op== (19:Int)) =false)(h12: (op== (20:Int)) =false)(h13: (op== (23:Int)) =false)(h14: (op== (24:Int)) =true) :
  Ends PP 0 (start PP 130 [(nI op)]).as (.ret (.iface 231 (nI 1))) (hpOf [] 0) :=
 wE 0 [] [qp h0,qp h1,qp h2,qp h3,qp h4,qp h5,qp h6,qp h7,qp h8,qp h9,qp h10,qp h11,qp h12,qp h13,qp h14] [rn 16,bf 4,rn 6,bf 4,rn 6,bf 4,rn 6,bf 4,rn 6,bf 4,rn 6,bf 4,rn 5,bf 4,rn 7,bf 13,rn 6,bf 13,rn 6,bf 13,rn 6,bf 13,rn 6,bf 13,rn 6,bf 13,rn 6,bf 13,rn 6,bt 13,rn 9] trivial
theorem bKidsOf_E_15 (op:Int)(h0: (op== (1:Int)) =false)(h1: (op== (2:Int)) =false)(h2: (op== (3:Int)) =false)(h3: (op== (4:Int)) =false)(h4: (op== (21:Int)) =false)(h5: (op== (25:Int)) =false)(h6: (op== (28:Int)) =false)(h7: (op== (5:Int)) =false)(h8: (op== (27:Int)) =false)(h9: (op== (16:Int)) =false)(h10: (op== (17:Int)) =false)(h11: (op== (19:Int)) =false)(h12: (op== (20:Int)) =false)(h13: (op== (23:Int)) =false)(h14: (op== (24:Int)) =false)(h15: (op== (26:Int)) =true) :
  Ends PP 0 (start PP 130 [(nI op)]).as (.ret (.iface 231 (nI 1))) (hpOf [] 0) :=
 wE 0 [] [qp h0,qp h1,qp h2,qp h3,qp h4,qp h5,qp h6,qp h7,qp h8,qp h9,qp h10,qp h11,qp h12,qp h13,qp h14,qp h15] [rn 16,bf 4,rn 6,bf 4,rn 6,bf 4,rn 6,bf 4,rn 6,bf 4,rn 6,bf 4,rn 5,bf 4,rn 7,bf 13,rn 6,bf 13,rn 6,bf 13,rn 6,bf 13,rn 6,bf 13,rn 6,bf 13,rn 6,bf 13,rn 6,bf 13,rn 5,bt 13,rn 7] trivial
theorem bKidsOf_E_16 (op:Int)(h0: (op== (1:Int)) =false)(h1: (op== (2:Int)) =false)(h2: (op== (3:Int)) =false)(h3: (op== (4:Int)) =false)(h4: (op== (21:Int)) =false)(h5: (op== (25:Int)) =false)(h6: (op== (28:Int)) =false)(h7: (op== (5:Int)) =false)(h8: (op== (27:Int)) =false)(h9: (op== (16:Int)) =false)(h10: (op== (17:Int)) =false)(h11: (op== (19:Int)) =false)(h12: (op== (20:Int)) =false)(h13: (op== (23:Int)) =false)(h14: (op== (24:Int)) =false)(h15: (op== (26:Int)) =false)(h16: (op== (6:Int)) =true) :
  Ends PP 0 (start PP 130 [(nI op)]).as (.ret (.iface 231 (nI 2))) (hpOf [] 0) :=
 wE 0 [] [qp h0,qp h1,qp h2,qp h3,qp h4,qp h5,qp h6,qp h7,qp h8,qp h9,qp h10,qp h11,qp h12,qp h13,qp h14,qp h15,qp h16] [rn 16,bf 4,rn 6,bf 4,rn 6,bf 4,rn 6,bf 4,rn 6,bf 4,rn 6,bf 4,rn 5,bf 4,rn 7,bf 13,rn 6,bf 13,rn 6,bf 13,rn 6,bf 13,rn 6,bf 13,rn 6,bf 13,rn 6,bf 13,rn 6,bf 13,rn 5,bf 13,rn 7,bt 24,rn 9] trivial
theorem bKidsOf_E_17 (op:Int)(h0: (op== (1:Int)) =false)(h1: (op== (2:Int)) =false)(h2: (op== (3:Int)) =false)(h3: (op== (4:Int)) =false)(h4: (op== (21:Int)) =false)(h5: (op== (25:Int)) =false)(h6: (op== (28:Int)) =false)(h7: (op== (5:Int)) =false)(h8: (op== (27:Int)) =false)(h9: (op== (16:Int)) =false)(h10: (op== (17:Int)) =false)(h11: (op== (19:Int)) =false)(h12: (op== (20:Int)) =false)(h13: (op== (23:Int)) =false)(h14: (op== (24:Int)) =false)(h15: (op== (26:Int)) =false)(h16: (op== (6:Int)) =false)(h17: (op== (7:Int)) =true) :
  Ends PP 0 (start PP 130 [(nI op)]).as (.ret (.iface 231 (nI 2))) (hpOf [] 0) :=
 wE 0 [] [qp h0,qp h1,qp h2,qp h3,qp h4,qp h5,qp h6,qp h7,qp h8,qp h9,qp h10,qp h11,qp h12,qp h13,qp h14,qp h15,qp h16,qp h17] [rn 16,bf 4,rn 6,bf 4,rn 6,bf 4,rn 6,bf 4,rn 6,bf 4,rn 6,bf 4,rn 5,bf 4,rn 7,bf 13,rn 6,bf 13,rn 6,bf 13,rn 6,bf 13,rn 6,bf 13,rn 6,bf 13,rn 6,bf 13,rn 6,bf 13,rn 5,bf 13,rn 7,bf 24,rn 6,bt 24,rn 9] trivial
theorem bKidsOf_E_18 (op:Int)(h0: (op== (1:Int)) =false)(h1: (op== (2:Int)) =false)(h2: (op== (3:Int)) =false)(h3: (op== (4:Int)) =false)(h4: (op== (21:Int)) =false)(h5: (op== (25:Int)) =false)(h6: (op== (28:Int)) =false)(h7: (op== (5:Int)) =false)(h8: (op== (27:Int)) =false)(h9: (op== (16:Int)) =false)(h10: (op== (17:Int)) =false)(h11: (op== (19:Int)) =false)(h12: (op== (20:Int)) =false)(h13: (op== (23:Int)) =false)(h14: (op== (24:Int)) =false)(h15: (op== (26:Int)) =false)(h16: (op== (6:Int)) =false)(h17: (op== (7:Int)) =false)(h18: (op== (9:Int)) =true) :
  Ends PP 0 (start PP 130 [(nI op)]).as (.ret (.iface 231 (nI 2))) (hpOf [] 0) :=
 wE 0 [] [qp h0,qp h1,qp h2,qp h3,qp h4,qp h5,qp h6,qp h7,qp h8,qp h9,qp h10,qp h11,qp h12,qp h13,qp h14,qp h15,qp h16,qp h17,qp h18] [rn 16,bf 4,rn 6,bf 4,rn 6,bf 4,rn 6,bf 4,rn 6,bf 4,rn 6,bf 4,rn 5,bf 4,rn 7,bf 13,rn 6,bf 13,rn 6,bf 13,rn 6,bf 13,rn 6,bf 13,rn 6,bf 13,rn 6,bf 13,rn 6,bf 13,rn 5,bf 13,rn 7,bf 24,rn 6,bf 24,rn 6,bt 24,rn 9] trivial
theorem bKidsOf_E_19 (op:Int)(h0: (op== (1:Int)) =false)(h1: (op== (2:Int)) =false)(h2: (op== (3:Int)) =false)(h3: (op== (4:Int)) =false)(h4: (op== (21:Int)) =false)(h5: (op== (25:Int)) =false)(h6: (op== (28:Int)) =false)(h7: (op== (5:Int)) =false)(h8: (op== (27:Int)) =false)(h9: (op== (16:Int)) =false)(h10: (op== (17:Int)) =false)(h11: (op== (19:Int)) =false)(h12: (op== (20:Int)) =false)(h13: (op== (23:Int)) =false)(h14: (op== (24:Int)) =false)(h15: (op== (26:Int)) =false)(h16: (op== (6:Int)) =false)(h17: (op== (7:Int)) =false)(h18: (op== (9:Int)) =false)(h19: (op== (10:Int)) =true) :
  Ends PP 0 (start PP 130 [(nI op)]).as (.ret (.iface 231 (nI 2))) (hpOf [] 0) :=
 wE 0 [] [qp h0,qp h1,qp h2,qp h3,qp h4,qp h5,qp h6,qp h7,qp h8,qp h9,qp h10,qp h11,qp h12,qp h13,qp h14,qp h15,qp h16,qp h17,qp h18,qp h19] [rn 16,bf 4,rn 6,bf 4,rn 6,bf 4,rn 6,bf 4,rn 6,bf 4,rn 6,bf 4,rn 5,bf 4,rn 7,bf 13,rn 6,bf 13,rn 6,bf 13,rn 6,bf 13,rn 6,bf 13,rn 6,bf 13,rn 6,bf 13,rn 6,bf 13,rn 5,bf 13,rn 7,bf 24,rn 6,bf 24,rn 6,bf 24,rn 6,bt 24,rn 9] trivial
theorem bKidsOf_E_20 (op:Int)(h0: (op== (1:Int)) =false)(h1: (op== (2:Int)) =false)(h2: (op== (3:Int)) =false)(h3: (op== (4:Int)) =false)(h4: (op== (21:Int)) =false)(h5: (op== (25:Int)) =false)(h6: (op== (28:Int)) =false)(h7: (op== (5:Int)) =false)(h8: (op== (27:Int)) =false)(h9: (op== (16:Int)) =false)(h10: (op== (17:Int)) =false)(h11: (op== (19:Int)) =false)(h12: (op== (20:Int)) =false)(h13: (op== (23:Int)) =false)(h14: (op== (24:Int)) =false)(h15: (op== (26:Int)) =false)(h16: (op== (6:Int)) =false)(h17: (op== (7:Int)) =false)(h18: (op== (9:Int)) =false)(h19: (op== (10:Int)) =false)(h20: (op== (11:Int)) =true) :
  Ends PP 0 (start PP 130 [(nI op)]).as (.ret (.iface 231 (nI 2))) (hpOf [] 0) :=
 wE 0 [] [qp h0,qp h1,qp h2,qp h3,qp h4,qp h5,qp h6,qp h7,qp h8,qp h9,qp h10,qp h11,qp h12,qp h13,qp h14,qp h15,qp h16,qp h17,qp h18,qp h19,qp h20] [rn 16,bf 4,rn 6,bf 4,rn 6,bf 4,rn 6,bf 4,rn 6,bf 4,rn 6,bf 4,rn 5,bf 4,rn 7,bf 13,rn 6,bf 13,rn 6,bf 13,rn 6,bf 13,rn 6,bf 13,rn 6,bf 13,rn 6,bf 13,rn 6,bf 13,rn 5,bf 13,rn 7,bf 24,rn 6,bf 24,rn 6,bf 24,rn 6,bf 24,rn 6,bt 24,rn 9] trivial
theorem bKidsOf_E_21 (op:Int)(h0: (op== (1:Int)) =false)(h1: (op== (2:Int)) =false)(h2: (op== (3:Int)) =false)(h3: (op== (4:Int)) =false)(h4: (op== (21:Int)) =false)(h5: (op== (25:Int)) =false)(h6: (op== (28:Int)) =false)(h7: (op== (5:Int)) =false)(h8: (op== (27:Int)) =false)(h9: (op== (16:Int)) =false)(h10: (op== (17:Int)) =false)(h11: (op== (19:Int)) =false)(h12: (op== (20:Int)) =false)(h13: (op== (23:Int)) =false)(h14: (op== (24:Int)) =false)(h15: (op== (26:Int)) =false)(h16: (op== (6:Int)) =false)(h17: (op== (7:Int)) =false)(h18: (op== (9:Int)) =false)(h19: (op== (10:Int)) =false)(h20: (op== (11:Int)) =false)(h21: (op== (12:Int)) =true) :
  Ends PP 0 (start PP 130 [(nI op)]).as (.ret (.iface 231 (nI 2))) (hpOf [] 0) :=
 wE 0 [] [qp h0,qp h1,qp h2,qp h3,qp h4,qp h5,qp h6,qp h7,qp h8,qp h9,qp h10,qp h11,qp h12,qp h13,qp h14,qp h15,qp h16,qp h17,qp h18,qp h19,qp h20,qp h21] [rn 16,bf 4,rn 6,bf 4,rn 6,bf 4,rn 6,bf 4,rn 6,bf 4,rn 6,bf 4,rn 5,bf 4,rn 7,bf 13,rn 6,bf 13,rn 6,bf 13,rn 6,bf 13,rn 6,bf 13,rn 6,bf 13,rn 6,bf 13,rn 6,bf 13,rn 5,bf 13,rn 7,bf 24,rn 6,bf 24,rn 6,bf 24,rn 6,bf 24,rn 6,bf 24,rn 6,bt 24,rn 9] trivial
theorem bKidsOf_E_22 (op:Int)(h0: (op== (1:Int)) =false)(h1: (op== (2:Int)) =false)(h2: (op== (3:Int)) =false)(h3: (op== (4:Int)) =false)(h4: (op== (21:Int)) =false)(h5: (op== (25:Int)) =false)(h6: (op== (28:Int)) =false)(h7: (op== (5:Int)) =false)(h8: (op== (27:Int)) =false)(h9: (op== (16:Int)) =false)(h10: (op== (17:Int)) =false)(h11: (op== (19:Int)) =false)(h12: (op== (20:Int)) =false)(h13: (op== (23:Int)) =false)(h14: (op== (24:Int)) =false)(h15: (op== (26:Int)) =false)(h16: (op== (6:Int)) =false)(h17: (op== (7:Int)) =false)(h18: (op== (9:Int)) =false)(h19: (op== (10:Int)) =false)(h20: (op== (11:Int)) =false)(h21: (op== (12:Int)) =false)(h22: (op== (13:Int)) =true) :
  Ends PP 0 (start PP 130 [(nI op)]).as (.ret (.iface 231 (nI 2))) (hpOf [] 0) :=
 wE 0 [] [qp h0,qp h1,qp h2,qp h3,qp h4,qp h5,qp h6,qp h7,qp h8,qp h9,qp h10,qp h11,qp h12,qp h13,qp h14,qp h15,qp h16,qp h17,qp h18,qp h19,qp h20,qp h21,qp h22] [rn 16,bf 4,rn 6,bf 4,rn 6,bf 4,rn 6,bf 4,rn 6,bf 4,rn 6,bf 4,rn 5,bf 4,rn 7,bf 13,rn 6,bf 13,rn 6,bf 13,rn 6,bf 13,rn 6,bf 13,rn 6,bf 13,rn 6,bf 13,rn 6,bf 13,rn 5,bf 13,rn 7,bf 24,rn 6,bf 24,rn 6,bf 24,rn 6,bf 24,rn 6,bf 24,rn 6,bf 24,rn 6,bt 24,rn 9] trivial
theorem bKidsOf_E_23 (op:Int)(h0: (op== (1:Int)) =false)(h1: (op== (2:Int)) =false)(h2: (op== (3:Int)) =false)(h3: (op== (4:Int)) =false)(h4: (op== (21:Int)) =false)(h5: (op== (25:Int)) =false)(h6: (op== (28:Int)) =false)(h7: (op== (5:Int)) =false)(h8: (op== (27:Int)) =false)(h9: (op== (16:Int)) =false)(h10: (op== (17:Int)) =false)(h11: (op== (19:Int)) =false)(h12: (op== (20:Int)) =false)(h13: (op== (23:Int)) =false)(h14: (op== (24:Int)) =false)(h15: (op== (26:Int)) =false)(h16: (op== (6:Int)) =false)(h17: (op== (7:Int)) =false)(h18: (op== (9:Int)) =false)(h19: (op== (10:Int)) =false)(h20: (op== (11:Int)) =false)(h21: (op== (12:Int)) =false)(h22: (op== (13:Int)) =false)(h23: (op== (18:Int)) =true) :
  Ends PP 0 (start PP 130 [(nI op)]).as (.ret (.iface 231 (nI 2))) (hpOf [] 0) :=
 wE 0 [] [qp h0,qp h1,qp h2,qp h3,qp h4,qp h5,qp h6,qp h7,qp h8,qp h9,qp h10,qp h11,qp h12,qp h13,qp h14,qp h15,qp h16,qp h17,qp h18,qp h19,qp h20,qp h21,qp h22,qp h23] [rn 16,bf 4,rn 6,bf 4,rn 6,bf 4,rn 6,bf 4,rn 6,bf 4,rn 6,bf 4,rn 5,bf 4,rn 7,bf 13,rn 6,bf 13,rn 6,bf 13,rn 6,bf 13,rn 6,bf 13,rn 6,bf 13,rn 6,bf 13,rn 6,bf 13,rn 5,bf 13,rn 7,bf 24,rn 6,bf 24,rn 6,bf 24,rn 6,bf 24,rn 6,bf 24,rn 6,bf 24,rn 6,bf 24,rn 6,bt 24,rn 9] trivial
theorem bKidsOf_E_24 (op:Int)(h0: (op== (1:Int)) =false)(h1: (op== (2:Int)) =false)(h2: (op== (3:Int)) =false)(h3: (op== (4:Int)) =false)(h4: (op== (21:Int)) =false)(h5: (op== (25:Int)) =false)(h6: (op== (28:Int)) =false)(h7: (op== (5:Int)) =false)(h8: (op== (27:Int)) =false)(h9: (op== (16:Int)) =false)(h10: (op== (17:Int)) =false)(h11: (op== (19:Int)) =false)(h12: (op== (20:Int)) =false)(h13: (op== (23:Int)) =false)(h14: (op== (24:Int)) =false)(h15: (op== (26:Int)) =false)(h16: (op== (6:Int)) =false)(h17: (op== (7:Int)) =false)(h18: (op== (9:Int)) =false)(h19: (op== (10:Int)) =false)(h20: (op== (11:Int)) =false)(h21: (op== (12:Int)) =false)(h22: (op== (13:Int)) =false)(h23: (op== (18:Int)) =false)(h24: (op== (22:Int)) =true) :
  Ends PP 0 (start PP 130 [(nI op)]).as (.ret (.iface 231 (nI 2))) (hpOf [] 0) :=
 wE 0 [] [qp h0,qp h1,qp h2,qp h3,qp h4,qp h5,qp h6,qp h7,qp h8,qp h9,qp h10,qp h11,qp h12,qp h13,qp h14,qp h15,qp h16,qp h17,qp h18,qp h19,qp h20,qp h21,qp h22,qp h23,qp h24] [rn 16,bf 4,rn 6,bf 4,rn 6,bf 4,rn 6,bf 4,rn 6,bf 4,rn 6,bf 4,rn 5,bf 4,rn 7,bf 13,rn 6,bf 13,rn 6,bf 13,rn 6,bf 13,rn 6,bf 13,rn 6,bf 13,rn 6,bf 13,rn 6,bf 13,rn 5,bf 13,rn 7,bf 24,rn 6,bf 24,rn 6,bf 24,rn 6,bf 24,rn 6,bf 24,rn 6,bf 24,rn 6,bf 24,rn 6,bf 24,rn 5,bt 24,rn 7] trivial
theorem bKidsOf_E_25 (op:Int)(h0: (op== (1:Int)) =false)(h1: (op== (2:Int)) =false)(h2: (op== (3:Int)) =false)(h3: (op== (4:Int)) =false)(h4: (op== (21:Int)) =false)(h5: (op== (25:Int)) =false)(h6: (op== (28:Int)) =false)(h7: (op== (5:Int)) =false)(h8: (op== (27:Int)) =false)(h9: (op== (16:Int)) =false)(h10: (op== (17:Int)) =false)(h11: (op== (19:Int)) =false)(h12: (op== (20:Int)) =false)(h13: (op== (23:Int)) =false)(h14: (op== (24:Int)) =false)(h15: (op== (26:Int)) =false)(h16: (op== (6:Int)) =false)(h17: (op== (7:Int)) =false)(h18: (op== (9:Int)) =false)(h19: (op== (10:Int)) =false)(h20: (op== (11:Int)) =false)(h21: (op== (12:Int)) =false)(h22: (op== (13:Int)) =false)(h23: (op== (18:Int)) =false)(h24: (op== (22:Int)) =false)(h25: (op== (8:Int)) =true) :
  Ends PP 0 (start PP 130 [(nI op)]).as (.ret (.iface 231 (nI 3))) (hpOf [] 0) :=
 wE 0 [] [qp h0,qp h1,qp h2,qp h3,qp h4,qp h5,qp h6,qp h7,qp h8,qp h9,qp h10,qp h11,qp h12,qp h13,qp h14,qp h15,qp h16,qp h17,qp h18,qp h19,qp h20,qp h21,qp h22,qp h23,qp h24,qp h25] [rn 16,bf 4,rn 6,bf 4,rn 6,bf 4,rn 6,bf 4,rn 6,bf 4,rn 6,bf 4,rn 5,bf 4,rn 7,bf 13,rn 6,bf 13,rn 6,bf 13,rn 6,bf 13,rn 6,bf 13,rn 6,bf 13,rn 6,bf 13,rn 6,bf 13,rn 5,bf 13,rn 7,bf 24,rn 6,bf 24,rn 6,bf 24,rn 6,bf 24,rn 6,bf 24,rn 6,bf 24,rn 6,bf 24,rn 6,bf 24,rn 5,bf 24,rn 6,bt 35,rn 7] trivial
theorem bKidsOf_E_26 (op:Int)(h0: (op== (1:Int)) =false)(h1: (op== (2:Int)) =false)(h2: (op== (3:Int)) =false)(h3: (op== (4:Int)) =false)(h4: (op== (21:Int)) =false)(h5: (op== (25:Int)) =false)(h6: (op== (28:Int)) =false)(h7: (op== (5:Int)) =false)(h8: (op== (27:Int)) =false)(h9: (op== (16:Int)) =false)(h10: (op== (17:Int)) =false)(h11: (op== (19:Int)) =false)(h12: (op== (20:Int)) =false)(h13: (op== (23:Int)) =false)(h14: (op== (24:Int)) =false)(h15: (op== (26:Int)) =false)(h16: (op== (6:Int)) =false)(h17: (op== (7:Int)) =false)(h18: (op== (9:Int)) =false)(h19: (op== (10:Int)) =false)(h20: (op== (11:Int)) =false)(h21: (op== (12:Int)) =false)(h22: (op== (13:Int)) =false)(h23: (op== (18:Int)) =false)(h24: (op== (22:Int)) =false)(h25: (op== (8:Int)) =false)(h26: (op== (14:Int)) =true) :
  Ends PP 0 (start PP 130 [(nI op)]).as (.ret (.iface 232 (.agg []))) (hpOf [] 0) :=
 wE 0 [] [qp h0,qp h1,qp h2,qp h3,qp h4,qp h5,qp h6,qp h7,qp h8,qp h9,qp h10,qp h11,qp h12,qp h13,qp h14,qp h15,qp h16,qp h17,qp h18,qp h19,qp h20,qp h21,qp h22,qp h23,qp h24,qp h25,qp h26] [rn 16,bf 4,rn 6,bf 4,rn 6,bf 4,rn 6,bf 4,rn 6,bf 4,rn 6,bf 4,rn 5,bf 4,rn 7,bf 13,rn 6,bf 13,rn 6,bf 13,rn 6,bf 13,rn 6,bf 13,rn 6,bf 13,rn 6,bf 13,rn 6,bf 13,rn 5,bf 13,rn 7,bf 24,rn 6,bf 24,rn 6,bf 24,rn 6,bf 24,rn 6,bf 24,rn 6,bf 24,rn 6,bf 24,rn 6,bf 24,rn 5,bf 24,rn 6,bf 35,rn 6,bt 38,rn 8] trivial
theorem bKidsOf_E_27 (op:Int)(h0: (op== (1:Int)) =false)(h1: (op== (2:Int)) =false)(h2: (op== (3:Int)) =false)(h3: (op== (4:Int)) =false)(h4: (op== (21:Int)) =false)(h5: (op== (25:Int)) =false)(h6: (op== (28:Int)) =false)(h7: (op== (5:Int)) =false)(h8: (op== (27:Int)) =false)(h9: (op== (16:Int)) =false)(h10: (op== (17:Int)) =false)(h11: (op== (19:Int)) =false)(h12: (op== (20:Int)) =false)(h13: (op== (23:Int)) =false)(h14: (op== (24:Int)) =false)(h15: (op== (26:Int)) =false)(h16: (op== (6:Int)) =false)(h17: (op== (7:Int)) =false)(h18: (op== (9:Int)) =false)(h19: (op== (10:Int)) =false)(h20: (op== (11:Int)) =false)(h21: (op== (12:Int)) =false)(h22: (op== (13:Int)) =false)(h23: (op== (18:Int)) =false)(h24: (op== (22:Int)) =false)(h25: (op== (8:Int)) =false)(h26: (op== (14:Int)) =false)(h27: (op== (15:Int)) =true) :
  Ends PP 0 (start PP 130 [(nI op)]).as (.ret (.iface 189 (.agg []))) (hpOf [] 0) :=
 wE 0 [] [qp h0,qp h1,qp h2,qp h3,qp h4,qp h5,qp h6,qp h7,qp h8,qp h9,qp h10,qp h11,qp h12,qp h13,qp h14,qp h15,qp h16,qp h17,qp h18,qp h19,qp h20,qp h21,qp h22,qp h23,qp h24,qp h25,qp h26,qp h27] [rn 16,bf 4,rn 6,bf 4,rn 6,bf 4,rn 6,bf 4,rn 6,bf 4,rn 6,bf 4,rn 5,bf 4,rn 7,bf 13,rn 6,bf 13,rn 6,bf 13,rn 6,bf 13,rn 6,bf 13,rn 6,bf 13,rn 6,bf 13,rn 6,bf 13,rn 5,bf 13,rn 7,bf 24,rn 6,bf 24,rn 6,bf 24,rn 6,bf 24,rn 6,bf 24,rn 6,bf 24,rn 6,bf 24,rn 6,bf 24,rn 5,bf 24,rn 6,bf 35,rn 6,bf 38,rn 6,bt 42,rn 8] trivial
theorem bKidsOf_E_28 (op:Int)(h0: (op== (1:Int)) =false)(h1: (op== (2:Int)) =false)(h2: (op== (3:Int)) =false)(h3: (op== (4:Int)) =false)(h4: (op== (21:Int)) =false)(h5: (op== (25:Int)) =false)(h6: (op== (28:Int)) =false)(h7: (op== (5:Int)) =false)(h8: (op== (27:Int)) =false)(h9: (op== (16:Int)) =false)(h10: (op== (17:Int)) =false)(h11: (op== (19:Int)) =false)(h12: (op== (20:Int)) =false)(h13: (op== (23:Int)) =false)(h14: (op== (24:Int)) =false)(h15: (op== (26:Int)) =false)(h16: (op== (6:Int)) =false)(h17: (op== (7:Int)) =false)(h18: (op== (9:Int)) =false)(h19: (op== (10:Int)) =false)(h20: (op== (11:Int)) =false)(h21: (op== (12:Int)) =false)(h22: (op== (13:Int)) =false)(h23: (op== (18:Int)) =false)(h24: (op== (22:Int)) =false)(h25: (op== (8:Int)) =false)(h26: (op== (14:Int)) =false)(h27: (op== (15:Int)) =false) :
  Ends PP 0 (start PP 130 [(nI op)]).as (.ret .nili) (hpOf [] 0) :=
 wE 0 [] [qp h0,qp h1,qp h2,qp h3,qp h4,qp h5,qp h6,qp h7,qp h8,qp h9,qp h10,qp h11,qp h12,qp h13,qp h14,qp h15,qp h16,qp h17,qp h18,qp h19,qp h20,qp h21,qp h22,qp h23,qp h24,qp h25,qp h26,qp h27] [rn 16,bf 4,rn 6,bf 4,rn 6,bf 4,rn 6,bf 4,rn 6,bf 4,rn 6,bf 4,rn 5,bf 4,rn 7,bf 13,rn 6,bf 13,rn 6,bf 13,rn 6,bf 13,rn 6,bf 13,rn 6,bf 13,rn 6,bf 13,rn 6,bf 13,rn 5,bf 13,rn 7,bf 24,rn 6,bf 24,rn 6,bf 24,rn 6,bf 24,rn 6,bf 24,rn 6,bf 24,rn 6,bf 24,rn 6,bf 24,rn 5,bf 24,rn 6,bf 35,rn 6,bf 38,rn 6,bf 42,rn 8] trivial
end Go.Hb
namespace Go.Hb
open Go.Proofs
noncomputable def bEvP_c0 (l:List Pat)(p:Prog)(t8:Int) :TS:=
 {fr:={fn:=220,nt:=19,sl:=[(0,(iP l)),(1,(.func 182 [] [(.ptr 0 0)])),(4,(nI 0)),(7,(nI (l.length:Int))),(8,(nI t8))],todo:=[.code (cd Tryz.f220 [1,0,1,0,0]),.inLoop (cd Tryz.f220 [1,0,1,0,0]),.inBlock 0,.code (cd Tryz.f220 [1,1])]},cs:=[{fn:=181,nt:=9,sl:=[(4,(bV false)),(5,(iP l)),(6,(.func 182 [] [(.ptr 0 0)]))],todo:=[opsAt Tryz.f181 [1,0] 2,.code (cd Tryz.f181 [1,1])]},{fn:=135,nt:=9,sl:=[(4,(bV false)),(5,(iP l)),(6,(.func 182 [] [(.ptr 0 0)]))],todo:=[opsAt Tryz.f135 [1,0] 2,.code (cd Tryz.f135 [1,1])]}],hp:=[(0,(.cells (putCells .leaf 0 [(.func 133 [(Prog.av p)] [])]) 1 [] false),false)],nb:=1}
theorem bEvP_E_0 (l:List Pat)(p:Prog) :
  LeadsM PP 0 (start PP 135 [(iP l),(.func 133 [(Prog.av p)] [])]).as (bEvP_c0 l p 0).as:=
 wW 1 [0] [qlP l] [rn 27,aL l,rn 4] trivial
theorem bEvP_0_0 (l:List Pat)(p:Prog)(t8 y_form0 y_n1:Int)(y_text2:Str)(y_parts3:List Pat)(y4:Bool)(h0:decide (t8< (l.length:Int)) =true)(h1:0≤t8)(h2: ((l)[t8.toNat]?) =some (Pat.mk y_form0 y_n1 y_text2 y_parts3))(h3:Pure PP 133 [(Prog.av p),(.agg [(nI y_form0),(nI y_n1),(avS y_text2),(iP y_parts3)])] (bV y4))(h4: (!y4) =true) :
  Ends PP 0 (bEvP_c0 l p t8).as (.ret (bV (!(decide (t8≥ (0:Int)))))) (hpOf [] 0) :=
 wE 2 [] [qp h0,qp h1,qgP h2,qp h3,qp h4] [rn 5,bt 9,rn 14,aI (Pat.av (Pat.mk y_form0 y_n1 y_text2 y_parts3)),rn 11,pB y4,rn 6,bt 16,rn 17] trivial
theorem bEvP_0_1 (l:List Pat)(p:Prog)(t8 y_form0 y_n1:Int)(y_text2:Str)(y_parts3:List Pat)(y4:Bool)(h0:decide (t8< (l.length:Int)) =true)(h1:0≤t8)(h2: ((l)[t8.toNat]?) =some (Pat.mk y_form0 y_n1 y_text2 y_parts3))(h3:Pure PP 133 [(Prog.av p),(.agg [(nI y_form0),(nI y_n1),(avS y_text2),(iP y_parts3)])] (bV y4))(h4: (!y4) =false)(h5: (IntKind.i64.wrap (t8+ (1:Int))) = (t8+ (1:Int))) :
  LeadsM PP 0 (bEvP_c0 l p t8).as (bEvP_c0 l p (t8+ (1:Int))).as:=
 wW 2 [0] [qp h0,qp h1,qgP h2,qp h3,qp h4,qp (congrArg (AV.int .i64) h5)] [rn 5,bt 9,rn 14,aI (Pat.av (Pat.mk y_form0 y_n1 y_text2 y_parts3)),rn 11,pB y4,rn 6,bf 16,rn 5,sI 18 (t8+ (1:Int)),rn 3] trivial
theorem bEvP_0_2 (l:List Pat)(p:Prog)(t8:Int)(h0:decide (t8< (l.length:Int)) =false) :
  Ends PP 0 (bEvP_c0 l p t8).as (.ret (bV true)) (hpOf [] 0) :=
 wE 1 [] [qp h0] [rn 5,bf 9,rn 17] trivial
noncomputable def bNode_c0 (p:Prog)(x:Node)(t8:Int) :TS:=
 {fr:={fn:=220,nt:=19,sl:=[(0,(iP x.pats)),(1,(.func 182 [] [(.ptr 0 0)])),(4,(nI 0)),(7,(nI (x.pats.length:Int))),(8,(nI t8))],todo:=[.code (cd Tryz.f220 [1,0,1,0,0]),.inLoop (cd Tryz.f220 [1,0,1,0,0]),.inBlock 0,.code (cd Tryz.f220 [1,1])]},cs:=[{fn:=181,nt:=9,sl:=[(4,(bV false)),(5,(iP x.pats)),(6,(.func 182 [] [(.ptr 0 0)]))],todo:=[opsAt Tryz.f181 [1,0] 2,.code (cd Tryz.f181 [1,1])]},{fn:=135,nt:=9,sl:=[(4,(bV false)),(5,(iP x.pats)),(6,(.func 182 [] [(.ptr 0 0)]))],todo:=[opsAt Tryz.f135 [1,0] 2,.code (cd Tryz.f135 [1,1])]},{fn:=79,nt:=35,sl:=[(4,(bV false)),(29,(bV true)),(31,(iP x.pats)),(32,(.func 131 [] [(.ptr 1 0)]))],todo:=[opsAt Tryz.f79 [1,1,1,1,0] 13,.code (cd Tryz.f79 [1,1,1,1,1])]}],hp:=[(0,(.cells (putCells .leaf 0 [(.func 131 [] [(.ptr 1 0)])]) 1 [] false),false),(1,(.cells (putCells .leaf 0 [(iN p.nodes),(iI p.funs),(nI p.main),(iC p.cons)]) 4 [] false),false)],nb:=2}
theorem bNode_E_0 (p:Prog)(x:Node)(y0 y1:Bool)(h0:Pure PP 130 [(nI x.op)] (.iface 189 (.agg [])))(h1:Pure PP 65 [(nI (x.pats.length:Int)),(nI 1),(nI 5)] (bV y0))(h2:y0=true)(h3: (IntKind.i64.wrap ((1:Int) + (x.pats.length:Int))) = ((1:Int) + (x.pats.length:Int)))(h4: ((x.kids.length:Int) == ((1:Int) + (x.pats.length:Int))) =true)(h5:Pure PP 134 [(Prog.av p),(Node.av x)] (bV y1))(h6:y1=true) :
  LeadsM PP 0 (start PP 79 [(Prog.av p),(Node.av x)]).as (bNode_c0 p x 0).as:=
 wW 6 [5,0] [qp h0,qlP x.pats,qp h1,qp h2,ql avI x.kids,qlP x.pats,qp (congrArg (AV.int .i64) h3),qp h4,qp h5,qp h6,qlP x.pats] [rn 10,.pure (.iface 189 (.agg [])),rn 44,aL x.pats,pB y0,rn 1,bt 11,rn 2,aL x.kids,rn 2,aL x.pats,rn 1,sI 18 ((1:Int) + (x.pats.length:Int)),rn 7,bt 24,rn 2,pB y1,rn 2,bt 29,rn 31,aL x.pats,rn 4] trivial
theorem bNode_E_1 (p:Prog)(x:Node)(y0 y1:Bool)(h0:Pure PP 130 [(nI x.op)] (.iface 189 (.agg [])))(h1:Pure PP 65 [(nI (x.pats.length:Int)),(nI 1),(nI 5)] (bV y0))(h2:y0=true)(h3: (IntKind.i64.wrap ((1:Int) + (x.pats.length:Int))) = ((1:Int) + (x.pats.length:Int)))(h4: ((x.kids.length:Int) == ((1:Int) + (x.pats.length:Int))) =true)(h5:Pure PP 134 [(Prog.av p),(Node.av x)] (bV y1))(h6:y1=false) :
  Ends PP 0 (start PP 79 [(Prog.av p),(Node.av x)]).as (.ret (bV false)) (hpOf [] 0) :=
 wE 5 [] [qp h0,qlP x.pats,qp h1,qp h2,ql avI x.kids,qlP x.pats,qp (congrArg (AV.int .i64) h3),qp h4,qp h5,qp h6] [rn 10,.pure (.iface 189 (.agg [])),rn 44,aL x.pats,pB y0,rn 1,bt 11,rn 2,aL x.kids,rn 2,aL x.pats,rn 1,sI 18 ((1:Int) + (x.pats.length:Int)),rn 7,bt 24,rn 2,pB y1,rn 2,bf 29,rn 8] trivial
theorem bNode_E_2 (p:Prog)(x:Node)(y0:Bool)(h0:Pure PP 130 [(nI x.op)] (.iface 189 (.agg [])))(h1:Pure PP 65 [(nI (x.pats.length:Int)),(nI 1),(nI 5)] (bV y0))(h2:y0=true)(h3: (IntKind.i64.wrap ((1:Int) + (x.pats.length:Int))) = ((1:Int) + (x.pats.length:Int)))(h4: ((x.kids.length:Int) == ((1:Int) + (x.pats.length:Int))) =false) :
  Ends PP 0 (start PP 79 [(Prog.av p),(Node.av x)]).as (.ret (bV false)) (hpOf [] 0) :=
 wE 5 [] [qp h0,qlP x.pats,qp h1,qp h2,ql avI x.kids,qlP x.pats,qp (congrArg (AV.int .i64) h3),qp h4] [rn 10,.pure (.iface 189 (.agg [])),rn 44,aL x.pats,pB y0,rn 1,bt 11,rn 2,aL x.kids,rn 2,aL x.pats,rn 1,sI 18 ((1:Int) + (x.pats.length:Int)),rn 7,bf 24,rn 13] trivial
theorem bNode_E_3 (p:Prog)(x:Node)(y0:Bool)(h0:Pure PP 130 [(nI x.op)] (.iface 189 (.agg [])))(h1:Pure PP 65 [(nI (x.pats.length:Int)),(nI 1),(nI 5)] (bV y0))(h2:y0=false) :
  Ends PP 0 (start PP 79 [(Prog.av p),(Node.av x)]).as (.ret (bV false)) (hpOf [] 0) :=
 wE 5 [] [qp h0,qlP x.pats,qp h1,qp h2] [rn 10,.pure (.iface 189 (.agg [])),rn 44,aL x.pats,pB y0,rn 1,bf 11,rn 27] trivial
theorem bNode_E_4 (p:Prog)(x:Node)(h0:Pure PP 130 [(nI x.op)] (.iface 232 (.agg [])))(h1:decide ((x.pats.length:Int) > (0:Int)) =true) :
  Ends PP 0 (start PP 79 [(Prog.av p),(Node.av x)]).as (.ret (bV false)) (hpOf [] 0) :=
 wE 2 [] [qp h0,qlP x.pats,qp h1] [rn 10,.pure (.iface 232 (.agg [])),rn 24,aL x.pats,rn 2,bt 14,rn 6] trivial
theorem bNode_E_5 (p:Prog)(x:Node)(y0:Bool)(y1:Con)(y2:Bool)(h0:Pure PP 130 [(nI x.op)] (.iface 232 (.agg [])))(h1:decide ((x.pats.length:Int) > (0:Int)) =false)(h2:Pure PP 65 [(nI x.n),(nI 0),(nI (IntKind.i64.wrap ((p.cons.length:Int) - (1:Int))))] (bV y0))(h3:y0=true)(h4:0≤x.n)(h5: ((p.cons)[x.n.toNat]?) =some y1)(h6: ((x.kids.length:Int) ==y1.args) =true)(h7:Pure PP 134 [(Prog.av p),(Node.av x)] (bV y2))(h8:y2=true) :
  LeadsM PP 0 (start PP 79 [(Prog.av p),(Node.av x)]).as (bNode_c0 p x 0).as:=
 wW 6 [5,0] [qp h0,qlP x.pats,qp h1,ql Con.av p.cons,qp h2,qp h3,ql avI x.kids,qp h4,qg Con.av h5,qp h6,qp h7,qp h8,qlP x.pats] [rn 10,.pure (.iface 232 (.agg [])),rn 24,aL x.pats,rn 2,bf 14,rn 22,.reg [.d,.d,.d,.d,.d,.ans (.len (p.cons.length:Int)),.d,.pure (bV y0),.d,.b 15 true,.d,.d,.ans (.len (x.kids.length:Int)),.d,.d,.d,.d,.d,.ans (.idx (Con.av y1)),.d,.d,.d,.d,.d],rn 3,bt 24,rn 2,pB y2,rn 2,bt 29,rn 31,aL x.pats,rn 4] trivial
theorem bNode_E_7 (p:Prog)(x:Node)(y0:Bool)(y1:Con)(h0:Pure PP 130 [(nI x.op)] (.iface 232 (.agg [])))(h1:decide ((x.pats.length:Int) > (0:Int)) =false)(h2:Pure PP 65 [(nI x.n),(nI 0),(nI (IntKind.i64.wrap ((p.cons.length:Int) - (1:Int))))] (bV y0))(h3:y0=true)(h4:0≤x.n)(h5: ((p.cons)[x.n.toNat]?) =some y1)(h6: ((x.kids.length:Int) ==y1.args) =false) :
  Ends PP 0 (start PP 79 [(Prog.av p),(Node.av x)]).as (.ret (bV false)) (hpOf [] 0) :=
 wE 5 [] [qp h0,qlP x.pats,qp h1,ql Con.av p.cons,qp h2,qp h3,ql avI x.kids,qp h4,qg Con.av h5,qp h6] [rn 10,.pure (.iface 232 (.agg [])),rn 24,aL x.pats,rn 2,bf 14,rn 22,.reg [.d,.d,.d,.d,.d,.ans (.len (p.cons.length:Int)),.d,.pure (bV y0),.d,.b 15 true,.d,.d,.ans (.len (x.kids.length:Int)),.d,.d,.d,.d,.d,.ans (.idx (Con.av y1)),.d,.d,.d,.d,.d],rn 3,bf 24,rn 13] trivial
theorem bNode_E_8 (p:Prog)(x:Node)(y0:Bool)(h0:Pure PP 130 [(nI x.op)] (.iface 232 (.agg [])))(h1:decide ((x.pats.length:Int) > (0:Int)) =false)(h2:Pure PP 65 [(nI x.n),(nI 0),(nI (IntKind.i64.wrap ((p.cons.length:Int) - (1:Int))))] (bV y0))(h3:y0=false) :
  Ends PP 0 (start PP 79 [(Prog.av p),(Node.av x)]).as (.ret (bV false)) (hpOf [] 0) :=
 wE 5 [] [qp h0,qlP x.pats,qp h1,ql Con.av p.cons,qp h2,qp h3] [rn 10,.pure (.iface 232 (.agg [])),rn 24,aL x.pats,rn 2,bf 14,rn 22,.reg [.d,.d,.d,.d,.d,.ans (.len (p.cons.length:Int)),.d,.pure (bV y0),.d,.b 15 false,.d,.d,.d,.d,.d,.d,.d,.d,.d,.d,.d,.d,.d,.d],rn 16] trivial
theorem bNode_E_9 (p:Prog)(x:Node)(k0:Int)(h0:Pure PP 130 [(nI x.op)] (.iface 231 (nI k0)))(h1:decide ((x.pats.length:Int) > (0:Int)) =true) :
  Ends PP 0 (start PP 79 [(Prog.av p),(Node.av x)]).as (.ret (bV false)) (hpOf [] 0) :=
 wE 2 [] [qp h0,qlP x.pats,qp h1] [rn 10,.pure (.iface 231 (nI k0)),rn 24,aL x.pats,rn 2,bt 14,rn 6] trivial
theorem bNode_E_10 (p:Prog)(x:Node)(k0:Int)(y1:Bool)(h0:Pure PP 130 [(nI x.op)] (.iface 231 (nI k0)))(h1:decide ((x.pats.length:Int) > (0:Int)) =false)(h2: ((x.kids.length:Int) ==k0) =true)(h3:Pure PP 134 [(Prog.av p),(Node.av x)] (bV y1))(h4:y1=true) :
  LeadsM PP 0 (start PP 79 [(Prog.av p),(Node.av x)]).as (bNode_c0 p x 0).as:=
 wW 5 [4,0] [qp h0,qlP x.pats,qp h1,ql avI x.kids,qp h2,qp h3,qp h4,qlP x.pats] [rn 10,.pure (.iface 231 (nI k0)),rn 24,aL x.pats,rn 2,bf 14,rn 24,aL x.kids,rn 7,bt 24,rn 2,pB y1,rn 2,bt 29,rn 31,aL x.pats,rn 4] trivial
theorem bNode_E_11 (p:Prog)(x:Node)(k0:Int)(y1:Bool)(h0:Pure PP 130 [(nI x.op)] (.iface 231 (nI k0)))(h1:decide ((x.pats.length:Int) > (0:Int)) =false)(h2: ((x.kids.length:Int) ==k0) =true)(h3:Pure PP 134 [(Prog.av p),(Node.av x)] (bV y1))(h4:y1=false) :
  Ends PP 0 (start PP 79 [(Prog.av p),(Node.av x)]).as (.ret (bV false)) (hpOf [] 0) :=
 wE 4 [] [qp h0,qlP x.pats,qp h1,ql avI x.kids,qp h2,qp h3,qp h4] [rn 10,.pure (.iface 231 (nI k0)),rn 24,aL x.pats,rn 2,bf 14,rn 24,aL x.kids,rn 7,bt 24,rn 2,pB y1,rn 2,bf 29,rn 8] trivial
theorem bNode_E_12 (p:Prog)(x:Node)(k0:Int)(h0:Pure PP 130 [(nI x.op)] (.iface 231 (nI k0)))(h1:decide ((x.pats.length:Int) > (0:Int)) =false)(h2: ((x.kids.length:Int) ==k0) =false) :
  Ends PP 0 (start PP 79 [(Prog.av p),(Node.av x)]).as (.ret (bV false)) (hpOf [] 0) :=
 wE 4 [] [qp h0,qlP x.pats,qp h1,ql avI x.kids,qp h2] [rn 10,.pure (.iface 231 (nI k0)),rn 24,aL x.pats,rn 2,bf 14,rn 24,aL x.kids,rn 7,bf 24,rn 13] trivial
theorem bNode_E_13 (p:Prog)(x:Node)(h0:Pure PP 130 [(nI x.op)] .nili) :
  Ends PP 0 (start PP 79 [(Prog.av p),(Node.av x)]).as (.ret (bV false)) (hpOf [] 0) :=
 wE 2 [] [qp h0] [rn 10,.pure .nili,rn 18] trivial
theorem bNode_0_0 (p:Prog)(x:Node)(t8 y_form0 y_n1:Int)(y_text2:Str)(y_parts3:List Pat)(y4:Int)(y5:Bool)(h0:decide (t8< (x.pats.length:Int)) =true)(h1:0≤t8)(h2: ((x.pats)[t8.toNat]?) =some (Pat.mk y_form0 y_n1 y_text2 y_parts3))(h3:Pure PP 132 [(.agg [(nI y_form0),(nI y_n1),(avS y_text2),(iP y_parts3)]),(nI 12)] (nI y4))(h4:decide (y4≤ (12:Int)) =true)(h5:Pure PP 133 [(Prog.av p),(.agg [(nI y_form0),(nI y_n1),(avS y_text2),(iP y_parts3)])] (bV y5))(h6: (!y5) =true) :
  Ends PP 0 (bNode_c0 p x t8).as (.ret (bV (!(decide (t8≥ (0:Int)))))) (hpOf [] 0) :=
 wE 4 [] [qp h0,qp h1,qgP h2,qp h3,qp h4,qp h5,qp h6] [rn 5,bt 9,rn 14,aI (Pat.av (Pat.mk y_form0 y_n1 y_text2 y_parts3)),rn 20,.pure (nI y4),rn 2,bt 7,rn 2,pB y5,rn 11,bt 16,rn 22] trivial
theorem bNode_0_1 (p:Prog)(x:Node)(t8 y_form0 y_n1:Int)(y_text2:Str)(y_parts3:List Pat)(y4:Int)(y5:Bool)(h0:decide (t8< (x.pats.length:Int)) =true)(h1:0≤t8)(h2: ((x.pats)[t8.toNat]?) =some (Pat.mk y_form0 y_n1 y_text2 y_parts3))(h3:Pure PP 132 [(.agg [(nI y_form0),(nI y_n1),(avS y_text2),(iP y_parts3)]),(nI 12)] (nI y4))(h4:decide (y4≤ (12:Int)) =true)(h5:Pure PP 133 [(Prog.av p),(.agg [(nI y_form0),(nI y_n1),(avS y_text2),(iP y_parts3)])] (bV y5))(h6: (!y5) =false)(h7: (IntKind.i64.wrap (t8+ (1:Int))) = (t8+ (1:Int))) :
  LeadsM PP 0 (bNode_c0 p x t8).as (bNode_c0 p x (t8+ (1:Int))).as:=
 wW 4 [0,1] [qp h0,qp h1,qgP h2,qp h3,qp h4,qp h5,qp h6,qp (congrArg (AV.int .i64) h7)] [rn 5,bt 9,rn 14,aI (Pat.av (Pat.mk y_form0 y_n1 y_text2 y_parts3)),rn 20,.pure (nI y4),rn 2,bt 7,rn 2,pB y5,rn 11,bf 16,rn 5,sI 18 (t8+ (1:Int)),rn 3] trivial
theorem bNode_0_2 (p:Prog)(x:Node)(t8 y_form0 y_n1:Int)(y_text2:Str)(y_parts3:List Pat)(y4:Int)(h0:decide (t8< (x.pats.length:Int)) =true)(h1:0≤t8)(h2: ((x.pats)[t8.toNat]?) =some (Pat.mk y_form0 y_n1 y_text2 y_parts3))(h3:Pure PP 132 [(.agg [(nI y_form0),(nI y_n1),(avS y_text2),(iP y_parts3)]),(nI 12)] (nI y4))(h4:decide (y4≤ (12:Int)) =false) :
  Ends PP 0 (bNode_c0 p x t8).as (.ret (bV (!(decide (t8≥ (0:Int)))))) (hpOf [] 0) :=
 wE 4 [] [qp h0,qp h1,qgP h2,qp h3,qp h4] [rn 5,bt 9,rn 14,aI (Pat.av (Pat.mk y_form0 y_n1 y_text2 y_parts3)),rn 20,.pure (nI y4),rn 2,bf 7,rn 36] trivial
theorem bNode_0_3 (p:Prog)(x:Node)(t8:Int)(h0:decide (t8< (x.pats.length:Int)) =false) :
  Ends PP 0 (bNode_c0 p x t8).as (.ret (bV true)) (hpOf [] 0) :=
 wE 2 [] [qp h0] [rn 5,bf 9,rn 22] trivial
noncomputable def bDiffer_c0 (l:List Str)(t9:Int)(m0: (List (Str×Bool))) :TS:=
 {fr:={fn:=75,nt:=21,sl:=[(0,(iS l)),(2,(bV false)),(3,(.map 0)),(7,(iS l)),(8,(nI (l.length:Int))),(9,(nI t9))],todo:=[.code (cd Tryz.f75 [1,1,0,1,0,0]),.inLoop (cd Tryz.f75 [1,1,0,1,0,0]),.inBlock 0,.code (cd Tryz.f75 [1,1,1])]},cs:=[],hp:=[(0,(.map (mEnts avS avB 0 m0) m0.length),true)],nb:=1}
theorem bDiffer_E_0 (l:List Str) :
  LeadsM PP 0 (start PP 75 [(iS l)]).as (bDiffer_c0 l 0 ([] :List (Str×Bool))).as:=
 wW 1 [0] [qp (p:= ([] :List (AV×AV×Nat)) = (mEnts avS avB 0 ([] :List (Str×Bool)))) rfl,qp (p:=0=List.length ([] :List (Str×Bool))) rfl,ql avS l] [rn 7,.mset 0 (mEnts avS avB 0 ([] :List (Str×Bool))) ([] :List (Str×Bool)).length,rn 6,aL l,rn 4] ⟨kl_map (fun _=>rfl) (fun _=>rfl) _ _ _,trivial⟩
theorem bDiffer_0_0 (l:List Str)(t9:Int)(m0: (List (Str×Bool)))(y0:Str)(h0:decide (t9< (l.length:Int)) =true)(h1:0≤t9)(h2: ((l)[t9.toNat]?) =some y0)(h3: (IntKind.i64.wrap (t9+ (1:Int))) = (t9+ (1:Int))) :
  LeadsM PP 0 (bDiffer_c0 l t9 m0).as (bDiffer_c0 l (t9+ (1:Int)) (mIns y0 true m0)).as:=
 wW 1 [0] [qp h0,qp h1,qg avS h2,qp (p:=mapPut (mEnts avS avB 0 m0) m0.length (avS y0) (avB true) =some ((mEnts avS avB 0 (mIns y0 true m0)),List.length (mIns y0 true m0))) (map_put key_avS _ _ _),qp (congrArg (AV.int .i64) h3)] [rn 5,bt 10,rn 6,aI (avS y0),rn 6,.mput (mEnts avS avB 0 (mIns y0 true m0)) (mIns y0 true m0).length,rn 4,sI 15 (t9+ (1:Int)),rn 3] ⟨kl_map (fun _=>rfl) (fun _=>rfl) _ _ _,trivial⟩
theorem bDiffer_0_1 (l:List Str)(t9:Int)(m0: (List (Str×Bool)))(h0:decide (t9< (l.length:Int)) =false) :
  Ends PP 0 (bDiffer_c0 l t9 m0).as (.ret (bV ((m0.length:Int) == (l.length:Int)))) (hpOf [] 0) :=
 wE 1 [] [qp h0,qp (p:= (nI ((mEnts avS avB 0 m0).length:Int)) = (nI (m0.length:Int))) (len_ents _ _ _),ql avS l] [rn 5,bf 10,rn 6,sI 17 (m0.length:Int),rn 1,aL l,rn 4] trivial
end Go.Hb
namespace Go.Hb
open Go.Proofs
noncomputable def bEvN_c0 (l:List Node)(p:Prog)(t8:Int) :TS:=
 {fr:={fn:=111,nt:=19,sl:=[(0,(iN l)),(1,(.func 129 [] [(.ptr 0 0)])),(4,(nI 0)),(7,(nI (l.length:Int))),(8,(nI t8))],todo:=[.code (cd Tryz.f111 [1,0,1,0,0]),.inLoop (cd Tryz.f111 [1,0,1,0,0]),.inBlock 0,.code (cd Tryz.f111 [1,1])]},cs:=[{fn:=62,nt:=9,sl:=[(4,(bV false)),(5,(iN l)),(6,(.func 129 [] [(.ptr 0 0)]))],todo:=[opsAt Tryz.f62 [1,0] 2,.code (cd Tryz.f62 [1,1])]},{fn:=78,nt:=9,sl:=[(4,(bV false)),(5,(iN l)),(6,(.func 129 [] [(.ptr 0 0)]))],todo:=[opsAt Tryz.f78 [1,0] 2,.code (cd Tryz.f78 [1,1])]}],hp:=[(0,(.cells (putCells .leaf 0 [(.func 79 [(Prog.av p)] [])]) 1 [] false),false)],nb:=1}
theorem bEvN_E_0 (l:List Node)(p:Prog) :
  LeadsM PP 0 (start PP 78 [(iN l),(.func 79 [(Prog.av p)] [])]).as (bEvN_c0 l p 0).as:=
 wW 1 [0] [ql Node.av l] [rn 27,aL l,rn 4] trivial
theorem bEvN_0_0 (l:List Node)(p:Prog)(t8:Int)(y0:Node)(y1:Bool)(h0:decide (t8< (l.length:Int)) =true)(h1:0≤t8)(h2: ((l)[t8.toNat]?) =some y0)(h3:Pure PP 79 [(Prog.av p),(Node.av y0)] (bV y1))(h4: (!y1) =true) :
  Ends PP 0 (bEvN_c0 l p t8).as (.ret (bV (!(decide (t8≥ (0:Int)))))) (hpOf [] 0) :=
 wE 2 [] [qp h0,qp h1,qg Node.av h2,qp h3,qp h4] [rn 5,bt 9,rn 14,aI (Node.av y0),rn 11,pB y1,rn 6,bt 16,rn 17] trivial
theorem bEvN_0_1 (l:List Node)(p:Prog)(t8:Int)(y0:Node)(y1:Bool)(h0:decide (t8< (l.length:Int)) =true)(h1:0≤t8)(h2: ((l)[t8.toNat]?) =some y0)(h3:Pure PP 79 [(Prog.av p),(Node.av y0)] (bV y1))(h4: (!y1) =false)(h5: (IntKind.i64.wrap (t8+ (1:Int))) = (t8+ (1:Int))) :
  LeadsM PP 0 (bEvN_c0 l p t8).as (bEvN_c0 l p (t8+ (1:Int))).as:=
 wW 2 [0] [qp h0,qp h1,qg Node.av h2,qp h3,qp h4,qp (congrArg (AV.int .i64) h5)] [rn 5,bt 9,rn 14,aI (Node.av y0),rn 11,pB y1,rn 6,bf 16,rn 5,sI 18 (t8+ (1:Int)),rn 3] trivial
theorem bEvN_0_2 (l:List Node)(p:Prog)(t8:Int)(h0:decide (t8< (l.length:Int)) =false) :
  Ends PP 0 (bEvN_c0 l p t8).as (.ret (bV true)) (hpOf [] 0) :=
 wE 1 [] [qp h0] [rn 5,bf 9,rn 17] trivial
noncomputable def bEvC_c0 (l:List Con)(t8:Int) :TS:=
 {fr:={fn:=44,nt:=19,sl:=[(0,(iC l)),(1,(.func 127 [] [(.ptr 0 0)])),(4,(nI 0)),(7,(nI (l.length:Int))),(8,(nI t8))],todo:=[.code (cd Tryz.f44 [1,0,1,0,0]),.inLoop (cd Tryz.f44 [1,0,1,0,0]),.inBlock 0,.code (cd Tryz.f44 [1,1])]},cs:=[{fn:=126,nt:=9,sl:=[(4,(bV false)),(5,(iC l)),(6,(.func 127 [] [(.ptr 0 0)]))],todo:=[opsAt Tryz.f126 [1,0] 2,.code (cd Tryz.f126 [1,1])]},{fn:=73,nt:=9,sl:=[(4,(bV false)),(5,(iC l)),(6,(.func 127 [] [(.ptr 0 0)]))],todo:=[opsAt Tryz.f73 [1,0] 2,.code (cd Tryz.f73 [1,1])]}],hp:=[(0,(.cells (putCells .leaf 0 [(.func 74 [] [])]) 1 [] false),false)],nb:=1}
theorem bEvC_E_0 (l:List Con) :
  LeadsM PP 0 (start PP 73 [(iC l),(.func 74 [] [])]).as (bEvC_c0 l 0).as:=
 wW 1 [0] [ql Con.av l] [rn 27,aL l,rn 4] trivial
theorem bEvC_0_0 (l:List Con)(t8:Int)(y0:Con)(y1:Bool)(h0:decide (t8< (l.length:Int)) =true)(h1:0≤t8)(h2: ((l)[t8.toNat]?) =some y0)(h3:Pure PP 74 [(.agg [(avS y0.name),(nI y0.args)])] (bV y1))(h4: (!y1) =true) :
  Ends PP 0 (bEvC_c0 l t8).as (.ret (bV (!(decide (t8≥ (0:Int)))))) (hpOf [] 0) :=
 wE 2 [] [qp h0,qp h1,qg Con.av h2,qp h3,qp h4] [rn 5,bt 9,rn 14,aI (Con.av y0),rn 11,pB y1,rn 6,bt 16,rn 17] trivial
theorem bEvC_0_1 (l:List Con)(t8:Int)(y0:Con)(y1:Bool)(h0:decide (t8< (l.length:Int)) =true)(h1:0≤t8)(h2: ((l)[t8.toNat]?) =some y0)(h3:Pure PP 74 [(.agg [(avS y0.name),(nI y0.args)])] (bV y1))(h4: (!y1) =false)(h5: (IntKind.i64.wrap (t8+ (1:Int))) = (t8+ (1:Int))) :
  LeadsM PP 0 (bEvC_c0 l t8).as (bEvC_c0 l (t8+ (1:Int))).as:=
 wW 2 [0] [qp h0,qp h1,qg Con.av h2,qp h3,qp h4,qp (congrArg (AV.int .i64) h5)] [rn 5,bt 9,rn 14,aI (Con.av y0),rn 11,pB y1,rn 6,bf 16,rn 5,sI 18 (t8+ (1:Int)),rn 3] trivial
theorem bEvC_0_2 (l:List Con)(t8:Int)(h0:decide (t8< (l.length:Int)) =false) :
  Ends PP 0 (bEvC_c0 l t8).as (.ret (bV true)) (hpOf [] 0) :=
 wE 1 [] [qp h0] [rn 5,bf 9,rn 17] trivial
noncomputable def bEvI_c0 (l:List Int)(t8:Int) :TS:=
 {fr:={fn:=183,nt:=19,sl:=[(0,(.ilst 1 (jI l) true)),(1,(.func 137 [] [(.ptr 0 0)])),(4,(nI 0)),(7,(nI (l.length:Int))),(8,(nI t8))],todo:=[.code (cd Tryz.f183 [1,0,1,0,0]),.inLoop (cd Tryz.f183 [1,0,1,0,0]),.inBlock 0,.code (cd Tryz.f183 [1,1])]},cs:=[{fn:=136,nt:=9,sl:=[(4,(bV false)),(5,(.ilst 1 (jI l) true)),(6,(.func 137 [] [(.ptr 0 0)]))],todo:=[opsAt Tryz.f136 [1,0] 2,.code (cd Tryz.f136 [1,1])]},{fn:=80,nt:=9,sl:=[(4,(bV false)),(5,(.ilst 1 (jI l) true)),(6,(.func 137 [] [(.ptr 0 0)]))],todo:=[opsAt Tryz.f80 [1,0] 2,.code (cd Tryz.f80 [1,1])]}],hp:=[(0,(.cells (putCells .leaf 0 [(.func 81 [] [])]) 1 [] false),false)],nb:=1}
theorem bEvI_E_0 (l:List Int) :
  LeadsM PP 0 (start PP 80 [(.ilst 1 (jI l) true),(.func 81 [] [])]).as (bEvI_c0 l 0).as:=
 wW 1 [0] [ql avI l] [rn 27,aL l,rn 4] trivial
theorem bEvI_0_0 (l:List Int)(t8 y0:Int)(h0:decide (t8< (l.length:Int)) =true)(h1:0≤t8)(h2: ((l)[t8.toNat]?) =some y0)(h3: (!(y0== (1:Int))) =true) :
  Ends PP 0 (bEvI_c0 l t8).as (.ret (bV (!(decide (t8≥ (0:Int)))))) (hpOf [] 0) :=
 wE 1 [] [qp h0,qp h1,qg avI h2,qp h3] [rn 5,bt 9,rn 14,aI (avI y0),rn 29,bt 16,rn 17] trivial
theorem bEvI_0_1 (l:List Int)(t8 y0:Int)(h0:decide (t8< (l.length:Int)) =true)(h1:0≤t8)(h2: ((l)[t8.toNat]?) =some y0)(h3: (!(y0== (1:Int))) =false)(h4: (IntKind.i64.wrap (t8+ (1:Int))) = (t8+ (1:Int))) :
  LeadsM PP 0 (bEvI_c0 l t8).as (bEvI_c0 l (t8+ (1:Int))).as:=
 wW 1 [0] [qp h0,qp h1,qg avI h2,qp h3,qp (congrArg (AV.int .i64) h4)] [rn 5,bt 9,rn 14,aI (avI y0),rn 29,bf 16,rn 5,sI 18 (t8+ (1:Int)),rn 3] trivial
theorem bEvI_0_2 (l:List Int)(t8:Int)(h0:decide (t8< (l.length:Int)) =false) :
  Ends PP 0 (bEvI_c0 l t8).as (.ret (bV true)) (hpOf [] 0) :=
 wE 1 [] [qp h0] [rn 5,bf 9,rn 17] trivial
noncomputable def bMap_c0 (l:List Con)(t10:Int)(l0:List Str) :TS:=
 {fr:={fn:=76,nt:=22,sl:=[(1,(.func 77 [] [])),(4,.nils),(5,(.gl 0 1 0 l0.length false)),(8,(iC l)),(9,(nI (l.length:Int))),(10,(nI t10))],todo:=[.code (cd Tryz.f76 [1,1,0,1,0,0]),.inLoop (cd Tryz.f76 [1,1,0,1,0,0]),.inBlock 0,.code (cd Tryz.f76 [1,1,1])]},cs:=[],hp:=[(0,(.lst 1 (List.map avS l0)),true)],nb:=1}
theorem bMap_E_0 (l:List Con) :
  LeadsM PP 0 (start PP 76 [(iC l),(.func 77 [] [])]).as (bMap_c0 l 0 ([] :List Str)).as:=
 wW 1 [0] [ql Con.av l,qp (p:= ([] :List AV) = (List.map avS ([] :List Str))) rfl,qp (p:= (AV.gl 0 1 0 0 false) = (.gl 0 1 0 ([] :List Str).length false)) rfl] [rn 12,aL l,rn 4,.nilL 5 1,.lset 0 (List.map avS ([] :List Str)),.set 5 (.gl 0 1 0 ([] :List Str).length false)] ⟨kk,trivial⟩
theorem bMap_0_0 (l:List Con)(t10:Int)(l0:List Str)(y0:Con)(h0:decide (t10< (l.length:Int)) =true)(h1:0≤t10)(h2: ((l)[t10.toNat]?) =some y0)(h3:List.length (l0++ [y0.name]) ≤1000000)(h4: (IntKind.i64.wrap (t10+ (1:Int))) = (t10+ (1:Int))) :
  LeadsM PP 0 (bMap_c0 l t10 l0).as (bMap_c0 l (t10+ (1:Int)) (l0++ [y0.name])).as:=
 wW 5 [4] [qp h0,qp h1,qg Con.av h2,qp (app_p1 avS l0),qp h3,qp (app_p3 avS l0 [y0.name]),qp (app_p4 avS l0 [y0.name]),qp (congrArg (AV.int .i64) h4)] [rn 5,bt 11,rn 6,aI (Con.av y0),rn 23,.app (List.map avS (l0++ [y0.name])) (l0++ [y0.name]).length,rn 5,sI 20 (t10+ (1:Int)),rn 3] ⟨kk,trivial⟩
theorem bMap_0_1 (l:List Con)(t10:Int)(l0:List Str)(h0:decide (t10< (l.length:Int)) =false) :
  Ends PP 0 (bMap_c0 l t10 l0).as (.ret (iS l0)) (hpOf [] 0) :=
 wE 1 [] [qp h0,qp (p:=AV.keylessL (List.map avS l0) =true) (keylessL_map _ (fun _=>rfl) _),qp (p:=AV.frzOk 0 1 (List.map avS l0) (List.map avS l0) (.gl 0 1 0 l0.length false)) (frz_whole _ _)] [rn 5,bf 11,rn 8,.frz 4 0 (List.map avS l0)] trivial
noncomputable def bFormed_c0 (p:Prog)(t79:Int)(l1:List Int) :TS:=
 {fr:={fn:=32,nt:=128,sl:=[(1,(.ptr 0 0)),(2,(bV false)),(3,(nI (p.nodes.length:Int))),(4,(.gl 1 1 0 l1.length true)),(77,(iI p.funs)),(78,(nI (p.funs.length:Int))),(79,(nI t79))],todo:=[.code (cd Tryz.f32 [1,1,1,1,1,0,1,0,0]),.inLoop (cd Tryz.f32 [1,1,1,1,1,0,1,0,0]),.inBlock 0,.code (cd Tryz.f32 [1,1,1,1,1,1])]},cs:=[],hp:=[(0,(.cells (putCells .leaf 0 [(iN p.nodes),(iI p.funs),(nI p.main),(iC p.cons)]) 4 [] false),false),(1,(.lst 1 (jI l1)),true)],nb:=2}
noncomputable def bFormed_c1 (p:Prog)(l0:List Int)(t99:Int) :TS:=
 {fr:={fn:=32,nt:=128,sl:=[(2,(bV false)),(3,(nI (p.nodes.length:Int))),(4,(.gl 0 1 0 l0.length true)),(97,(iN p.nodes)),(98,(nI (p.nodes.length:Int))),(99,(nI t99))],todo:=[.code (cd Tryz.f32 [1,1,1,1,1,1,0,1,0,0]),.inLoop (cd Tryz.f32 [1,1,1,1,1,1,0,1,0,0]),.inBlock 2,.code (cd Tryz.f32 [1,1,1,1,1,1,1])]},cs:=[],hp:=[(0,(.lst 1 (jI l0)),true)],nb:=1}
noncomputable def bFormed_c2 (p:Prog)(t105:List Int)(t106:Int)(l0:List Int)(t107 i7 t99:Int) :TS:=
 {fr:={fn:=32,nt:=128,sl:=[(2,(bV false)),(3,(nI (p.nodes.length:Int))),(4,(.gl 0 1 0 l0.length true)),(7,(nI i7)),(97,(iN p.nodes)),(98,(nI (p.nodes.length:Int))),(99,(nI t99)),(105,(iI t105)),(106,(nI t106)),(107,(nI t107))],todo:=[.code (cd Tryz.f32 [1,1,1,1,1,1,0,1,0,0,1,1,0,0,1,1,0,0]),.inLoop (cd Tryz.f32 [1,1,1,1,1,1,0,1,0,0,1,1,0,0,1,1,0,0]),.inBlock 4,.inBlock 3,.code (cd Tryz.f32 [1,1,1,1,1,1,0,1,0,0,1,1,1]),.inLoop (cd Tryz.f32 [1,1,1,1,1,1,0,1,0,0]),.inBlock 2,.code (cd Tryz.f32 [1,1,1,1,1,1,1])]},cs:=[],hp:=[(0,(.lst 1 (jI l0)),true)],nb:=1}
theorem bFormed_E_0 (p:Prog)(h0:decide ((p.nodes.length:Int) > (300:Int)) =true) :
  Ends PP 0 (start PP 32 [(Prog.av p)]).as (.ret (bV false)) (hpOf [] 0) :=
 wE 1 [] [ql Node.av p.nodes,qp h0] [rn 10,aL p.nodes,rn 8,bt 17,rn 40] trivial
theorem bFormed_E_1 (p:Prog)(h0:decide ((p.nodes.length:Int) > (300:Int)) =false)(h1:decide ((p.funs.length:Int) < (1:Int)) =true) :
  Ends PP 0 (start PP 32 [(Prog.av p)]).as (.ret (bV false)) (hpOf [] 0) :=
 wE 1 [] [ql Node.av p.nodes,qp h0,ql avI p.funs,qp h1] [rn 10,aL p.nodes,rn 8,bf 17,rn 3,aL p.funs,rn 3,bt 24,rn 33] trivial
theorem bFormed_E_2 (p:Prog)(h0:decide ((p.nodes.length:Int) > (300:Int)) =false)(h1:decide ((p.funs.length:Int) < (1:Int)) =false)(h2:decide ((p.funs.length:Int) > (p.nodes.length:Int)) =true) :
  Ends PP 0 (start PP 32 [(Prog.av p)]).as (.ret (bV false)) (hpOf [] 0) :=
 wE 1 [] [ql Node.av p.nodes,qp h0,ql avI p.funs,qp h1,ql avI p.funs,qp h2] [rn 10,aL p.nodes,rn 8,bf 17,rn 3,aL p.funs,rn 3,bf 24,rn 3,aL p.funs,rn 4,bt 32,rn 25] trivial
theorem bFormed_E_3 (p:Prog)(h0:decide ((p.nodes.length:Int) > (300:Int)) =false)(h1:decide ((p.funs.length:Int) < (1:Int)) =false)(h2:decide ((p.funs.length:Int) > (p.nodes.length:Int)) =false)(h3:decide ((p.cons.length:Int) > (20:Int)) =true) :
  Ends PP 0 (start PP 32 [(Prog.av p)]).as (.ret (bV false)) (hpOf [] 0) :=
 wE 1 [] [ql Node.av p.nodes,qp h0,ql avI p.funs,qp h1,ql avI p.funs,qp h2,ql Con.av p.cons,qp h3] [rn 10,aL p.nodes,rn 8,bf 17,rn 3,aL p.funs,rn 3,bf 24,rn 3,aL p.funs,rn 4,bf 32,rn 3,aL p.cons,rn 3,bt 39,rn 18] trivial
theorem bFormed_E_4 (p:Prog)(y0:Bool)(h0:decide ((p.nodes.length:Int) > (300:Int)) =false)(h1:decide ((p.funs.length:Int) < (1:Int)) =false)(h2:decide ((p.funs.length:Int) > (p.nodes.length:Int)) =false)(h3:decide ((p.cons.length:Int) > (20:Int)) =false)(h4: (IntKind.i64.wrap ((p.funs.length:Int) - (1:Int))) = ((p.funs.length:Int) - (1:Int)))(h5:Pure PP 65 [(nI p.main),(nI 0),(nI ((p.funs.length:Int) - (1:Int)))] (bV y0))(h6: (!y0) =true) :
  Ends PP 0 (start PP 32 [(Prog.av p)]).as (.ret (bV false)) (hpOf [] 0) :=
 wE 1 [] [ql Node.av p.nodes,qp h0,ql avI p.funs,qp h1,ql avI p.funs,qp h2,ql Con.av p.cons,qp h3,ql avI p.funs,qp (congrArg (AV.int .i64) h4),qp h5,qp h6] [rn 10,aL p.nodes,rn 8,bf 17,rn 3,aL p.funs,rn 3,bf 24,rn 3,aL p.funs,rn 4,bf 32,rn 3,aL p.cons,rn 3,bf 39,rn 6,aL p.funs,rn 1,sI 47 ((p.funs.length:Int) - (1:Int)),pB y0,rn 3,bt 50,rn 6] trivial
theorem bFormed_E_5 (p:Prog)(y0 y1:Bool)(h0:decide ((p.nodes.length:Int) > (300:Int)) =false)(h1:decide ((p.funs.length:Int) < (1:Int)) =false)(h2:decide ((p.funs.length:Int) > (p.nodes.length:Int)) =false)(h3:decide ((p.cons.length:Int) > (20:Int)) =false)(h4: (IntKind.i64.wrap ((p.funs.length:Int) - (1:Int))) = ((p.funs.length:Int) - (1:Int)))(h5:Pure PP 65 [(nI p.main),(nI 0),(nI ((p.funs.length:Int) - (1:Int)))] (bV y0))(h6: (!y0) =false)(h7:Pure PP 73 [(iC p.cons),(.func 74 [] [])] (bV y1))(h8: (!y1) =true) :
  Ends PP 0 (start PP 32 [(Prog.av p)]).as (.ret (bV false)) (hpOf [] 0) :=
 wE 1 [] [ql Node.av p.nodes,qp h0,ql avI p.funs,qp h1,ql avI p.funs,qp h2,ql Con.av p.cons,qp h3,ql avI p.funs,qp (congrArg (AV.int .i64) h4),qp h5,qp h6,qp h7,qp h8] [rn 10,aL p.nodes,rn 8,bf 17,rn 3,aL p.funs,rn 3,bf 24,rn 3,aL p.funs,rn 4,bf 32,rn 3,aL p.cons,rn 3,bf 39,rn 6,aL p.funs,rn 1,sI 47 ((p.funs.length:Int) - (1:Int)),pB y0,rn 3,bf 50,rn 8,pB y1,rn 2,bt 56,rn 23] trivial
theorem bFormed_E_6 (p:Prog)(y0 y1:Bool)(y2:List Str)(y3:Bool)(h0:decide ((p.nodes.length:Int) > (300:Int)) =false)(h1:decide ((p.funs.length:Int) < (1:Int)) =false)(h2:decide ((p.funs.length:Int) > (p.nodes.length:Int)) =false)(h3:decide ((p.cons.length:Int) > (20:Int)) =false)(h4: (IntKind.i64.wrap ((p.funs.length:Int) - (1:Int))) = ((p.funs.length:Int) - (1:Int)))(h5:Pure PP 65 [(nI p.main),(nI 0),(nI ((p.funs.length:Int) - (1:Int)))] (bV y0))(h6: (!y0) =false)(h7:Pure PP 73 [(iC p.cons),(.func 74 [] [])] (bV y1))(h8: (!y1) =false)(h9:Pure PP 76 [(iC p.cons),(.func 77 [] [])] (iS y2))(h10:Pure PP 75 [(iS y2)] (bV y3))(h11: (!y3) =true) :
  Ends PP 0 (start PP 32 [(Prog.av p)]).as (.ret (bV false)) (hpOf [] 0) :=
 wE 1 [] [ql Node.av p.nodes,qp h0,ql avI p.funs,qp h1,ql avI p.funs,qp h2,ql Con.av p.cons,qp h3,ql avI p.funs,qp (congrArg (AV.int .i64) h4),qp h5,qp h6,qp h7,qp h8,qp h9,qp h10,qp h11] [rn 10,aL p.nodes,rn 8,bf 17,rn 3,aL p.funs,rn 3,bf 24,rn 3,aL p.funs,rn 4,bf 32,rn 3,aL p.cons,rn 3,bf 39,rn 6,aL p.funs,rn 1,sI 47 ((p.funs.length:Int) - (1:Int)),pB y0,rn 3,bf 50,rn 8,pB y1,rn 2,bf 56,rn 3,.pure (iS y2),pB y3,rn 3,bt 64,rn 15] trivial
theorem bFormed_E_7 (p:Prog)(y0 y1:Bool)(y2:List Str)(y3 y4:Bool)(h0:decide ((p.nodes.length:Int) > (300:Int)) =false)(h1:decide ((p.funs.length:Int) < (1:Int)) =false)(h2:decide ((p.funs.length:Int) > (p.nodes.length:Int)) =false)(h3:decide ((p.cons.length:Int) > (20:Int)) =false)(h4: (IntKind.i64.wrap ((p.funs.length:Int) - (1:Int))) = ((p.funs.length:Int) - (1:Int)))(h5:Pure PP 65 [(nI p.main),(nI 0),(nI ((p.funs.length:Int) - (1:Int)))] (bV y0))(h6: (!y0) =false)(h7:Pure PP 73 [(iC p.cons),(.func 74 [] [])] (bV y1))(h8: (!y1) =false)(h9:Pure PP 76 [(iC p.cons),(.func 77 [] [])] (iS y2))(h10:Pure PP 75 [(iS y2)] (bV y3))(h11: (!y3) =false)(h12:Pure PP 78 [(iN p.nodes),(.func 79 [(Prog.av p)] [])] (bV y4))(h13: (!y4) =true) :
  Ends PP 0 (start PP 32 [(Prog.av p)]).as (.ret (bV false)) (hpOf [] 0) :=
 wE 1 [] [ql Node.av p.nodes,qp h0,ql avI p.funs,qp h1,ql avI p.funs,qp h2,ql Con.av p.cons,qp h3,ql avI p.funs,qp (congrArg (AV.int .i64) h4),qp h5,qp h6,qp h7,qp h8,qp h9,qp h10,qp h11,qp h12,qp h13] [rn 10,aL p.nodes,rn 8,bf 17,rn 3,aL p.funs,rn 3,bf 24,rn 3,aL p.funs,rn 4,bf 32,rn 3,aL p.cons,rn 3,bf 39,rn 6,aL p.funs,rn 1,sI 47 ((p.funs.length:Int) - (1:Int)),pB y0,rn 3,bf 50,rn 8,pB y1,rn 2,bf 56,rn 3,.pure (iS y2),pB y3,rn 3,bf 64,rn 5,pB y4,rn 3,bt 72,rn 6] trivial
theorem bFormed_E_8 (p:Prog)(y0 y1:Bool)(y2:List Str)(y3 y4:Bool)(h0:decide ((p.nodes.length:Int) > (300:Int)) =false)(h1:decide ((p.funs.length:Int) < (1:Int)) =false)(h2:decide ((p.funs.length:Int) > (p.nodes.length:Int)) =false)(h3:decide ((p.cons.length:Int) > (20:Int)) =false)(h4: (IntKind.i64.wrap ((p.funs.length:Int) - (1:Int))) = ((p.funs.length:Int) - (1:Int)))(h5:Pure PP 65 [(nI p.main),(nI 0),(nI ((p.funs.length:Int) - (1:Int)))] (bV y0))(h6: (!y0) =false)(h7:Pure PP 73 [(iC p.cons),(.func 74 [] [])] (bV y1))(h8: (!y1) =false)(h9:Pure PP 76 [(iC p.cons),(.func 77 [] [])] (iS y2))(h10:Pure PP 75 [(iS y2)] (bV y3))(h11: (!y3) =false)(h12:Pure PP 78 [(iN p.nodes),(.func 79 [(Prog.av p)] [])] (bV y4))(h13: (!y4) =false)(h14:p.nodes.length<100000) :
  LeadsM PP 0 (start PP 32 [(Prog.av p)]).as (bFormed_c0 p 0 (List.replicate p.nodes.length (0:Int))).as:=
 wW 2 [0,1] [ql Node.av p.nodes,qp h0,ql avI p.funs,qp h1,ql avI p.funs,qp h2,ql Con.av p.cons,qp h3,ql avI p.funs,qp (congrArg (AV.int .i64) h4),qp h5,qp h6,qp h7,qp h8,qp h9,qp h10,qp h11,qp h12,qp h13,qp (p:= (p.nodes.length:Int) = ((p.nodes.length:Nat) :Int)) rfl,qp (p:= (p.nodes.length:Int) = ((p.nodes.length:Nat) :Int)) rfl,qp h14,qp (p:=List.replicate p.nodes.length (avI (0:Int)) = (jI (List.replicate p.nodes.length (0:Int)))) (rep_map _ _ _),qp (p:= (AV.gl 1 1 0 p.nodes.length true) = (.gl 1 1 0 (List.replicate p.nodes.length (0:Int)).length true)) (gl_len (List.length_replicate ..).symm),ql avI p.funs] [rn 10,aL p.nodes,rn 8,bf 17,rn 3,aL p.funs,rn 3,bf 24,rn 3,aL p.funs,rn 4,bf 32,rn 3,aL p.cons,rn 3,bf 39,rn 6,aL p.funs,rn 1,sI 47 ((p.funs.length:Int) - (1:Int)),pB y0,rn 3,bf 50,rn 8,pB y1,rn 2,bf 56,rn 3,.pure (iS y2),pB y3,rn 3,bf 64,rn 5,pB y4,rn 3,bf 72,rn 5,.mk p.nodes.length,.lset 1 (jI (List.replicate p.nodes.length (0:Int))),.set 74 (.gl 1 1 0 (List.replicate p.nodes.length (0:Int)).length true),rn 8,aL p.funs,rn 4] ⟨kk,trivial⟩
theorem bFormed_0_0 (p:Prog)(t79:Int)(l1:List Int)(y0:Int)(y1:Bool)(h0:decide (t79< (p.funs.length:Int)) =true)(h1:0≤t79)(h2: ((p.funs)[t79.toNat]?) =some y0)(h3: (IntKind.i64.wrap ((p.nodes.length:Int) - (1:Int))) = ((p.nodes.length:Int) - (1:Int)))(h4:Pure PP 65 [(nI y0),(nI 0),(nI ((p.nodes.length:Int) - (1:Int)))] (bV y1))(h5: (!y1) =true) :
  Ends PP 0 (bFormed_c0 p t79 l1).as (.ret (bV false)) (hpOf [] 0) :=
 wE 2 [] [qp h0,qp h1,qg avI h2,qp (congrArg (AV.int .i64) h3),qp h4,qp h5] [rn 5,bt 80,rn 6,aI (avI y0),rn 9,sI 85 ((p.nodes.length:Int) - (1:Int)),pB y1,rn 2,bt 87,rn 6] trivial
theorem bFormed_0_1 (p:Prog)(t79:Int)(l1:List Int)(y0:Int)(y1:Bool)(y2:Int)(h0:decide (t79< (p.funs.length:Int)) =true)(h1:0≤t79)(h2: ((p.funs)[t79.toNat]?) =some y0)(h3: (IntKind.i64.wrap ((p.nodes.length:Int) - (1:Int))) = ((p.nodes.length:Int) - (1:Int)))(h4:Pure PP 65 [(nI y0),(nI 0),(nI ((p.nodes.length:Int) - (1:Int)))] (bV y1))(h5: (!y1) =false)(h6:0≤y0)(h7:y0< ((l1.length:Nat) :Int))(h8: ((l1)[y0.toNat]?) =some y2)(h9: (IntKind.i64.wrap (y2+ (1:Int))) = (y2+ (1:Int)))(h10: (IntKind.i64.wrap (t79+ (1:Int))) = (t79+ (1:Int))) :
  LeadsM PP 0 (bFormed_c0 p t79 l1).as (bFormed_c0 p (t79+ (1:Int)) (List.set l1 y0.toNat (y2+ (1:Int)))).as:=
 wW 2 [0,1] [qp h0,qp h1,qg avI h2,qp (congrArg (AV.int .i64) h3),qp h4,qp h5,qp h6,qp h7,qh avI h8,qp (congrArg (AV.int .i64) h9),qp h6,qp h7,qh avI h8,qp (p:=setElem (avI y2) 0 [(nI (y2+ (1:Int)))] =some (avI (y2+ (1:Int)))) rfl,qp (p:= (jI l1).set (0+y0.toNat) (avI (y2+ (1:Int))) = (jI (List.set l1 y0.toNat (y2+ (1:Int))))) (set_map0 _ _ _ _),qs 1 1 0 l1 y0.toNat (y2+ (1:Int)) true,qs 1 1 0 l1 y0.toNat (y2+ (1:Int)) true,qp (congrArg (AV.int .i64) h10)] [rn 5,bt 80,rn 6,aI (avI y0),rn 9,sI 85 ((p.nodes.length:Int) - (1:Int)),pB y1,rn 2,bf 87,rn 5,.ans (.ix),aI (avI y2),rn 1,sI 92 (y2+ (1:Int)),.ans (.ix),.st (avI y2) (avI (y2+ (1:Int))),.lset 1 (jI (List.set l1 y0.toNat (y2+ (1:Int)))),.set 4 (.gl 1 1 0 (List.set l1 y0.toNat (y2+ (1:Int))).length true),.set 88 (.gl 1 1 0 (List.set l1 y0.toNat (y2+ (1:Int))).length true),rn 4,sI 94 (t79+ (1:Int)),rn 3] ⟨kk,trivial⟩
theorem bFormed_0_2 (p:Prog)(t79:Int)(l1:List Int)(h0:decide (t79< (p.funs.length:Int)) =false) :
  LeadsM PP 0 (bFormed_c0 p t79 l1).as (bFormed_c1 p l1 0).as:=
 wW 2 [1] [qp h0,ql Node.av p.nodes] [rn 5,bf 80,rn 8,aL p.nodes,rn 4] ⟨kk,trivial⟩
theorem bFormed_1_0 (p:Prog)(l0:List Int)(t99:Int)(y0:Node)(h0:decide (t99< (p.nodes.length:Int)) =true)(h1:0≤t99)(h2: ((p.nodes)[t99.toNat]?) =some y0) :
  LeadsM PP 0 (bFormed_c1 p l0 t99).as (bFormed_c2 p y0.kids (y0.kids.length:Int) l0 0 t99 t99).as:=
 wW 2 [0] [qp h0,qp h1,qg Node.av h2,ql avI y0.kids] [rn 5,bt 100,rn 7,aI (Node.av y0),rn 9,aL y0.kids,rn 4] ⟨kk,trivial⟩
theorem bFormed_1_1 (p:Prog)(l0:List Int)(t99:Int)(y0:Bool)(h0:decide (t99< (p.nodes.length:Int)) =false)(h1:Pure PP 80 [(.ilst 1 (jI l0) true),(.func 81 [] [])] (bV y0)) :
  Ends PP 0 (bFormed_c1 p l0 t99).as (.ret (bV y0)) (hpOf [] 0) :=
 wE 1 [] [qp h0,qp (p:=AV.keylessL (jI l0) =true) (keylessL_map _ (fun _=>rfl) _),qp (p:=AV.frzOk 0 1 (jI l0) (jI l0) (.gl 0 1 0 l0.length true)) (frz_whole _ _),qp h1] [rn 5,bf 100,rn 5,.frz 126 0 (jI l0),pB y0,rn 3] trivial
theorem bFormed_2_0 (p:Prog)(t105:List Int)(t106:Int)(l0:List Int)(t107 i7:Int)(t99 y0:Int)(y1:Bool)(h0:decide (t107<t106) =true)(h1:0≤t107)(h2: ((t105)[t107.toNat]?) =some y0)(h3: (IntKind.i64.wrap (i7+ (1:Int))) = (i7+ (1:Int)))(h4: (IntKind.i64.wrap ((p.nodes.length:Int) - (1:Int))) = ((p.nodes.length:Int) - (1:Int)))(h5:Pure PP 65 [(nI y0),(nI (i7+ (1:Int))),(nI ((p.nodes.length:Int) - (1:Int)))] (bV y1))(h6: (!y1) =true) :
  Ends PP 0 (bFormed_c2 p t105 t106 l0 t107 i7 t99).as (.ret (bV false)) (hpOf [] 0) :=
 wE 1 [] [qp h0,qp h1,qg avI h2,qp (congrArg (AV.int .i64) h3),qp (congrArg (AV.int .i64) h4),qp h5,qp h6] [rn 5,bt 108,rn 6,aI (avI y0),rn 9,sI 113 (i7+ (1:Int)),rn 2,sI 115 ((p.nodes.length:Int) - (1:Int)),pB y1,rn 2,bt 117,rn 6] trivial
theorem bFormed_2_1 (p:Prog)(t105:List Int)(t106:Int)(l0:List Int)(t107 i7:Int)(t99 y0:Int)(y1:Bool)(y2:Int)(h0:decide (t107<t106) =true)(h1:0≤t107)(h2: ((t105)[t107.toNat]?) =some y0)(h3: (IntKind.i64.wrap (i7+ (1:Int))) = (i7+ (1:Int)))(h4: (IntKind.i64.wrap ((p.nodes.length:Int) - (1:Int))) = ((p.nodes.length:Int) - (1:Int)))(h5:Pure PP 65 [(nI y0),(nI (i7+ (1:Int))),(nI ((p.nodes.length:Int) - (1:Int)))] (bV y1))(h6: (!y1) =false)(h7:0≤y0)(h8:y0< ((l0.length:Nat) :Int))(h9: ((l0)[y0.toNat]?) =some y2)(h10: (IntKind.i64.wrap (y2+ (1:Int))) = (y2+ (1:Int)))(h11: (IntKind.i64.wrap (t107+ (1:Int))) = (t107+ (1:Int))) :
  LeadsM PP 0 (bFormed_c2 p t105 t106 l0 t107 i7 t99).as (bFormed_c2 p t105 t106 (List.set l0 y0.toNat (y2+ (1:Int))) (t107+ (1:Int)) i7 t99).as:=
 wW 1 [0] [qp h0,qp h1,qg avI h2,qp (congrArg (AV.int .i64) h3),qp (congrArg (AV.int .i64) h4),qp h5,qp h6,qp h7,qp h8,qh avI h9,qp (congrArg (AV.int .i64) h10),qp h7,qp h8,qh avI h9,qp (p:=setElem (avI y2) 0 [(nI (y2+ (1:Int)))] =some (avI (y2+ (1:Int)))) rfl,qp (p:= (jI l0).set (0+y0.toNat) (avI (y2+ (1:Int))) = (jI (List.set l0 y0.toNat (y2+ (1:Int))))) (set_map0 _ _ _ _),qs 0 1 0 l0 y0.toNat (y2+ (1:Int)) true,qs 0 1 0 l0 y0.toNat (y2+ (1:Int)) true,qp (congrArg (AV.int .i64) h11)] [rn 5,bt 108,rn 6,aI (avI y0),rn 9,sI 113 (i7+ (1:Int)),rn 2,sI 115 ((p.nodes.length:Int) - (1:Int)),pB y1,rn 2,bf 117,rn 5,.ans (.ix),aI (avI y2),rn 1,sI 122 (y2+ (1:Int)),.ans (.ix),.st (avI y2) (avI (y2+ (1:Int))),.lset 0 (jI (List.set l0 y0.toNat (y2+ (1:Int)))),.set 4 (.gl 0 1 0 (List.set l0 y0.toNat (y2+ (1:Int))).length true),.set 118 (.gl 0 1 0 (List.set l0 y0.toNat (y2+ (1:Int))).length true),rn 4,sI 124 (t107+ (1:Int)),rn 3] ⟨kk,trivial⟩
theorem bFormed_2_2 (p:Prog)(t105:List Int)(t106:Int)(l0:List Int)(t107 i7 t99:Int)(h0:decide (t107<t106) =false)(h1: (IntKind.i64.wrap (t99+ (1:Int))) = (t99+ (1:Int))) :
  LeadsM PP 0 (bFormed_c2 p t105 t106 l0 t107 i7 t99).as (bFormed_c1 p l0 (t99+ (1:Int))).as:=
 wW 1 [0] [qp h0,qp (congrArg (AV.int .i64) h1)] [rn 5,bf 108,rn 5,sI 125 (t99+ (1:Int)),rn 3] ⟨kk,trivial⟩
theorem bCheck_E_0 (p:Prog)(y0:Bool)(h0:Pure PP 32 [(Prog.av p)] (bV y0))(h1: (!y0) =true) :
  Ends PP 0 (start PP 10 [(Prog.av p)]).as (.ret (nI 2)) (hpOf [] 0) :=
 wE 1 [] [qp h0,qp h1] [rn 10,pB y0,rn 2,bt 6,rn 6] trivial
theorem bCheck_E_1 (p:Prog)(y0:Bool)(h0:Pure PP 32 [(Prog.av p)] (bV y0))(h1: (!y0) =false) :
  Ends PP 0 (start PP 10 [(Prog.av p)]).as (.ret (nI 0)) (hpOf [] 0) :=
 wE 1 [] [qp h0,qp h1] [rn 10,pB y0,rn 2,bf 6,rn 7] trivial
end Go.Hb
namespace Go.Hb
open Go.Proofs
theorem bIn_pure (n lo hi:Int) :Pure PP 65 [.int .i64 n,.int .i64 lo,.int .i64 hi] (.bool (inB n lo hi)) :=by
 refine pure_at (by kernel_rfl) rfl rfl ?_
 by_cases h:n≥lo
 · have e:inB n lo hi=decide (n≤hi) :=by unfold inB;rw [decide_eq_true (show lo≤n from h),Bool.true_and]
   rw [e];exact bIn_E_0 n lo hi (decide_eq_true h)
 · have e:inB n lo hi=false:=by unfold inB;rw [decide_eq_false (show ¬lo≤n from h),Bool.false_and]
   rw [e];exact bIn_E_1 n lo hi (decide_eq_false h)
theorem bInt_pure (n:Int) :Pure PP 180 [.int .i64 n] (.bool (inB n (-1000000000) 1000000000)) :=
 pure_at (by kernel_rfl) rfl rfl (bInt_E_0 n _ (bIn_pure n _ _))
theorem decode_hi (b:ByteArray)(i:Nat)(h:128≤ (b.get! i).toNat) :128≤ (Utf8.decode b i).1:=by
 unfold Utf8.decode Utf8.runeError
 simp only [Nat.add_zero]
 rw [if_neg (show ¬ (b.get! i).toNat<0x80 by omega)]
 repeat' split
 all_goals first
  |assumption
  | (simp_all;done)
  | (rename_i q;simp only [Bool.and_eq_true,decide_eq_true_eq,ge_iff_le]at q;simp only;omega)
theorem adec_of {s:Str}{i:Nat}{c:UInt8}(h:s[i]?=some c) :∃r d,adec (List.length s) (bytesNat s) i=some (r,d) ∧ (c.toNat<128→r=c.toNat∧d=1) ∧ (128≤c.toNat→128≤r) :=by
 have hi:= (List.getElem?_eq_some_iff.1 h).1
 have hb:=byte_at h
 unfold adec
 have e1:Nat.blt i (List.length s) =true:=by rw [blt_dec];exact decide_eq_true hi
 have e2:Nat.mod (Nat.div (bytesNat s) (Nat.pow 256 i)) 256=c.toNat:=hb
 rw [e1,e2]
 simp only [cond]
 by_cases k:c.toNat<128
 · have e3:Nat.blt c.toNat 128=true:=by rw [blt_dec];exact decide_eq_true k
   rw [e3]
   exact⟨_,_,rfl,fun _=> ⟨rfl,rfl⟩,fun g=>by omega⟩
 · have e3:Nat.blt c.toNat 128=false:=by rw [blt_dec];exact decide_eq_false k
   rw [e3]
   refine⟨_,_,rfl,fun g=>by omega,fun _=>?_⟩
   have hn:natBytes (List.length s) (bytesNat s) =s:=natBytes_bytesNat s
   rw [hn]
   have hg: ((⟨⟨s⟩⟩ :ByteArray).get! (i+0)).toNat=c.toNat:=by
    simp only [Nat.add_zero,ByteArray.get!]
    have: (⟨s⟩ :Array UInt8)[i]! =c:=by
     rw [Array.getElem!_eq_getD,Array.getD_eq_getD_getElem?,show(⟨s⟩ :Array UInt8) =s.toArray from rfl,List.getElem?_toArray,h];rfl
    rw [this]
   exact decode_hi _ _ (by rw [Nat.add_zero]at hg;rw [hg];omega)
theorem bSmall_loop (s:Str) :∀ (t:Str) (i:Nat),s.drop i=t→Ends PP 0 (bSmall_c0 s i).as (.ret (.bool (smallS t))) (hpOf [] 0)
 | [],i,h=>bSmall_0_3 s i (dropN h)
 | c :: t,i,h=>by
  obtain⟨h1,h2,h3⟩ :=dropC h
  obtain⟨r,d,q1,q2,q3⟩ :=adec_of h1
  by_cases g1:c.toNat<97
  · have:= (q2 (by omega)).1
    exact Ends.eqv (bSmall_0_0 s i r d h3 q1 sd) (by simp [smallS,smallC];omega)
  · by_cases g2:122<c.toNat
    · have hr:122<r:=by
       by_cases k:c.toNat<128
       ·have:= (q2 k).1;omega
       ·have:=q3 (by omega);omega
      exact Ends.eqv (bSmall_0_1 s i r d h3 q1 sd sd) (by simp [smallS,smallC];omega)
    · obtain⟨rfl,rfl⟩ :=q2 (by omega)
      refine(bSmall_0_2 s i _ _ h3 q1 sd sd).ends ?_
      have e:smallC c=true:=by simp [smallC];omega
      exact Ends.eqv (bSmall_loop s t (i+1) h2) (by simp [smallS,e])
theorem bSmall_pure (s:Str) :Pure PP 148 [avS s] (.bool (smallS s)) :=
 pure_at (by kernel_rfl) rfl rfl ((bSmall_E_0 s).ends (bSmall_loop s s 0 rfl))
theorem bGreat_pure (s:Str) :Pure PP 128 [avS s] (.bool (greatS s)) :=by
 refine pure_at (by kernel_rfl) rfl rfl ?_
 match s with
 | [] =>exact bGreat_E_4 [] rfl
 | c ::t=>
  have h0: (!(strEq (List.length (c::t)) (bytesNat (c::t)) 0 0)) =true:=by rw [strEq_nil];rfl
  by_cases g0: (c::t).length≤8
  · have g0': (decide (((List.length (c::t) :Nat) :Int) ≤ (8:Int))) =true:=sd
    by_cases g1:65≤c.toNat
    · by_cases g2:c.toNat≤90
      ·exact Ends.eqv (bGreat_E_0 (c::t) c _ h0 g0' rfl sd sd (by simp) (bSmall_pure t)) (by simp only [greatS,decide_eq_true g0,decide_eq_true g1,decide_eq_true g2,Bool.true_and])
      ·exact Ends.eqv (bGreat_E_1 (c::t) c h0 g0' rfl sd sd) (by simp only [greatS,decide_eq_false g2,Bool.and_false,Bool.false_and])
    ·exact Ends.eqv (bGreat_E_2 (c::t) c h0 g0' rfl sd) (by simp only [greatS,decide_eq_false g1,Bool.and_false,Bool.false_and])
  ·exact Ends.eqv (bGreat_E_3 (c::t) h0 sd) (by simp only [greatS,decide_eq_false g0,Bool.false_and])
theorem bCon_pure (c:Con) :Pure PP 74 [Con.av c] (.bool (consOk1 c)) :=by
 refine pure_at (by kernel_rfl) rfl rfl ?_
 have hg:=bGreat_pure c.name
 cases k:greatS c.name with
 |false=>rw [k]at hg;exact Ends.eqv (bCon_E_1 c false hg rfl) (by simp [consOk1,k])
 |true=>rw [k]at hg;exact Ends.eqv (bCon_E_0 c true _ hg rfl (bIn_pure _ _ _)) (by simp [consOk1,k])
def numOk (p:Prog)(x:Node) :Bool:=if x.op=14 then true else nodeHead1 p x.op x.n
theorem bNumber_E (p:Prog)(x:Node)(hf:p.funs.length≤1000) :Ends PP 0 (start PP 134 [Prog.av p,Node.av x]).as (.ret (.bool (numOk p x))) (hpOf [] 0) :=by
 cases hb1: (x.op== (1:Int))with
 | true=>
  exact Ends.eqv (bNumber_E_0 p x  (inB (x.n) (-1000000000) 1000000000) hb1 (bInt_pure (x.n))) (by simp_all [numOk,nodeHead1] <;>rfl)
 | false=>
  cases hb2: (x.op== (2:Int))with
  | true=>
   exact Ends.eqv (bNumber_E_1 p x  (inB (x.n) 0 1) hb1 hb2 (bIn_pure (x.n) 0 1)) (by simp_all [numOk,nodeHead1] <;>rfl)
  | false=>
   cases hb3: (x.op== (24:Int))with
   | true=>
    exact Ends.eqv (bNumber_E_2 p x  (inB (x.n) 0 3) hb1 hb2 hb3 (bIn_pure (x.n) 0 3)) (by simp_all [numOk,nodeHead1] <;>rfl)
   | false=>
    cases hb4: (x.op== (4:Int))with
    | true=>
     exact Ends.eqv (bNumber_E_3 p x  (inB (x.n) (0- ((List.length p.funs:Nat) :Int)) 29) hb1 hb2 hb3 hb4 sdI (bIn_pure (x.n) (0- ((List.length p.funs:Nat) :Int)) 29)) (by simp_all [numOk,nodeHead1] <;>rfl)
    | false=>
     cases hb5: (x.op== (14:Int))with
     | true=>
      exact Ends.eqv (bNumber_E_4 p x   hb1 hb2 hb3 hb4 hb5) (by simp_all [numOk,nodeHead1] <;>rfl)
     | false=>
      exact Ends.eqv (bNumber_E_5 p x   hb1 hb2 hb3 hb4 hb5) (by simp_all [numOk,nodeHead1] <;>rfl)
theorem bNumber_pure (p:Prog)(x:Node)(hf:p.funs.length≤1000) :Pure PP 134 [Prog.av p,Node.av x] (.bool (numOk p x)) :=
 pure_at (by kernel_rfl) rfl rfl (bNumber_E p x hf)
mutual
def bsize :Pat→Int→Int
 | .mk _ _ _ ps,most=>bsizes ps most 1
def bsizes :List Pat→Int→Int→Int
 | [],_,n=>n
 |p::ps,most,n=>if n>most then n else bsizes ps most (n+bsize p (most-n))
end
mutual
theorem bsize_le :∀ (p:Pat) (m:Int),0≤m→1≤bsize p m∧bsize p m≤m+1
 | .mk _ _ _ ps,m,h=>by rw [bsize];exact bsizes_le ps m 1 (by omega) (by omega)
theorem bsizes_le :∀ (ps:List Pat) (m n:Int),1≤n→n≤m+1→1≤bsizes ps m n∧bsizes ps m n≤m+1
 | [],m,n,h1,h2=>by rw [bsizes];omega
 | p ::ps,m,n,h1,h2=>by
  rw [bsizes]
  split
  ·omega
  · have a:=bsize_le p (m-n) (by omega)
    exact bsizes_le ps m _ (by omega) (by omega)
end
mutual
theorem bsize_ok :∀ (p:Pat) (m:Int),0≤m→ ((psize p:Int) ≤m→bsize p m=psize p) ∧ (m<psize p→m<bsize p m)
 | .mk _ _ _ ps,m,h=>by
  have:=bsizes_ok ps m 1 (by omega)
  simp only [bsize,psize]
  constructor
  ·intro g;have:=this.1 (by omega);omega
  ·intro g;exact this.2 (by omega)
theorem bsizes_ok :∀ (ps:List Pat) (m n:Int),n≤m+1→ (n+psizes ps≤m→bsizes ps m n=n+psizes ps) ∧ (m<n+psizes ps→m<bsizes ps m n)
 | [],m,n,h=>by simp only [bsizes,psizes];omega
 | p ::ps,m,n,h=>by
  simp only [bsizes,psizes]
  split
  ·omega
  · rename_i k
    have a:=bsize_ok p (m-n) (by omega)
    have l:=bsize_le p (m-n) (by omega)
    have b:=bsizes_ok ps m (n+bsize p (m-n)) (by omega)
    constructor
    · intro g
      have:=a.1 (by omega)
      have:=b.1 (by omega)
      omega
    · intro g
      refine b.2 ?_
      by_cases q: (psize p:Int) ≤m-n
      ·have:=a.1 q;omega
      ·have:=a.2 (by omega);omega
end
theorem bsize_iff (p:Pat)(m:Int)(h:0≤m) :bsize p m≤m↔ (psize p:Int) ≤m:=by
 have:=bsize_ok p m h
 constructor
 · intro g;by_cases k: (psize p:Int) ≤m
   ·exact k
   ·have:=this.2 (by omega);omega
 ·intro g;have:=this.1 g;omega
theorem bSize_loop (f n:Int)(s:Str)(ps:List Pat)(m:Int)(hm:m≤1000)(ih:∀p∈ps,∀m:Int,0≤m→m≤1000→Pure PP 132 [Pat.av p,.int .i64 m] (.int .i64 (bsize p m))) :
  ∀ (t:List Pat) (i:Nat) (k:Int),ps.drop i=t→ (i:Int) +1≤k→k≤m+1→Ends PP 0 (bSize_c0 f n s ps m k (i:Int)).as (.ret (.int .i64 (bsizes t m k))) (hpOf [] 0)
 | [],i,k,h,h1,h2=>by
  have:=dropN h
  rw [bsizes]
  exact bSize_0_2 f n s ps m k i sd
 | .mk f' n' s' ps'::t,i,k,h,h1,h2=>by
  obtain⟨g1,g2,g3⟩ :=dropC h
  rw [bsizes]
  split
  ·exact bSize_0_0 f n s ps m k i f' n' s' ps' sd sd sd sd
  · rename_i hk
    have l:=bsize_le (.mk f' n' s' ps') (m-k) (by omega)
    refine(bSize_0_1 f n s ps m k i f' n' s' ps' _ sd sd sd sd sd (ih (.mk f' n' s' ps') (List.mem_of_getElem? g1) (m-k) (by omega) (by omega)) sd sd).ends ?_
    exact bSize_loop f n s ps m hm ih t (i+1) _ g2 (by omega) (by omega)
mutual
theorem bSize_pure :∀ (p:Pat) (m:Int),0≤m→m≤1000→Pure PP 132 [Pat.av p,.int .i64 m] (.int .i64 (bsize p m))
 | .mk f n s ps,m,h0,h1=>by
  refine pure_at (by kernel_rfl) (by simp [AV.keylessL,pat_kl,AV.keyless]) rfl ?_
  rw [bsize]
  refine(bSize_E_0 f n s ps m).ends ?_
  exact bSize_loop f n s ps m h1 (bSize_all ps) ps 0 1 rfl (by omega) (by omega)
theorem bSize_all :∀ (ps:List Pat),∀p∈ps,∀m:Int,0≤m→m≤1000→Pure PP 132 [Pat.av p,.int .i64 m] (.int .i64 (bsize p m))
 | [],p,hp,_,_,_=>by cases hp
 | q::ps,p,hp,m,h0,h1=>by
  rcases List.mem_cons.1 hp with e|hp
  ·rw [e];exact bSize_pure q m h0 h1
  ·exact bSize_all ps p hp m h0 h1
end
end Go.Hb
namespace Go.Hb
open Go.Proofs
set_option maxHeartbeats 2000000
theorem sdW {p:Prop}(h:p:=by simp_all only [inB_iff,inB_not,beq_iff_eq,decide_eq_true_eq,decide_eq_false_iff_not] <;>omega) :p:=h
theorem idW {p:Prop}(h:p:=by exact⟨_,List.getElem?_eq_getElem (by simp_all only [inB_iff,inB_not,beq_iff_eq,decide_eq_true_eq,decide_eq_false_iff_not] <;>omega)⟩) :p:=h
theorem bEvP_loop (l:List Pat)(p:Prog)(hl:l.length<1000000)(ih:∀q∈l,Pure PP 133 [Prog.av p,Pat.av q] (.bool (patOk p.cons q))) :
  ∀ (t:List Pat) (i:Nat),l.drop i=t→Ends PP 0 (bEvP_c0 l p (i:Int)).as (.ret (.bool (patsOk p.cons t))) (hpOf [] 0)
 | [],i,h=>by
  have:=dropN h
  exact Ends.eqv (bEvP_0_2 l p i sd) (by simp [patsOk])
 | .mk f n s ps::t,i,h=>by
  obtain⟨g1,g2,g3⟩ :=dropC h
  have hq:=ih (.mk f n s ps) (List.mem_of_getElem? g1)
  cases k:patOk p.cons (.mk f n s ps)with
  | false=>
   rw [k]at hq
   exact Ends.eqv (bEvP_0_0 l p i f n s ps false sd sd sd hq rfl) (by simp [patsOk,k])
  | true=>
   rw [k]at hq
   refine(bEvP_0_1 l p i f n s ps true sd sd sd hq rfl sd).ends ?_
   exact Ends.eqv (bEvP_loop l p hl ih t (i+1) g2) (by simp [patsOk,k])
theorem bEvP_pure (l:List Pat)(p:Prog)(hl:l.length<1000000)(ih:∀q∈l,Pure PP 133 [Prog.av p,Pat.av q] (.bool (patOk p.cons q))) :
  Pure PP 135 [.ilst 4 (Pats.av l) false,.func 133 [Prog.av p] []] (.bool (patsOk p.cons l)) :=
 pure_at (by kernel_rfl) (by simp [AV.keylessL,AV.keyless,Prog.av]) rfl ((bEvP_E_0 l p).ends (bEvP_loop l p hl ih l 0 rfl))
theorem bPat_E (p:Prog)(q_form q_n:Int)(q_text:Str)(q_parts:List Pat)(hc:p.cons.length≤1000)(hev:Pure PP 135 [.ilst 4 (Pats.av q_parts) false,.func 133 [Prog.av p] []] (.bool (patsOk p.cons q_parts))) :
  Ends PP 0 (start PP 133 [Prog.av p,Pat.av (.mk q_form q_n q_text q_parts)]).as (.ret (.bool (patOk p.cons (.mk q_form q_n q_text q_parts)))) (hpOf [] 0) :=by
 have hw:IntKind.i64.wrap ((p.cons.length:Int) -1) = (p.cons.length:Int) -1:=by apply wrap64<;>omega
 cases hb1: (!(strEq (List.length q_text) (bytesNat q_text) 0 0))with
 | true=>
  exact Ends.eqv (bPat_E_0 p q_form q_n q_text q_parts   hb1) (by clear hev;simp_all [patOk,patHead,argsAt,strEq_nil,len_beq] <;>rfl)
 | false =>
  cases hb2: (!(patsOk p.cons q_parts))with
  | true=>
   exact Ends.eqv (bPat_E_1 p q_form q_n q_text q_parts  (patsOk p.cons q_parts) hb1 hev hb2) (by clear hev;simp_all [patOk,patHead,argsAt,strEq_nil,len_beq] <;>rfl)
  | false =>
   cases hb3: (q_form== (1:Int))with
   | true=>
    cases hb4: (q_n== (0:Int))with
    | true=>
     exact Ends.eqv (bPat_E_2 p q_form q_n q_text q_parts  (patsOk p.cons q_parts) hb1 hev hb2 hb3 hb4) (by clear hev;simp_all [patOk,patHead,argsAt,strEq_nil,len_beq] <;>rfl)
    | false=>
     exact Ends.eqv (bPat_E_3 p q_form q_n q_text q_parts  (patsOk p.cons q_parts) hb1 hev hb2 hb3 hb4) (by clear hev;simp_all [patOk,patHead,argsAt,strEq_nil,len_beq] <;>rfl)
   | false =>
    cases hb5: (q_form== (2:Int))with
    | true=>
     cases hb6: (q_n== (0:Int))with
     | true=>
      exact Ends.eqv (bPat_E_4 p q_form q_n q_text q_parts  (patsOk p.cons q_parts) hb1 hev hb2 hb3 hb5 hb6) (by clear hev;simp_all [patOk,patHead,argsAt,strEq_nil,len_beq] <;>rfl)
     | false=>
      exact Ends.eqv (bPat_E_5 p q_form q_n q_text q_parts  (patsOk p.cons q_parts) hb1 hev hb2 hb3 hb5 hb6) (by clear hev;simp_all [patOk,patHead,argsAt,strEq_nil,len_beq] <;>rfl)
    | false=>
     cases hb7: (q_form== (5:Int))with
     | true=>
      cases hb8: (q_n== (0:Int))with
      | true=>
       exact Ends.eqv (bPat_E_6 p q_form q_n q_text q_parts  (patsOk p.cons q_parts) hb1 hev hb2 hb3 hb5 hb7 hb8) (by clear hev;simp_all [patOk,patHead,argsAt,strEq_nil,len_beq] <;>rfl)
      | false=>
       exact Ends.eqv (bPat_E_7 p q_form q_n q_text q_parts  (patsOk p.cons q_parts) hb1 hev hb2 hb3 hb5 hb7 hb8) (by clear hev;simp_all [patOk,patHead,argsAt,strEq_nil,len_beq] <;>rfl)
     | false=>
      cases hb9: (q_form== (3:Int))with
      | true=>
       cases hb10: (inB q_n (-1000000000) 1000000000)with
       | true=>
        exact Ends.eqv (bPat_E_8 p q_form q_n q_text q_parts  (patsOk p.cons q_parts) (inB q_n (-1000000000) 1000000000) hb1 hev hb2 hb3 hb5 hb7 hb9 (bInt_pure q_n) hb10) (by clear hev;simp_all [patOk,patHead,argsAt,strEq_nil,len_beq] <;>rfl)
       | false=>
        exact Ends.eqv (bPat_E_9 p q_form q_n q_text q_parts  (patsOk p.cons q_parts) (inB q_n (-1000000000) 1000000000) hb1 hev hb2 hb3 hb5 hb7 hb9 (bInt_pure q_n) hb10) (by clear hev;simp_all [patOk,patHead,argsAt,strEq_nil,len_beq] <;>rfl)
      | false=>
       cases hb11: (q_form== (4:Int))with
       | true=>
        cases hb12: (inB q_n 0 1)with
        | true=>
         exact Ends.eqv (bPat_E_10 p q_form q_n q_text q_parts  (patsOk p.cons q_parts) (inB q_n 0 1) hb1 hev hb2 hb3 hb5 hb7 hb9 hb11 (bIn_pure q_n 0 1) hb12) (by clear hev;simp_all [patOk,patHead,argsAt,strEq_nil,len_beq] <;>rfl)
        | false=>
         exact Ends.eqv (bPat_E_11 p q_form q_n q_text q_parts  (patsOk p.cons q_parts) (inB q_n 0 1) hb1 hev hb2 hb3 hb5 hb7 hb9 hb11 (bIn_pure q_n 0 1) hb12) (by clear hev;simp_all [patOk,patHead,argsAt,strEq_nil,len_beq] <;>rfl)
       | false=>
        cases hb13: (q_form== (6:Int))with
        | true=>
         cases hb14: (inB q_n 0 (IntKind.i64.wrap (((List.length p.cons:Nat) :Int) - (1:Int))))with
         | true=>
          obtain⟨y2,hx15⟩ :∃y,((p.cons)[q_n.toNat]?) =some y:=idW
          exact Ends.eqv (bPat_E_12 p q_form q_n q_text q_parts  (patsOk p.cons q_parts) (inB q_n 0 (IntKind.i64.wrap (((List.length p.cons:Nat) :Int) - (1:Int)))) y2 hb1 hev hb2 hb3 hb5 hb7 hb9 hb11 hb13 (bIn_pure q_n 0 (IntKind.i64.wrap (((List.length p.cons:Nat) :Int) - (1:Int)))) hb14 sdW hx15) (by clear hev;simp_all [patOk,patHead,argsAt,strEq_nil,len_beq] <;>rfl)
         | false=>
          exact Ends.eqv (bPat_E_13 p q_form q_n q_text q_parts  (patsOk p.cons q_parts) (inB q_n 0 (IntKind.i64.wrap (((List.length p.cons:Nat) :Int) - (1:Int)))) hb1 hev hb2 hb3 hb5 hb7 hb9 hb11 hb13 (bIn_pure q_n 0 (IntKind.i64.wrap (((List.length p.cons:Nat) :Int) - (1:Int)))) hb14) (by clear hev;simp_all [patOk,patHead,argsAt,strEq_nil,len_beq] <;>rfl)
        | false=>
         exact Ends.eqv (bPat_E_14 p q_form q_n q_text q_parts  (patsOk p.cons q_parts) hb1 hev hb2 hb3 hb5 hb7 hb9 hb11 hb13) (by clear hev;simp_all [patOk,patHead,argsAt,strEq_nil,len_beq] <;>rfl)
mutual
theorem bPat_pure (p:Prog)(hc:p.cons.length≤1000) :∀ (q:Pat),psize q<1000000→Pure PP 133 [Prog.av p,Pat.av q] (.bool (patOk p.cons q))
 | .mk f n s ps,h=>by
  refine pure_at (by kernel_rfl) (by simp [AV.keylessL,pat_kl,AV.keyless,Prog.av]) rfl ?_
  simp only [psize]at h
  have:=psizes_len ps
  exact bPat_E p f n s ps hc (bEvP_pure ps p (by omega) (bPat_all p hc ps (by omega)))
theorem bPat_all (p:Prog)(hc:p.cons.length≤1000) :∀ (ps:List Pat),psizes ps<1000000→∀q∈ps,Pure PP 133 [Prog.av p,Pat.av q] (.bool (patOk p.cons q))
 | [],_,q,hq=>by cases hq
 | r::ps,h,q,hq=>by
  simp only [psizes]at h
  rcases List.mem_cons.1 hq with e|hq
  ·rw [e];exact bPat_pure p hc r (by omega)
  ·exact bPat_all p hc ps (by omega) q hq
end
def fixedK (op:Int) :Option Int:=
 if op=1∨op=2∨op=3∨op=4∨op=21∨op=25∨op=28 then some 0
 else if op=5∨op=27∨op=16∨op=17∨op=19∨op=20∨op=23∨op=26∨op=24 then some 1
 else if op=6∨op=7∨op=9∨op=10∨op=11∨op=12∨op=13∨op=18∨op=22 then some 2
 else if op=8 then some 3 else none
def kidsOfV (op:Int) :AV:=
 match fixedK op with
 |some k=>.iface 231 (.int .i64 k)
 |none=>if op=15 then .iface 189 (.agg [])else if op=14 then .iface 232 (.agg [])else .nili
theorem kidsN_fixed {op k:Int}(h:fixedK op=some k)(pats args:Int) :kidsN op pats args=k∧op≠15∧op≠14:=by
 unfold fixedK at h
 unfold kidsN
 split at h
 ·rename_i g;rw [if_pos g];simp only [Option.some.injEq]at h;refine⟨h,?_,?_⟩ <;>omega
 · rename_i g0;rw [if_neg g0]
   split at h
   ·rename_i g;rw [if_pos g];simp only [Option.some.injEq]at h;refine⟨h,?_,?_⟩ <;>omega
   · rename_i g1;rw [if_neg g1]
     split at h
     ·rename_i g;rw [if_pos g];simp only [Option.some.injEq]at h;refine⟨h,?_,?_⟩ <;>omega
     · rename_i g2;rw [if_neg g2]
       split at h
       ·rename_i g;rw [if_pos g];simp only [Option.some.injEq]at h;refine⟨h,?_,?_⟩ <;>omega
       ·cases h
theorem kidsN_none {op:Int}(h:fixedK op=none)(pats args:Int) :kidsN op pats args=if op=15 then 1+pats else if op=14 then args else -1:=by
 unfold fixedK at h
 unfold kidsN
 split at h
 ·cases h
 · rename_i g0;rw [if_neg g0]
   split at h
   ·cases h
   · rename_i g1;rw [if_neg g1]
     split at h
     ·cases h
     · rename_i g2;rw [if_neg g2]
       split at h
       ·cases h
       ·rename_i g;rw [if_neg g]
theorem bKidsOf_E (op : Int) :Ends PP 0 (start PP 130 [.int .i64 op]).as (.ret (kidsOfV op)) (hpOf [] 0) :=by
 cases hb1: (op== (1:Int))with
 | true=>
  exact Ends.eqv (bKidsOf_E_0 op   hb1) (by simp_all [kidsOfV,fixedK])
 | false =>
  cases hb2: (op== (2:Int))with
  | true=>
   exact Ends.eqv (bKidsOf_E_1 op   hb1 hb2) (by simp_all [kidsOfV,fixedK])
  | false =>
   cases hb3: (op== (3:Int))with
   | true=>
    exact Ends.eqv (bKidsOf_E_2 op   hb1 hb2 hb3) (by simp_all [kidsOfV,fixedK])
   | false =>
    cases hb4: (op== (4:Int))with
    | true=>
     exact Ends.eqv (bKidsOf_E_3 op   hb1 hb2 hb3 hb4) (by simp_all [kidsOfV,fixedK])
    | false =>
     cases hb5: (op== (21:Int))with
     | true=>
      exact Ends.eqv (bKidsOf_E_4 op   hb1 hb2 hb3 hb4 hb5) (by simp_all [kidsOfV,fixedK])
     | false =>
      cases hb6: (op== (25:Int))with
      | true=>
       exact Ends.eqv (bKidsOf_E_5 op   hb1 hb2 hb3 hb4 hb5 hb6) (by simp_all [kidsOfV,fixedK])
      | false =>
       cases hb7: (op== (28:Int))with
       | true=>
        exact Ends.eqv (bKidsOf_E_6 op   hb1 hb2 hb3 hb4 hb5 hb6 hb7) (by simp_all [kidsOfV,fixedK])
       | false =>
        cases hb8: (op== (5:Int))with
        | true=>
         exact Ends.eqv (bKidsOf_E_7 op   hb1 hb2 hb3 hb4 hb5 hb6 hb7 hb8) (by simp_all [kidsOfV,fixedK])
        | false =>
         cases hb9: (op== (27:Int))with
         | true=>
          exact Ends.eqv (bKidsOf_E_8 op   hb1 hb2 hb3 hb4 hb5 hb6 hb7 hb8 hb9) (by simp_all [kidsOfV,fixedK])
         | false =>
          cases hb10: (op== (16:Int))with
          | true=>
           exact Ends.eqv (bKidsOf_E_9 op   hb1 hb2 hb3 hb4 hb5 hb6 hb7 hb8 hb9 hb10) (by simp_all [kidsOfV,fixedK])
          | false =>
           cases hb11: (op== (17:Int))with
           | true=>
            exact Ends.eqv (bKidsOf_E_10 op   hb1 hb2 hb3 hb4 hb5 hb6 hb7 hb8 hb9 hb10 hb11) (by simp_all [kidsOfV,fixedK])
           | false =>
            cases hb12: (op== (19:Int))with
            | true=>
             exact Ends.eqv (bKidsOf_E_11 op   hb1 hb2 hb3 hb4 hb5 hb6 hb7 hb8 hb9 hb10 hb11 hb12) (by simp_all [kidsOfV,fixedK])
            | false =>
             cases hb13: (op== (20:Int))with
             | true=>
              exact Ends.eqv (bKidsOf_E_12 op   hb1 hb2 hb3 hb4 hb5 hb6 hb7 hb8 hb9 hb10 hb11 hb12 hb13) (by simp_all [kidsOfV,fixedK])
             | false =>
              cases hb14: (op== (23:Int))with
              | true=>
               exact Ends.eqv (bKidsOf_E_13 op   hb1 hb2 hb3 hb4 hb5 hb6 hb7 hb8 hb9 hb10 hb11 hb12 hb13 hb14) (by simp_all [kidsOfV,fixedK])
              | false =>
               cases hb15: (op== (24:Int))with
               | true=>
                exact Ends.eqv (bKidsOf_E_14 op   hb1 hb2 hb3 hb4 hb5 hb6 hb7 hb8 hb9 hb10 hb11 hb12 hb13 hb14 hb15) (by simp_all [kidsOfV,fixedK])
               | false =>
                cases hb16: (op== (26:Int))with
                | true=>
                 exact Ends.eqv (bKidsOf_E_15 op   hb1 hb2 hb3 hb4 hb5 hb6 hb7 hb8 hb9 hb10 hb11 hb12 hb13 hb14 hb15 hb16) (by simp_all [kidsOfV,fixedK])
                | false =>
                 cases hb17: (op== (6:Int))with
                 | true=>
                  exact Ends.eqv (bKidsOf_E_16 op   hb1 hb2 hb3 hb4 hb5 hb6 hb7 hb8 hb9 hb10 hb11 hb12 hb13 hb14 hb15 hb16 hb17) (by simp_all [kidsOfV,fixedK])
                 | false =>
                  cases hb18: (op== (7:Int))with
                  | true=>
                   exact Ends.eqv (bKidsOf_E_17 op   hb1 hb2 hb3 hb4 hb5 hb6 hb7 hb8 hb9 hb10 hb11 hb12 hb13 hb14 hb15 hb16 hb17 hb18) (by simp_all [kidsOfV,fixedK])
                  | false =>
                   cases hb19: (op== (9:Int))with
                   | true=>
                    exact Ends.eqv (bKidsOf_E_18 op   hb1 hb2 hb3 hb4 hb5 hb6 hb7 hb8 hb9 hb10 hb11 hb12 hb13 hb14 hb15 hb16 hb17 hb18 hb19) (by simp_all [kidsOfV,fixedK])
                   | false =>
                    cases hb20: (op== (10:Int))with
                    | true=>
                     exact Ends.eqv (bKidsOf_E_19 op   hb1 hb2 hb3 hb4 hb5 hb6 hb7 hb8 hb9 hb10 hb11 hb12 hb13 hb14 hb15 hb16 hb17 hb18 hb19 hb20) (by simp_all [kidsOfV,fixedK])
                    | false =>
                     cases hb21: (op== (11:Int))with
                     | true=>
                      exact Ends.eqv (bKidsOf_E_20 op   hb1 hb2 hb3 hb4 hb5 hb6 hb7 hb8 hb9 hb10 hb11 hb12 hb13 hb14 hb15 hb16 hb17 hb18 hb19 hb20 hb21) (by simp_all [kidsOfV,fixedK])
                     | false =>
                      cases hb22: (op== (12:Int))with
                      | true=>
                       exact Ends.eqv (bKidsOf_E_21 op   hb1 hb2 hb3 hb4 hb5 hb6 hb7 hb8 hb9 hb10 hb11 hb12 hb13 hb14 hb15 hb16 hb17 hb18 hb19 hb20 hb21 hb22) (by simp_all [kidsOfV,fixedK])
                      | false =>
                       cases hb23: (op== (13:Int))with
                       | true=>
                        exact Ends.eqv (bKidsOf_E_22 op   hb1 hb2 hb3 hb4 hb5 hb6 hb7 hb8 hb9 hb10 hb11 hb12 hb13 hb14 hb15 hb16 hb17 hb18 hb19 hb20 hb21 hb22 hb23) (by simp_all [kidsOfV,fixedK])
                       | false=>
                        cases hb24: (op== (18:Int))with
                        | true=>
                         exact Ends.eqv (bKidsOf_E_23 op   hb1 hb2 hb3 hb4 hb5 hb6 hb7 hb8 hb9 hb10 hb11 hb12 hb13 hb14 hb15 hb16 hb17 hb18 hb19 hb20 hb21 hb22 hb23 hb24) (by simp_all [kidsOfV,fixedK])
                        | false=>
                         cases hb25: (op== (22:Int))with
                         | true=>
                          exact Ends.eqv (bKidsOf_E_24 op   hb1 hb2 hb3 hb4 hb5 hb6 hb7 hb8 hb9 hb10 hb11 hb12 hb13 hb14 hb15 hb16 hb17 hb18 hb19 hb20 hb21 hb22 hb23 hb24 hb25) (by simp_all [kidsOfV,fixedK])
                         | false=>
                          cases hb26: (op== (8:Int))with
                          | true=>
                           exact Ends.eqv (bKidsOf_E_25 op   hb1 hb2 hb3 hb4 hb5 hb6 hb7 hb8 hb9 hb10 hb11 hb12 hb13 hb14 hb15 hb16 hb17 hb18 hb19 hb20 hb21 hb22 hb23 hb24 hb25 hb26) (by simp_all [kidsOfV,fixedK])
                          | false=>
                           cases hb27: (op== (14:Int))with
                           | true=>
                            exact Ends.eqv (bKidsOf_E_26 op   hb1 hb2 hb3 hb4 hb5 hb6 hb7 hb8 hb9 hb10 hb11 hb12 hb13 hb14 hb15 hb16 hb17 hb18 hb19 hb20 hb21 hb22 hb23 hb24 hb25 hb26 hb27) (by simp_all [kidsOfV,fixedK])
                           | false=>
                            cases hb28: (op== (15:Int))with
                            | true=>
                             exact Ends.eqv (bKidsOf_E_27 op   hb1 hb2 hb3 hb4 hb5 hb6 hb7 hb8 hb9 hb10 hb11 hb12 hb13 hb14 hb15 hb16 hb17 hb18 hb19 hb20 hb21 hb22 hb23 hb24 hb25 hb26 hb27 hb28) (by simp_all [kidsOfV,fixedK])
                            | false=>
                             exact Ends.eqv (bKidsOf_E_28 op   hb1 hb2 hb3 hb4 hb5 hb6 hb7 hb8 hb9 hb10 hb11 hb12 hb13 hb14 hb15 hb16 hb17 hb18 hb19 hb20 hb21 hb22 hb23 hb24 hb25 hb26 hb27 hb28) (by simp_all [kidsOfV,fixedK])
theorem kidsOfV_kl (op:Int) :AV.keyless (kidsOfV op) =true:=by
 unfold kidsOfV;split
 ·rfl
 · split
   ·rfl
   ·split<;>rfl
theorem bKidsOf_pure (op:Int) :Pure PP 130 [.int .i64 op] (kidsOfV op) :=
 pure_at (by kernel_rfl) rfl (kidsOfV_kl op) (bKidsOf_E op)
theorem bNode_loop (p:Prog)(x:Node)(hc:p.cons.length≤1000)(hx:x.pats.length≤10) :
  ∀ (t:List Pat) (i:Nat),x.pats.drop i=t→Ends PP 0 (bNode_c0 p x (i:Int)).as (.ret (.bool (t.all (nodePat p.cons)))) (hpOf [] 0)
 | [],i,h=>by
  have:=dropN h
  exact Ends.eqv (bNode_0_3 p x i sd) (by simp)
 | .mk f n s ps::t,i,h=>by
  obtain⟨g1,g2,g3⟩ :=dropC h
  have hs:=bSize_pure (.mk f n s ps) 12 (by omega) (by omega)
  by_cases k:psize (.mk f n s ps) ≤12
  · have hg:bsize (.mk f n s ps) 12≤12:= (bsize_iff (.mk f n s ps) 12 (by omega)).2 (by omega)
    have hq:=bPat_pure p hc (.mk f n s ps) (by omega)
    cases kq:patOk p.cons (.mk f n s ps)with
    | false=>
     rw [kq]at hq
     exact Ends.eqv (bNode_0_0 p x i f n s ps _ false sd sd sd hs (decide_eq_true hg) hq rfl) (by simp [nodePat,kq])
    | true=>
     rw [kq]at hq
     refine(bNode_0_1 p x i f n s ps _ true sd sd sd hs (decide_eq_true hg) hq rfl sd).ends ?_
     exact Ends.eqv (bNode_loop p x hc hx t (i+1) g2) (by simp [nodePat,k,kq])
  · have hg:¬bsize (.mk f n s ps) 12≤12:=fun g=>k (by have:= (bsize_iff (.mk f n s ps) 12 (by omega)).1 g;omega)
    exact Ends.eqv (bNode_0_2 p x i f n s ps _ sd sd sd hs (decide_eq_false hg)) (by simp [nodePat,k])
theorem bNode_pure (p:Prog)(x:Node)(hc:p.cons.length≤1000)(hf:p.funs.length≤1000)(hx:x.pats.length≤10)(hk:x.kids.length≤10) :Pure PP 79 [Prog.av p,Node.av x] (.bool (nodeOk p x)) :=by
 refine pure_at (by kernel_rfl) rfl rfl ?_
 have hw:IntKind.i64.wrap ((p.cons.length:Int) -1) = (p.cons.length:Int) -1:=by apply wrap64<;>omega
 have hko:=bKidsOf_pure x.op
 have hn:=bNumber_pure p x hf
 have hl:=bNode_loop p x hc hx x.pats 0 rfl
 cases kf:fixedK x.op with
 | some k=>
  obtain⟨e1,e2,e3⟩ :=kidsN_fixed kf (x.pats.length:Int) (nodeArgs p x)
  have ev:kidsOfV x.op= .iface 231 (.int .i64 k) :=by unfold kidsOfV;rw [kf]
  rw [ev]at hko
  have en:nodeOk p x= (numOk p x&&decide (x.pats.length=0) &&x.pats.all (nodePat p.cons) &&decide ((x.kids.length:Int) =k)) :=by
   simp only [nodeOk,nodeHead,numOk,e1,if_neg e2,if_neg e3]
  rw [en]
  by_cases g0:x.pats.length=0
  · by_cases g1: (x.kids.length:Int) =k
    · have b1: (((List.length x.kids:Nat) :Int) ==k) =true:=by simp [g1]
      cases g2:numOk p x with
      | false=>
       rw [g2]at hn
       exact Ends.eqv (bNode_E_11 p x k false hko sd b1 hn rfl) (by simp)
      | true=>
       rw [g2]at hn
       refine(bNode_E_10 p x k true hko sd b1 hn rfl).ends ?_
       exact Ends.eqv hl (by simp [g0,g1])
    · have b1: (((List.length x.kids:Nat) :Int) ==k) =false:=by simp [g1]
      exact Ends.eqv (bNode_E_12 p x k hko sd b1) (by simp [g1])
  ·exact Ends.eqv (bNode_E_9 p x k hko sd) (by simp [g0])
 | none =>
  have e1:=kidsN_none kf (x.pats.length:Int) (nodeArgs p x)
  by_cases h15:x.op=15
  · have ev:kidsOfV x.op= .iface 189 (.agg []) :=by unfold kidsOfV;rw [kf];simp only [h15,if_true]
    rw [ev]at hko
    have en:nodeOk p x= (numOk p x&&inB (x.pats.length:Int) 1 5&&x.pats.all (nodePat p.cons) &&decide ((x.kids.length:Int) =1+ (x.pats.length:Int))) :=by
     simp only [nodeOk,nodeHead,numOk,e1,if_pos h15,if_neg (show ¬x.op=14 by omega)]
    rw [en]
    have hi:=bIn_pure (x.pats.length:Int) 1 5
    cases g0:inB (x.pats.length:Int) 1 5 with
    | false=>
     rw [g0]at hi
     exact Ends.eqv (bNode_E_3 p x false hko hi rfl) (by simp)
    | true=>
     rw [g0]at hi
     by_cases g1: (x.kids.length:Int) =1+ (x.pats.length:Int)
     · have b1: (((List.length x.kids:Nat) :Int) == ((1:Int) + ((List.length x.pats:Nat) :Int))) =true:=by simp [g1]
       cases g2:numOk p x with
       | false=>
        rw [g2]at hn
        exact Ends.eqv (bNode_E_1 p x true false hko hi rfl sd b1 hn rfl) (by simp)
       | true=>
        rw [g2]at hn
        refine(bNode_E_0 p x true true hko hi rfl sd b1 hn rfl).ends ?_
        exact Ends.eqv hl (by simp [g1])
     · have b1: (((List.length x.kids:Nat) :Int) == ((1:Int) + ((List.length x.pats:Nat) :Int))) =false:=by simp [g1]
       exact Ends.eqv (bNode_E_2 p x true hko hi rfl sd b1) (by simp [g1])
  · by_cases h14:x.op=14
    · have ev:kidsOfV x.op= .iface 232 (.agg []) :=by unfold kidsOfV;rw [kf];simp [h14]
      rw [ev]at hko
      have en:nodeOk p x= (inB x.n 0 ((p.cons.length:Int) -1) &&decide (x.pats.length=0) &&x.pats.all (nodePat p.cons) &&decide ((x.kids.length:Int) =nodeArgs p x)) :=by
       simp only [nodeOk,nodeHead,nodeHead1,e1,if_neg h15,if_pos h14,if_neg (show ¬x.op=1 by omega),if_neg (show ¬x.op=2 by omega),if_neg (show ¬x.op=4 by omega),if_neg (show ¬x.op=24 by omega)]
      rw [en]
      by_cases g0:x.pats.length=0
      · have hi:=bIn_pure x.n 0 ((p.cons.length:Int) -1)
        rw [←hw]at hi
        cases g1:inB x.n 0 ((p.cons.length:Int) -1)with
        | false=>
         rw [hw,g1,←hw]at hi
         exact Ends.eqv (bNode_E_8 p x false hko sd hi rfl) (by simp)
        | true=>
         rw [hw,g1,←hw]at hi
         have hb:=inB_iff.1 g1
         obtain⟨c,hcx⟩ :∃c,p.cons[x.n.toNat]?=some c:= ⟨_,List.getElem?_eq_getElem (by omega)⟩
         have ea:nodeArgs p x=c.args:=by simp [nodeArgs,h14,g1,argsAt,hcx]
         rw [ea]
         by_cases g2: (x.kids.length:Int) =c.args
         · have b1: (((List.length x.kids:Nat) :Int) ==c.args) =true:=by simp [g2]
           have hnn:numOk p x=true:=by simp [numOk,h14]
           rw [hnn]at hn
           refine(bNode_E_5 p x true c true hko sd hi rfl (by omega) hcx b1 hn rfl).ends ?_
           exact Ends.eqv hl (by simp [g0,g2])
         · have b1: (((List.length x.kids:Nat) :Int) ==c.args) =false:=by simp [g2]
           exact Ends.eqv (bNode_E_7 p x true c hko sd hi rfl (by omega) hcx b1) (by simp [g2])
      ·exact Ends.eqv (bNode_E_4 p x hko sd) (by simp [g0])
    · have ev:kidsOfV x.op= .nili:=by unfold kidsOfV;rw [kf];simp [h15,h14]
      rw [ev]at hko
      have en:nodeOk p x=false:=by
       have:kidsN x.op x.pats.length (nodeArgs p x) = -1:=by rw [e1,if_neg h15,if_neg h14]
       have h2:¬ (x.kids.length:Int) = -1:=by omega
       simp [nodeOk,this,h2]
      rw [en]
      exact bNode_E_13 p x hko
end Go.Hb
namespace Go.Hb
open Go.Proofs
set_option maxHeartbeats 1000000
def insAll :List Str→List (Str×Bool) →List (Str×Bool)
 | [],m=>m
 |x::t,m=>insAll t (mIns x true m)
theorem bDiffer_loop (l:List Str)(hl:l.length<1000000) :∀ (t:List Str) (i:Nat) (m:List (Str×Bool)),l.drop i=t→Ends PP 0 (bDiffer_c0 l (i:Int) m).as (.ret (.bool (decide ((insAll t m).length=l.length)))) (hpOf [] 0)
 | [],i,m,h=>by
  have:=dropN h
  refine Ends.eqv (bDiffer_0_1 l i m sd) ?_
  have: (((List.length m:Nat) :Int) == ((List.length l:Nat) :Int)) =decide (m.length=l.length) :=by
   by_cases k:m.length=l.length<;>simp [k] <;>omega
  rw [this];rfl
 | x::t,i,m,h=>by
  obtain⟨g1,g2,g3⟩ :=dropC h
  refine(bDiffer_0_0 l i m x sd sd sd sd).ends ?_
  exact bDiffer_loop l hl t (i+1) _ g2
theorem mIns_old {k:Str}{v w:Bool}:∀ {m:List (Str×Bool)},mGet k m=some w→ (mIns k v m).map Prod.fst=m.map Prod.fst
 | [],h=>by cases h
 | e::m,h=>by
  unfold mGet at h
  unfold mIns
  split at h
  ·rename_i hk;rw [if_pos hk];simp [hk]
  ·rename_i hk;rw [if_neg hk];simp [mIns_old h]
theorem mIns_new {k:Str}{v:Bool}:∀ {m:List (Str×Bool)},mGet k m=none→ (mIns k v m).map Prod.fst=m.map Prod.fst++ [k]
 | [],_=>rfl
 | e::m,h=>by
  unfold mGet at h
  unfold mIns
  split at h
  ·cases h
  ·rename_i hk;rw [if_neg hk];simp [mIns_new h]
theorem mGet_has {k:Str}:∀ {m:List (Str×Bool)},(mGet k m).isSome=hasS (m.map Prod.fst) k
 | [] =>rfl
 | e ::m=>by
  unfold mGet
  split
  ·rename_i hk;simp [hasS,hk]
  · rename_i hk
    have:¬e.1=k:=fun h=>hk h.symm
    rw [mGet_has];simp [hasS,this]
theorem insAll_le :∀ (t:List Str) (m:List (Str×Bool)),(insAll t m).length≤m.length+t.length
 | [],m=>by simp [insAll]
 | x::t,m=>by
  have a:=insAll_le t (mIns x true m)
  have b: (mIns x true m).length≤m.length+1:=by
   cases h:mGet x m with
   |none=>have:=congrArg List.length (mIns_new (v:=true) h);simp at this;omega
   |some w=>have:=congrArg List.length (mIns_old (v:=true) h);simp at this;omega
  simp only [insAll,List.length_cons];omega
theorem insAll_iff :∀ (t:List Str) (m:List (Str×Bool)),(insAll t m).length=m.length+t.length↔differFrom (m.map Prod.fst) t=true
 | [],m=>by simp [insAll,differFrom]
 | x::t,m=>by
  simp only [insAll,differFrom]
  cases h:mGet x m with
  | some w=>
   have e:=mIns_old (v:=true) h
   have hs:hasS (m.map Prod.fst) x=true:=by rw [←mGet_has,h];rfl
   have a:=insAll_le t (mIns x true m)
   have b:=congrArg List.length e
   simp only [List.length_map]at b
   rw [hs]
   constructor
   ·intro g;simp only [List.length_cons]at g;omega
   ·intro g;simp at g
  | none=>
   have e:=mIns_new (v:=true) h
   have hs:hasS (m.map Prod.fst) x=false:=by rw [←mGet_has,h];rfl
   have ih:=insAll_iff t (mIns x true m)
   have b:=congrArg List.length e
   simp only [List.length_map,List.length_append,List.length_singleton]at b
   rw [hs,←e]
   simp only [Bool.not_false,Bool.true_and,List.length_cons]
   rw [←ih,b]
   omega
theorem bDiffer_pure (l:List Str)(hl:l.length<1000000) :Pure PP 75 [.ilst 1 (List.map avS l) false] (.bool (differS l)) :=by
 refine pure_at (by kernel_rfl) rfl rfl ((bDiffer_E_0 l).ends (Ends.eqv (bDiffer_loop l hl l 0 [] rfl) ?_))
 have:=insAll_iff l []
 simp only [List.length_nil,Nat.zero_add,List.map_nil]at this
 congr 1
 cases k:differS l with
 |true=>exact decide_eq_true (this.2 k)
 |false=>exact decide_eq_false fun g=>by have:=this.1 g;unfold differS at k;rw [k]at this;cases this
theorem bEvC_loop (l:List Con)(hl:l.length<1000000) :∀ (t:List Con) (i:Nat),l.drop i=t→Ends PP 0 (bEvC_c0 l (i:Int)).as (.ret (.bool (t.all consOk1))) (hpOf [] 0)
 | [],i,h=>by
  have:=dropN h
  exact Ends.eqv (bEvC_0_2 l i sd) (by simp)
 | c::t,i,h=>by
  obtain⟨g1,g2,g3⟩ :=dropC h
  have hq:=bCon_pure c
  cases k:consOk1 c with
  |false=>rw [k]at hq;exact Ends.eqv (bEvC_0_0 l i c false sd sd sd hq rfl) (by simp [k])
  | true=>
   rw [k]at hq
   refine(bEvC_0_1 l i c true sd sd sd hq rfl sd).ends ?_
   exact Ends.eqv (bEvC_loop l hl t (i+1) g2) (by simp [k])
theorem bEvC_pure (l:List Con)(hl:l.length<1000000) :Pure PP 73 [.ilst 2 (List.map Con.av l) false,.func 74 [] []] (.bool (l.all consOk1)) :=
 pure_at (by kernel_rfl) rfl rfl ((bEvC_E_0 l).ends (bEvC_loop l hl l 0 rfl))
theorem bEvN_loop (l:List Node)(p:Prog)(hl:l.length<1000000)(ih:∀x∈l,Pure PP 79 [Prog.av p,Node.av x] (.bool (nodeOk p x))) :∀ (t:List Node) (i:Nat),l.drop i=t→Ends PP 0 (bEvN_c0 l p (i:Int)).as (.ret (.bool (t.all (nodeOk p)))) (hpOf [] 0)
 | [],i,h=>by
  have:=dropN h
  exact Ends.eqv (bEvN_0_2 l p i sd) (by simp)
 | c::t,i,h=>by
  obtain⟨g1,g2,g3⟩ :=dropC h
  have hq:=ih c (List.mem_of_getElem? g1)
  cases k:nodeOk p c with
  |false=>rw [k]at hq;exact Ends.eqv (bEvN_0_0 l p i c false sd sd sd hq rfl) (by simp [k])
  | true=>
   rw [k]at hq
   refine(bEvN_0_1 l p i c true sd sd sd hq rfl sd).ends ?_
   exact Ends.eqv (bEvN_loop l p hl ih t (i+1) g2) (by simp [k])
theorem bEvN_pure (l:List Node)(p:Prog)(hl:l.length<1000000)(ih:∀x∈l,Pure PP 79 [Prog.av p,Node.av x] (.bool (nodeOk p x))) :Pure PP 78 [.ilst 4 (List.map Node.av l) false,.func 79 [Prog.av p] []] (.bool (l.all (nodeOk p))) :=
 pure_at (by kernel_rfl) rfl rfl ((bEvN_E_0 l p).ends (bEvN_loop l p hl ih l 0 rfl))
def one (k:Int) :Bool:=decide (k=1)
theorem bEvI_loop (l:List Int)(hl:l.length<1000000) :∀ (t:List Int) (i:Nat),l.drop i=t→Ends PP 0 (bEvI_c0 l (i:Int)).as (.ret (.bool (t.all one))) (hpOf [] 0)
 | [],i,h=>by
  have:=dropN h
  exact Ends.eqv (bEvI_0_2 l i sd) (by simp)
 | c ::t,i,h=>by
  obtain⟨g1,g2,g3⟩ :=dropC h
  by_cases k:c=1
  · refine(bEvI_0_1 l i c sd sd sd (by simp [k]) sd).ends ?_
    exact Ends.eqv (bEvI_loop l hl t (i+1) g2) (by simp [k,one])
  ·exact Ends.eqv (bEvI_0_0 l i c sd sd sd (by simp [k])) (by simp [k,one])
theorem bEvI_pure (l:List Int)(hl:l.length<1000000) :Pure PP 80 [.ilst 1 (List.map avI l) true,.func 81 [] []] (.bool (l.all one)) :=
 pure_at (by kernel_rfl) rfl rfl ((bEvI_E_0 l).ends (bEvI_loop l hl l 0 rfl))
theorem bMap_loop (l:List Con)(hl:l.length<100000) :∀ (t:List Con) (i:Nat),l.drop i=t→Ends PP 0 (bMap_c0 l (i:Int) (consNames (l.take i))).as (.ret (.ilst 1 (List.map avS (consNames l)) false)) (hpOf [] 0)
 | [],i,h=>by
  have hi:=dropN h
  have e:consNames (l.take i) =consNames l:=by rw [List.take_of_length_le hi]
  rw [e]
  exact bMap_0_1 l i _ sd
 | c::t,i,h=>by
  obtain⟨g1,g2,g3⟩ :=dropC h
  have e:consNames (l.take i) ++ [c.name] =consNames (l.take (i+1)) :=by
   rw [List.take_add_one,g1];simp [consNames]
  refine(bMap_0_0 l i (consNames (l.take i)) c sd sd sd (by simp [consNames];omega) sd).ends ?_
  rw [e]
  exact bMap_loop l hl t (i+1) g2
theorem bMap_pure (l:List Con)(hl:l.length<100000) :Pure PP 76 [.ilst 2 (List.map Con.av l) false,.func 77 [] []] (.ilst 1 (List.map avS (consNames l)) false) :=
 pure_at (by kernel_rfl) rfl rfl ((bMap_E_0 l).ends (bMap_loop l hl l 0 rfl))
def incs (lo n:Int) :List Int→List Int→Option (List Int)
 | [],c=>some c
 |k::ks,c=>if inB k lo (n-1) =true then incs lo n ks (c.set k.toNat (c.getD k.toNat 0+1))else none
def bNodes (p:Prog) :Nat→List Node→List Int→Option (List Int)
 |_,[],c=>some c
 | i,x::t,c=>match incs ((i:Int) +1) (p.nodes.length:Int) x.kids c with
   |some d=>bNodes p (i+1) t d
   |none=>none
def allOnes :Option (List Int) →Bool
 |some c=>c.all one
 |none=>false
def below (b:Int)(c:List Int) :Prop:=∀k∈c,0≤k∧k≤b
theorem below_get {b:Int}{c:List Int}(h:below b c){i:Nat}{z:Int}(hz:c[i]?=some z) :0≤z∧z≤b:=h z (List.mem_of_getElem? hz)
theorem below_set {b:Int}{c:List Int}(h:below b c){i:Nat}{z:Int}(hz:c[i]?=some z) :below (b+1) (c.set i (z+1)) :=fun k hk=>by
 rcases List.mem_or_eq_of_mem_set hk with g|g
 ·have:=h k g;omega
 ·have:=below_get h hz;omega
theorem bF2 (p:Prog)(i:Nat)(hi:i<p.nodes.length)(hn:p.nodes.length≤1000)(ks:List Int)(hk:ks.length≤1000)(K:List Int→Bool)(B:Int)(hB:0≤B)(hB2:B≤1000000)
  (hb:∀v:List Int,v.length=p.nodes.length→below (B+ks.length) v→Ends PP 0 (bFormed_c1 p v ((i:Int) +1)).as (.ret (.bool (K v))) (hpOf [] 0)) :
  ∀ (t:List Int) (k:Nat) (c:List Int),c.length=p.nodes.length→k≤ks.length→below (B+k) c→ks.drop k=t→Ends PP 0 (bFormed_c2 p ks (ks.length:Int) c (k:Int) (i:Int) (i:Int)).as (.ret (.bool (match incs ((i:Int) +1) p.nodes.length t c with|some v=>K v|none=>false))) (hpOf [] 0)
 | [],k,c,hc,hkl,hbl,h=>by
  have:=dropN h
  have e:k=ks.length:=by omega
  subst e
  refine(bFormed_2_2 p ks ks.length c ks.length i i sd sd).ends ?_
  exact hb c hc hbl
 | y ::t,k,c,hc,hkl,hbl,h=>by
  obtain⟨g1,g2,g3⟩ :=dropC h
  have hin:=bIn_pure y ((i:Int) +1) ((p.nodes.length:Int) -1)
  cases k1:inB y ((i:Int) +1) ((p.nodes.length:Int) -1)with
  | false=>
   rw [k1]at hin
   exact Ends.eqv (bFormed_2_0 p ks ks.length c k i i y false sd sd sd sd sd hin rfl) (by simp [incs,k1])
  | true=>
   rw [k1]at hin
   have hy:=inB_iff.1 k1
   obtain⟨z,hz⟩ :∃z,c[y.toNat]?=some z:= ⟨_,List.getElem?_eq_getElem (by omega)⟩
   have hzb:=below_get hbl hz
   refine(bFormed_2_1 p ks ks.length c k i i y true z sd sd sd sd sd hin rfl (by omega) (by omega) hz sd sd).ends ?_
   have e:c.getD y.toNat 0=z:=by rw [List.getD_eq_getElem?_getD,hz];rfl
   have ei:incs ((i:Int) +1) p.nodes.length (y::t) c=incs ((i:Int) +1) p.nodes.length t (c.set y.toNat (z+1)) :=by
    rw [incs,if_pos k1,e]
   rw [ei]
   refine bF2 p i hi hn ks hk K B hB hB2 hb t (k+1) (c.set y.toNat (z+1)) (by simpa using hc) (by omega) ?_ g2
   have:=below_set hbl hz
   intro q hq
   have:=this q hq
   push_cast
   omega
def kidsSum :List Node→Nat
 | [] =>0
 |x::t=>x.kids.length+kidsSum t
theorem kidsSum_le :∀ (t:List Node),(∀x∈t,x.kids.length≤10) →kidsSum t≤10*t.length
 | [],_=>by simp [kidsSum]
 | x::t,h=>by
  have a:=kidsSum_le t (fun y hy=>h y (List.mem_cons_of_mem _ hy))
  have b:=h x (List.mem_cons_self ..)
  simp only [kidsSum,List.length_cons];omega
theorem bF1 (p:Prog)(hp:smallProg p=true)(hn:p.nodes.length≤1000) :∀ (t:List Node) (i:Nat) (c:List Int) (B:Int),0≤B→B+kidsSum t≤100000→c.length=p.nodes.length→below B c→p.nodes.drop i=t →
  Ends PP 0 (bFormed_c1 p c (i:Int)).as (.ret (.bool (allOnes (bNodes p i t c)))) (hpOf [] 0)
 | [],i,c,B,h0,h1,hc,hb,h=>by
  have:=dropN h
  exact Ends.eqv (bFormed_1_1 p c i _ sd (bEvI_pure c (by omega))) rfl
 | x::t,i,c,B,h0,h1,hc,hb,h=>by
  obtain⟨g1,g2,g3⟩ :=dropC h
  have hx:smallNode x=true:=by
   simp only [smallProg,Bool.and_eq_true]at hp
   exact List.all_eq_true.1 hp.2 x (List.mem_of_getElem? g1)
  simp only [smallNode,Bool.and_eq_true,decide_eq_true_eq]at hx
  simp only [kidsSum]at h1
  refine(bFormed_1_0 p c i x sd sd sd).ends ?_
  refine Ends.eqv (bF2 p i g3 hn x.kids (by omega) (fun v=>allOnes (bNodes p (i+1) t v)) B h0 (by omega) (fun v hv hbv=>bF1 p hp hn t (i+1) v (B+x.kids.length) (by omega) (by omega) hv hbv g2) x.kids 0 c hc (by omega) (by simpa using hb) rfl) ?_
  rw [bNodes]
  cases incs ((i:Int) +1) (p.nodes.length:Int) x.kids c<;>rfl
theorem bF0 (p:Prog)(hp:smallProg p=true)(hn:p.nodes.length≤1000)(hks:kidsSum p.nodes≤10000)(hf:p.funs.length≤1000) :∀ (t:List Int) (i:Nat) (c:List Int),i≤p.funs.length→c.length=p.nodes.length→below (i:Int) c→p.funs.drop i=t →
  Ends PP 0 (bFormed_c0 p (i:Int) c).as (.ret (.bool (match incs 0 p.nodes.length t c with|some v=>allOnes (bNodes p 0 p.nodes v) |none=>false))) (hpOf [] 0)
 | [],i,c,hi,hc,hb,h=>by
  have:=dropN h
  refine(bFormed_0_2 p i c sd).ends ?_
  exact bF1 p hp hn p.nodes 0 c i (by omega) (by omega) hc hb rfl
 | y ::t,i,c,hi,hc,hb,h=>by
  obtain⟨g1,g2,g3⟩ :=dropC h
  have hin:=bIn_pure y 0 ((p.nodes.length:Int) -1)
  cases k1:inB y 0 ((p.nodes.length:Int) -1)with
  | false=>
   rw [k1]at hin
   exact Ends.eqv (bFormed_0_0 p i c y false sd sd sd sd hin rfl) (by simp [incs,k1])
  | true=>
   rw [k1]at hin
   have hy:=inB_iff.1 k1
   obtain⟨z,hz⟩ :∃z,c[y.toNat]?=some z:= ⟨_,List.getElem?_eq_getElem (by omega)⟩
   have hzb:=below_get hb hz
   refine(bFormed_0_1 p i c y true z sd sd sd sd hin rfl (by omega) (by omega) hz sd sd).ends ?_
   have e:c.getD y.toNat 0=z:=by rw [List.getD_eq_getElem?_getD,hz];rfl
   have ei:incs 0 p.nodes.length (y::t) c=incs 0 p.nodes.length t (c.set y.toNat (z+1)) :=by
    rw [incs,if_pos k1,e]
   rw [ei]
   refine bF0 p hp hn hks hf t (i+1) (c.set y.toNat (z+1)) (by omega) (by simpa using hc) ?_ g2
   have:=below_set hb hz
   intro q hq
   have:=this q hq
   push_cast
   omega
end Go.Hb
namespace Go.Hb
open Go.Proofs
set_option maxHeartbeats 1000000
def bindFormed (p:Prog) :Bool:=
 progHead p&&decide (p.cons.length≤20) &&p.cons.all consOk1&&differS (consNames p.cons) &&p.nodes.all (nodeOk p) &&
  (match incs 0 (p.nodes.length:Int) p.funs (List.replicate p.nodes.length 0)with
  |some v=>allOnes (bNodes p 0 p.nodes v)
  |none=>false)
theorem small_nodes {p:Prog}(hp:smallProg p=true) :∀x∈p.nodes,x.kids.length≤10∧x.pats.length≤10:=fun x hx=>by
 simp only [smallProg,Bool.and_eq_true]at hp
 have:=List.all_eq_true.1 hp.2 x hx
 simp only [smallNode,Bool.and_eq_true,decide_eq_true_eq]at this
 exact this.1
theorem bFormed_pure (p:Prog)(hp:smallProg p=true) :Pure PP 32 [Prog.av p] (.bool (bindFormed p)) :=by
 refine pure_at (by kernel_rfl) rfl rfl ?_
 have hs:=hp
 simp only [smallProg,Bool.and_eq_true,decide_eq_true_eq]at hs
 obtain⟨⟨⟨⟨s1,s2⟩,s3⟩,_⟩,_⟩ :=hs
 have hno:=small_nodes hp
 by_cases k0:p.nodes.length≤300
 · by_cases k1 :1≤p.funs.length
   · by_cases k2:p.funs.length≤p.nodes.length
     · have kk :inB (p.funs.length:Int) 1 (p.nodes.length:Int) =true:=inB_iff.2 ⟨by omega,by omega⟩
       by_cases k3:p.cons.length≤20
       · have hi:=bIn_pure p.main 0 ((p.funs.length:Int) -1)
         cases k4:inB p.main 0 ((p.funs.length:Int) -1)with
         | false=>
          rw [k4]at hi
          exact Ends.eqv (bFormed_E_4 p false sd sd sd sd sd hi rfl) (by simp [bindFormed,progHead,k4])
         | true =>
          rw [k4]at hi
          have hh:progHead p=true:=by simp [progHead,k0,kk,k4]
          have hc:=bEvC_pure p.cons (by omega)
          cases k5:p.cons.all consOk1 with
          | false=>
           rw [k5]at hc
           exact Ends.eqv (bFormed_E_5 p true false sd sd sd sd sd hi rfl hc rfl) (by simp only [bindFormed,k5,Bool.and_false,Bool.false_and])
          | true=>
           rw [k5]at hc
           have hm:=bMap_pure p.cons (by omega)
           have hd:=bDiffer_pure (consNames p.cons) (by simp [consNames];omega)
           cases k6:differS (consNames p.cons)with
           | false=>
            rw [k6]at hd
            exact Ends.eqv (bFormed_E_6 p true true (consNames p.cons) false sd sd sd sd sd hi rfl hc rfl hm hd rfl) (by simp only [bindFormed,k6,Bool.and_false,Bool.false_and])
           | true=>
            rw [k6]at hd
            have hn:=bEvN_pure p.nodes p (by omega) (fun x hx=>bNode_pure p x (by omega) (by omega) (hno x hx).2 (hno x hx).1)
            cases k7:p.nodes.all (nodeOk p)with
            | false=>
             rw [k7]at hn
             exact Ends.eqv (bFormed_E_7 p true true (consNames p.cons) true false sd sd sd sd sd hi rfl hc rfl hm hd rfl hn rfl) (by simp only [bindFormed,k7,Bool.and_false,Bool.false_and])
            | true=>
             rw [k7]at hn
             refine(bFormed_E_8 p true true (consNames p.cons) true true sd sd sd sd sd hi rfl hc rfl hm hd rfl hn rfl (by omega)).ends ?_
             have hks:=kidsSum_le p.nodes (fun x hx=> (hno x hx).1)
             refine Ends.eqv (bF0 p hp (by omega) (by omega) (by omega) p.funs 0 _ (by omega) (by simp) ?_ rfl) ?_
             · intro q hq
               have:= (List.mem_replicate.1 hq).2
               omega
             ·simp only [bindFormed,hh,decide_eq_true k3,k5,k6,k7,Bool.true_and] <;>rfl
       ·exact Ends.eqv (bFormed_E_3 p sd sd sd sd) (by simp [bindFormed,k3])
     · have kk:inB (p.funs.length:Int) 1 (p.nodes.length:Int) =false:=inB_not.2 (by omega)
       exact Ends.eqv (bFormed_E_2 p sd sd sd) (by simp [bindFormed,progHead,kk])
   · have kk:inB (p.funs.length:Int) 1 (p.nodes.length:Int) =false:=inB_not.2 (by omega)
     exact Ends.eqv (bFormed_E_1 p sd sd) (by simp [bindFormed,progHead,kk])
 ·exact Ends.eqv (bFormed_E_0 p sd) (by simp [bindFormed,progHead,k0])
theorem bCheck_pure (p:Prog)(hp:smallProg p=true) :Pure PP 10 [Prog.av p] (.int .i64 (checkN (bindFormed p))) :=by
 refine pure_at (by kernel_rfl) rfl rfl ?_
 have h:=bFormed_pure p hp
 cases k:bindFormed p with
 |false=>rw [k]at h;exact bCheck_E_0 p false h rfl
 |true=>rw [k]at h;exact bCheck_E_1 p true h rfl
def cnt (b:Bool) :Int:=if b=true then 1 else 0
def cnts (u:List Bool) :List Int:=u.map cnt
def Spoilt (c:List Int) :Prop:= (∃ (i:Nat) (z:Int),c[i]?=some z∧2≤z) ∧∀z∈c,0≤z
theorem spoilt_ones {c:List Int}(h:Spoilt c) :c.all one=false:=by
 obtain⟨⟨i,z,h1,h2⟩,_⟩ :=h
 cases k:c.all one with
 |false=>rfl
 | true=>
  have:=List.all_eq_true.1 k z (List.mem_of_getElem? h1)
  simp only [one,decide_eq_true_eq]at this;omega
theorem spoilt_set {c:List Int}{j:Nat}(h:Spoilt c) :Spoilt (c.set j (c.getD j 0+1)) :=by
 obtain⟨⟨i,z,h1,h2⟩,h3⟩ :=h
 have hi:= (List.getElem?_eq_some_iff.1 h1).1
 refine⟨⟨i,if j=i then z+1 else z,?_,by split<;>omega⟩,fun q hq=>?_⟩
 · rw [List.getElem?_set]
   by_cases e:j=i
   · subst e
     rw [if_pos rfl,if_pos hi,if_pos rfl,List.getD_eq_getElem?_getD,h1];rfl
   ·rw [if_neg e,if_neg e];exact h1
 · rcases List.mem_or_eq_of_mem_set hq with g|g
   ·exact h3 q g
   · rw [g,List.getD_eq_getElem?_getD]
     cases k:c[j]? with
     |none=>simp
     |some w=>have:=h3 w (List.mem_of_getElem? k);simp;omega
theorem incs_spoilt {lo n:Int}:∀ {ks c:List Int} {d:List Int},Spoilt c→incs lo n ks c=some d→Spoilt d
 | [],c,d,h,e=>by simp only [incs,Option.some.injEq]at e;rw [←e];exact h
 | k::ks,c,d,h,e=>by
  simp only [incs]at e
  split at e
  ·exact incs_spoilt (spoilt_set h) e
  ·cases e
theorem cnts_nonneg (u:List Bool) :∀z∈cnts u,0≤z:=fun z hz=>by
 obtain⟨b,_,rfl⟩ :=List.mem_map.1 hz
 cases b<;>simp [cnt]
theorem marks_incs {lo n:Int}(hlo:0≤lo) :∀ (ks:List Int) (u:List Bool),n≤u.length →
  (∀v,marks lo n ks u=some v→incs lo n ks (cnts u) =some (cnts v)) ∧ (marks lo n ks u=none→∀d,incs lo n ks (cnts u) =some d→Spoilt d)
 | [],u,hn=>by
  simp only [marks,incs,Option.some.injEq]
  exact⟨fun v e=>by rw [e],fun e=>by cases e⟩
 | k :: ks,u,hn=>by
  simp only [marks,incs]
  by_cases h1:inB k lo (n-1) =true
  · have hk:=inB_iff.1 h1
    have hlt:k.toNat<u.length:=by omega
    have hget:u[k.toNat]?=some u[k.toNat] :=List.getElem?_eq_getElem hlt
    have hc: (cnts u).getD k.toNat 0=cnt u[k.toNat] :=by
     rw [List.getD_eq_getElem?_getD,cnts,List.getElem?_map,hget];rfl
    rw [if_pos h1]
    cases hb:u[k.toNat]with
    | false=>
     rw [hb]at hget hc
     rw [if_pos ⟨h1,hget⟩]
     have e: (cnts u).set k.toNat ((cnts u).getD k.toNat 0+1) =cnts (u.set k.toNat true) :=by
      rw [hc,cnts,cnts,List.map_set];rfl
     rw [e]
     exact marks_incs hlo ks (u.set k.toNat true) (by simpa using hn)
    | true=>
     rw [hb]at hget hc
     rw [if_neg (by rw [hget];simp)]
     refine And.intro (fun v e=>nomatch e) (fun _ d e=>incs_spoilt (And.intro ⟨k.toNat,2,?_,by omega⟩ ?_) e)
     ·rw [hc,List.getElem?_set_self (by simp [cnts];exact hlt)];rfl
     · intro z hz
       rcases List.mem_or_eq_of_mem_set hz with g|g
       ·exact cnts_nonneg u z g
       ·rw [g,hc];simp [cnt]
  · rw [if_neg h1,if_neg (fun g=>h1 g.1)]
    exact And.intro (fun v e=>nomatch e) (fun _ d e=>nomatch e)
theorem bNodes_spoilt (p:Prog) :∀ (t:List Node) (i:Nat) (c:List Int),Spoilt c→allOnes (bNodes p i t c) =false
 | [],i,c,h=>by rw [bNodes];exact spoilt_ones h
 | x::t,i,c,h=>by
  rw [bNodes]
  cases e:incs ((i:Int) +1) (p.nodes.length:Int) x.kids c with
  |none=>rfl
  |some d=>exact bNodes_spoilt p t (i+1) d (incs_spoilt h e)
theorem cnts_ones :∀ (u:List Bool),(cnts u).all one=u.all fun b=>b
 | [] =>rfl
 | b::u=>by
  have:=cnts_ones u
  simp only [cnts,List.map_cons,List.all_cons]at this ⊢
  rw [this]
  cases b<;>simp [cnt,one]
theorem nodes_eq (p:Prog) :∀ (t:List Node) (i:Nat) (u:List Bool),u.length=p.nodes.length→t.all (nodeOk p) =true→allT (refNodes p i t u) =allOnes (bNodes p i t (cnts u))
 | [],i,u,hu,_=>by simp only [refNodes,bNodes,allT,allOnes,cnts_ones]
 | x::t,i,u,hu,ha=>by
  simp only [List.all_cons,Bool.and_eq_true]at ha
  obtain⟨m1,m2⟩ :=marks_incs (lo:= (i:Int) +1) (n:= (p.nodes.length:Int)) (by omega) x.kids u (by omega)
  simp only [refNodes,bNodes,if_pos ha.1]
  cases hm:marks ((i:Int) +1) (p.nodes.length:Int) x.kids u with
  | some v=>
   rw [m1 v hm]
   exact nodes_eq p t (i+1) v (by rw [marks_len hm,hu]) ha.2
  | none=>
   cases hi:incs ((i:Int) +1) (p.nodes.length:Int) x.kids (cnts u)with
   |none=>rfl
   |some d=>exact(bNodes_spoilt p t (i+1) d (m2 hm d hi)).symm
theorem refNodes_bad (p:Prog) :∀ (t:List Node) (i:Nat) (u:List Bool),t.all (nodeOk p) =false→allT (refNodes p i t u) =false
 | [],i,u,h=>by simp at h
 | x ::t,i,u,h=>by
  simp only [refNodes]
  by_cases hx:nodeOk p x=true
  · rw [if_pos hx]
    have ht:t.all (nodeOk p) =false:=by simpa [hx]using h
    cases marks ((i:Int) +1) (p.nodes.length:Int) x.kids u with
    |none=>rfl
    |some v=>exact refNodes_bad p t (i+1) v ht
  ·rw [if_neg hx];rfl
theorem formed_eq (p:Prog) :bindFormed p=refFormed p:=by
 have e1:bindFormed p= (progHead p&&consOk p.cons&& (p.nodes.all (nodeOk p) && (match incs 0 (p.nodes.length:Int) p.funs (List.replicate p.nodes.length 0)with
  |some v=>allOnes (bNodes p 0 p.nodes v)
  |none=>false))) :=by
  unfold bindFormed consOk
  cases progHead p<;>cases p.cons.all consOk1<;>cases differS (consNames p.cons) <;>cases p.nodes.all (nodeOk p) <;>cases decide (p.cons.length≤20) <;>simp
 rw [e1,refFormed]
 congr 1
 have ez:List.replicate p.nodes.length (0:Int) =cnts (List.replicate p.nodes.length false) :=by rw [cnts,List.map_replicate];rfl
 rw [ez]
 obtain⟨m1,m2⟩ :=marks_incs (lo:=0) (n:= (p.nodes.length:Int)) (by omega) p.funs (List.replicate p.nodes.length false) (by simp)
 cases hm:marks 0 (p.nodes.length:Int) p.funs (List.replicate p.nodes.length false)with
 | some v=>
  rw [m1 v hm]
  cases ha:p.nodes.all (nodeOk p)with
  |true=>simp only [Bool.true_and];exact(nodes_eq p p.nodes 0 v (by rw [marks_len hm];simp) ha).symm
  |false=>simp only [Bool.false_and];exact(refNodes_bad p p.nodes 0 v ha).symm
 | none=>
  simp only
  cases hi:incs 0 (p.nodes.length:Int) p.funs (cnts (List.replicate p.nodes.length false))with
  |none=>simp
  |some d=>simp only [bNodes_spoilt p p.nodes 0 d (m2 hm d hi),Bool.and_false]
end Go.Hb
namespace Go.Hb
open Go.Proofs
theorem bAdds_E_0 (x:Node)(kid:Int)(h0: (x.op== (5:Int)) =true) :
  Ends PP 0 (start PP 87 [(Node.av x),(nI kid)]).as (.ret (nI 1)) (hpOf [] 0) :=
 wE 1 [] [qp h0] [rn 13,bt 9,rn 21] trivial
theorem bAdds_E_1 (x:Node)(kid:Int)(h0: (x.op== (5:Int)) =false)(h1: (x.op== (27:Int)) =true) :
  Ends PP 0 (start PP 87 [(Node.av x),(nI kid)]).as (.ret (nI 1)) (hpOf [] 0) :=
 wE 1 [] [qp h0,qp h1] [rn 13,bf 9,rn 5,bt 14,rn 16] trivial
theorem bAdds_E_2 (x:Node)(kid:Int)(h0: (x.op== (5:Int)) =false)(h1: (x.op== (27:Int)) =false)(h2: (x.op== (7:Int)) =true)(h3: (kid== (1:Int)) =true) :
  Ends PP 0 (start PP 87 [(Node.av x),(nI kid)]).as (.ret (nI 1)) (hpOf [] 0) :=
 wE 1 [] [qp h0,qp h1,qp h2,qp h3] [rn 13,bf 9,rn 5,bf 14,rn 4,bt 18,rn 6,bt 5,rn 6] trivial
theorem bAdds_E_5 (x:Node)(kid:Int)(h0: (x.op== (5:Int)) =false)(h1: (x.op== (27:Int)) =false)(h2: (x.op== (7:Int)) =true)(h3: (kid== (1:Int)) =false)(h4: (x.op== (15:Int)) =false) :
  Ends PP 0 (start PP 87 [(Node.av x),(nI kid)]).as (.ret (nI 0)) (hpOf [] 0) :=
 wE 1 [] [qp h0,qp h1,qp h2,qp h3,qp h4] [rn 13,bf 9,rn 5,bf 14,rn 4,bt 18,rn 6,bf 5,rn 7,bf 27,rn 13] trivial
theorem bAdds_E_6 (x:Node)(kid y_form0 y_n1:Int)(y_text2:Str)(y_parts3:List Pat)(y4:Int)(h0: (x.op== (5:Int)) =false)(h1: (x.op== (27:Int)) =false)(h2: (x.op== (7:Int)) =false)(h3: (x.op== (15:Int)) =true)(h4:decide (kid> (0:Int)) =true)(h5: (IntKind.i64.wrap (kid- (1:Int))) = (kid- (1:Int)))(h6:0≤ (kid- (1:Int)))(h7: ((x.pats)[(kid- (1:Int)).toNat]?) =some (Pat.mk y_form0 y_n1 y_text2 y_parts3))(h8:Pure PP 142 [(.agg [(nI y_form0),(nI y_n1),(avS y_text2),(iP y_parts3)])] (nI y4)) :
  Ends PP 0 (start PP 87 [(Node.av x),(nI kid)]).as (.ret (nI y4)) (hpOf [] 0) :=
 wE 1 [] [qp h0,qp h1,qp h2,qp h3,qp h4,qp (congrArg (AV.int .i64) h5),qp h6,qgP h7,qp h8] [rn 13,bf 9,rn 5,bf 14,rn 4,bf 18,rn 13,bt 27,rn 5,bt 23,rn 7,sI 34 (kid- (1:Int)),aI (Pat.av (Pat.mk y_form0 y_n1 y_text2 y_parts3)),rn 1,.pure (nI y4),rn 3] trivial
theorem bAdds_E_7 (x:Node)(kid:Int)(h0: (x.op== (5:Int)) =false)(h1: (x.op== (27:Int)) =false)(h2: (x.op== (7:Int)) =false)(h3: (x.op== (15:Int)) =true)(h4:decide (kid> (0:Int)) =false) :
  Ends PP 0 (start PP 87 [(Node.av x),(nI kid)]).as (.ret (nI 0)) (hpOf [] 0) :=
 wE 1 [] [qp h0,qp h1,qp h2,qp h3,qp h4] [rn 13,bf 9,rn 5,bf 14,rn 4,bf 18,rn 13,bt 27,rn 5,bf 23,rn 8] trivial
theorem bAdds_E_8 (x:Node)(kid:Int)(h0: (x.op== (5:Int)) =false)(h1: (x.op== (27:Int)) =false)(h2: (x.op== (7:Int)) =false)(h3: (x.op== (15:Int)) =false) :
  Ends PP 0 (start PP 87 [(Node.av x),(nI kid)]).as (.ret (nI 0)) (hpOf [] 0) :=
 wE 1 [] [qp h0,qp h1,qp h2,qp h3] [rn 13,bf 9,rn 5,bf 14,rn 4,bf 18,rn 13,bf 27,rn 13] trivial
noncomputable def bNames_c0 (q_form q_n:Int)(q_text:Str)(q_parts:List Pat)(n3 t12:Int) :TS:=
 {fr:={fn:=142,nt:=22,sl:=[(2,(nI 0)),(3,(nI n3)),(10,(iP q_parts)),(11,(nI (q_parts.length:Int))),(12,(nI t12))],todo:=[.code (cd Tryz.f142 [1,1,1,0,1,0,0]),.inLoop (cd Tryz.f142 [1,1,1,0,1,0,0]),.inBlock 0,.code (cd Tryz.f142 [1,1,1,1])]},cs:=[],hp:=[],nb:=0}
theorem bNames_E_0 (q_form q_n:Int)(q_text:Str)(q_parts:List Pat)(h0: (q_form== (2:Int)) =true) :
  Ends PP 0 (start PP 142 [(.agg [(nI q_form),(nI q_n),(avS q_text),(iP q_parts)])]).as (.ret (nI 1)) (hpOf [] 0) :=
 wE 1 [] [qp h0] [rn 12,bt 8,rn 6] trivial
theorem bNames_E_1 (q_form q_n:Int)(q_text:Str)(q_parts:List Pat)(h0: (q_form== (2:Int)) =false) :
  LeadsM PP 0 (start PP 142 [(.agg [(nI q_form),(nI q_n),(avS q_text),(iP q_parts)])]).as (bNames_c0 q_form q_n q_text q_parts 0 0).as:=
 wW 1 [] [qp h0,qlP q_parts] [rn 12,bf 8,rn 11,aL q_parts,rn 4] trivial
theorem bNames_0_0 (q_form q_n:Int)(q_text:Str)(q_parts:List Pat)(n3 t12:Int)(y_form0 y_n1:Int)(y_text2:Str)(y_parts3:List Pat)(y4:Int)(h0:decide (t12< (q_parts.length:Int)) =true)(h1:0≤t12)(h2: ((q_parts)[t12.toNat]?) =some (Pat.mk y_form0 y_n1 y_text2 y_parts3))(h3:Pure PP 142 [(.agg [(nI y_form0),(nI y_n1),(avS y_text2),(iP y_parts3)])] (nI y4))(h4: (IntKind.i64.wrap (n3+y4)) = (n3+y4))(h5: (IntKind.i64.wrap (t12+ (1:Int))) = (t12+ (1:Int))) :
  LeadsM PP 0 (bNames_c0 q_form q_n q_text q_parts n3 t12).as (bNames_c0 q_form q_n q_text q_parts (n3+y4) (t12+ (1:Int))).as:=
 wW 1 [] [qp h0,qp h1,qgP h2,qp h3,qp (congrArg (AV.int .i64) h4),qp (congrArg (AV.int .i64) h5)] [rn 5,bt 13,rn 6,aI (Pat.av (Pat.mk y_form0 y_n1 y_text2 y_parts3)),rn 7,.pure (nI y4),rn 1,sI 19 (n3+y4),rn 5,sI 20 (t12+ (1:Int)),rn 3] trivial
theorem bNames_0_1 (q_form q_n:Int)(q_text:Str)(q_parts:List Pat)(n3 t12:Int)(h0:decide (t12< (q_parts.length:Int)) =false) :
  Ends PP 0 (bNames_c0 q_form q_n q_text q_parts n3 t12).as (.ret (nI n3)) (hpOf [] 0) :=
 wE 0 [] [qp h0] [rn 5,bf 13,rn 8] trivial
end Go.Hb
namespace Go.Hb
open Go.Proofs
noncomputable def rNames_c0 (q_form q_n:Int)(q_text:Str)(q_parts:List Pat)(n3 i4:Int) :TS:=
 {fr:={fn:=143,nt:=24,sl:=[(1,(.ptr 0 0)),(2,(nI 0)),(3,(nI n3)),(4,(nI i4))],todo:=[.code (cd Tryz.f143 [1,1,1,0,1,0,0]),.inLoop (cd Tryz.f143 [1,1,1,0,1,0,0]),.inBlock 0,.code (cd Tryz.f143 [1,1,1,1])]},cs:=[],hp:=[(0,(.cells (putCells .leaf 0 [(nI q_form),(nI q_n),(avS q_text),(iP q_parts)]) 4 [] false),false)],nb:=1}
theorem rNames_E_0 (q_form q_n:Int)(q_text:Str)(q_parts:List Pat)(h0: (q_form== (2:Int)) =true) :
  LeadsM PP 0 (start PP 143 [(.agg [(nI q_form),(nI q_n),(avS q_text),(iP q_parts)])]).as (rNames_c0 q_form q_n q_text q_parts 1 0).as:=
 wW 1 [0] [qp h0] [rn 16,bt 7,rn 11] trivial
theorem rNames_E_1 (q_form q_n:Int)(q_text:Str)(q_parts:List Pat)(h0: (q_form== (2:Int)) =false) :
  LeadsM PP 0 (start PP 143 [(.agg [(nI q_form),(nI q_n),(avS q_text),(iP q_parts)])]).as (rNames_c0 q_form q_n q_text q_parts 0 0).as:=
 wW 1 [0] [qp h0] [rn 16,bf 7,rn 9] trivial
theorem rNames_0_0 (q_form q_n:Int)(q_text:Str)(q_parts:List Pat)(n3 i4:Int)(y_form0 y_n1:Int)(y_text2:Str)(y_parts3:List Pat)(y4:Int)(h0:decide (i4< (q_parts.length:Int)) =true)(h1:0≤i4)(h2: ((q_parts)[i4.toNat]?) =some (Pat.mk y_form0 y_n1 y_text2 y_parts3))(h3:Pure PP 143 [(.agg [(nI y_form0),(nI y_n1),(avS y_text2),(iP y_parts3)])] (nI y4))(h4: (IntKind.i64.wrap (n3+y4)) = (n3+y4))(h5: (IntKind.i64.wrap (i4+ (1:Int))) = (i4+ (1:Int))) :
  LeadsM PP 0 (rNames_c0 q_form q_n q_text q_parts n3 i4).as (rNames_c0 q_form q_n q_text q_parts (n3+y4) (i4+ (1:Int))).as:=
 wW 1 [0] [qlP q_parts,qp h0,qp h1,qgP h2,qp h3,qp (congrArg (AV.int .i64) h4),qp (congrArg (AV.int .i64) h5)] [rn 6,aL q_parts,rn 2,bt 12,rn 9,aI (Pat.av (Pat.mk y_form0 y_n1 y_text2 y_parts3)),rn 1,.pure (nI y4),rn 1,sI 22 (n3+y4),rn 6,sI 14 (i4+ (1:Int)),rn 3] trivial
theorem rNames_0_1 (q_form q_n:Int)(q_text:Str)(q_parts:List Pat)(n3 i4:Int)(h0:decide (i4< (q_parts.length:Int)) =false) :
  Ends PP 0 (rNames_c0 q_form q_n q_text q_parts n3 i4).as (.ret (nI n3)) (hpOf [] 0) :=
 wE 1 [] [qlP q_parts,qp h0] [rn 6,aL q_parts,rn 2,bf 12,rn 8] trivial
end Go.Hb
