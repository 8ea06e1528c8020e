/-
  OWN WORK (G1, V11, H11, V35, G2, V12): a machine on abstract values, its soundness, ways through the text (the ways WRITTEN BY A PROGRAM), plain laws.
-/
import Derived.Test.YtabmpnmmkeieiaaGreatHF
set_option linter.unusedVariables false
set_option linter.unusedSimpArgs false
set_option linter.unusedSectionVars false
set_option maxRecDepth 100000
namespace Go.Hb
open Go.Proofs
noncomputable def dO (q_form q_n:Int)(q_text:aX)(q_parts:List Pat)(cons:List Con)(is5:Bool)(i7:Int) :TS:=
 {fr:={fn:=126,nt:=82,sl:=[(1,(iC cons)),(2,(.ptr 0 0)),(4,(bV false)),(5,(bV is5)),(6,(nI (q_parts.length:Int))),(7,(nI i7))],todo:=[.code (cd Tryz.f126 [1,1,1,1,1,0,1,0,0]),.inLoop (cd Tryz.f126 [1,1,1,1,1,0,1,0,0]),.inBlock 1,.code (cd Tryz.f126 [1,1,1,1,1,1])]},cs:=[],hp:=[(0,(.cells (putCells .leaf 0 [(nI q_form),(nI q_n),(bO q_text),(iP q_parts)]) 4 [] false),false)],nb:=1}
theorem aQ8 (q_form q_n:Int)(q_text:aX)(q_parts:List Pat)(cons:List Con)(h0: (q_form== (1:Int)) =true)(h1: ((q_parts.length:Int) == (0:Int)) =true)(h2: (q_n== (0:Int)) =true) :
  LeadsM PP 0 (start PP 126 [(.agg [(nI q_form),(nI q_n),(bO q_text),(iP q_parts)]),(iC cons)]).as (dO q_form q_n q_text q_parts cons (dR q_text.length (aF q_text) 0 0) 0).as:=
 wW 1 [0] [fU q_parts,qp h0,qp h1,qp h2] [rn 13,aL q_parts,rn 15,bt 13,rn 7,bt 19,rn 11,bt 61,rn 13] trivial
theorem aQ9 (q_form q_n:Int)(q_text:aX)(q_parts:List Pat)(cons:List Con)(h0: (q_form== (1:Int)) =true)(h1: ((q_parts.length:Int) == (0:Int)) =true)(h2: (q_n== (0:Int)) =false) :
  LeadsM PP 0 (start PP 126 [(.agg [(nI q_form),(nI q_n),(bO q_text),(iP q_parts)]),(iC cons)]).as (dO q_form q_n q_text q_parts cons false 0).as:=
 wW 1 [0] [fU q_parts,qp h0,qp h1,qp h2] [rn 13,aL q_parts,rn 15,bt 13,rn 7,bt 19,rn 11,bf 61,rn 13] trivial
theorem aRa (q_form q_n:Int)(q_text:aX)(q_parts:List Pat)(cons:List Con)(h0: (q_form== (1:Int)) =true)(h1: ((q_parts.length:Int) == (0:Int)) =false) :
  LeadsM PP 0 (start PP 126 [(.agg [(nI q_form),(nI q_n),(bO q_text),(iP q_parts)]),(iC cons)]).as (dO q_form q_n q_text q_parts cons false 0).as:=
 wW 1 [0] [fU q_parts,qp h0,qp h1] [rn 13,aL q_parts,rn 15,bt 13,rn 7,bf 19,rn 24] trivial
theorem aRb (q_form q_n:Int)(q_text:aX)(q_parts:List Pat)(cons:List Con)(h0: (q_form== (1:Int)) =false)(h1: (q_form== (2:Int)) =true)(h2: ((q_parts.length:Int) == (0:Int)) =true)(h3: (q_n== (0:Int)) =true) :
  LeadsM PP 0 (start PP 126 [(.agg [(nI q_form),(nI q_n),(bO q_text),(iP q_parts)]),(iC cons)]).as (dO q_form q_n q_text q_parts cons (dR q_text.length (aF q_text) 0 0) 0).as:=
 wW 1 [0] [fU q_parts,qp h0,qp h1,qp h2,qp h3] [rn 13,aL q_parts,rn 15,bf 13,rn 6,bt 13,rn 7,bt 19,rn 11,bt 61,rn 13] trivial
theorem aRc (q_form q_n:Int)(q_text:aX)(q_parts:List Pat)(cons:List Con)(h0: (q_form== (1:Int)) =false)(h1: (q_form== (2:Int)) =true)(h2: ((q_parts.length:Int) == (0:Int)) =true)(h3: (q_n== (0:Int)) =false) :
  LeadsM PP 0 (start PP 126 [(.agg [(nI q_form),(nI q_n),(bO q_text),(iP q_parts)]),(iC cons)]).as (dO q_form q_n q_text q_parts cons false 0).as:=
 wW 1 [0] [fU q_parts,qp h0,qp h1,qp h2,qp h3] [rn 13,aL q_parts,rn 15,bf 13,rn 6,bt 13,rn 7,bt 19,rn 11,bf 61,rn 13] trivial
theorem aRd (q_form q_n:Int)(q_text:aX)(q_parts:List Pat)(cons:List Con)(h0: (q_form== (1:Int)) =false)(h1: (q_form== (2:Int)) =true)(h2: ((q_parts.length:Int) == (0:Int)) =false) :
  LeadsM PP 0 (start PP 126 [(.agg [(nI q_form),(nI q_n),(bO q_text),(iP q_parts)]),(iC cons)]).as (dO q_form q_n q_text q_parts cons false 0).as:=
 wW 1 [0] [fU q_parts,qp h0,qp h1,qp h2] [rn 13,aL q_parts,rn 15,bf 13,rn 6,bt 13,rn 7,bf 19,rn 24] trivial
theorem aRe (q_form q_n:Int)(q_text:aX)(q_parts:List Pat)(cons:List Con)(h0: (q_form== (1:Int)) =false)(h1: (q_form== (2:Int)) =false)(h2: (q_form== (5:Int)) =true)(h3: ((q_parts.length:Int) == (0:Int)) =true)(h4: (q_n== (0:Int)) =true) :
  LeadsM PP 0 (start PP 126 [(.agg [(nI q_form),(nI q_n),(bO q_text),(iP q_parts)]),(iC cons)]).as (dO q_form q_n q_text q_parts cons (dR q_text.length (aF q_text) 0 0) 0).as:=
 wW 1 [0] [fU q_parts,qp h0,qp h1,qp h2,qp h3,qp h4] [rn 13,aL q_parts,rn 15,bf 13,rn 6,bf 13,rn 5,bt 13,rn 5,bt 19,rn 11,bt 61,rn 13] trivial
theorem aRf (q_form q_n:Int)(q_text:aX)(q_parts:List Pat)(cons:List Con)(h0: (q_form== (1:Int)) =false)(h1: (q_form== (2:Int)) =false)(h2: (q_form== (5:Int)) =true)(h3: ((q_parts.length:Int) == (0:Int)) =true)(h4: (q_n== (0:Int)) =false) :
  LeadsM PP 0 (start PP 126 [(.agg [(nI q_form),(nI q_n),(bO q_text),(iP q_parts)]),(iC cons)]).as (dO q_form q_n q_text q_parts cons false 0).as:=
 wW 1 [0] [fU q_parts,qp h0,qp h1,qp h2,qp h3,qp h4] [rn 13,aL q_parts,rn 15,bf 13,rn 6,bf 13,rn 5,bt 13,rn 5,bt 19,rn 11,bf 61,rn 13] trivial
theorem aRg (q_form q_n:Int)(q_text:aX)(q_parts:List Pat)(cons:List Con)(h0: (q_form== (1:Int)) =false)(h1: (q_form== (2:Int)) =false)(h2: (q_form== (5:Int)) =true)(h3: ((q_parts.length:Int) == (0:Int)) =false) :
  LeadsM PP 0 (start PP 126 [(.agg [(nI q_form),(nI q_n),(bO q_text),(iP q_parts)]),(iC cons)]).as (dO q_form q_n q_text q_parts cons false 0).as:=
 wW 1 [0] [fU q_parts,qp h0,qp h1,qp h2,qp h3] [rn 13,aL q_parts,rn 15,bf 13,rn 6,bf 13,rn 5,bt 13,rn 5,bf 19,rn 24] trivial
theorem aRh (q_form q_n:Int)(q_text:aX)(q_parts:List Pat)(cons:List Con)(y0:Bool)(h0: (q_form== (1:Int)) =false)(h1: (q_form== (2:Int)) =false)(h2: (q_form== (5:Int)) =false)(h3: (q_form== (3:Int)) =true)(h4: ((q_parts.length:Int) == (0:Int)) =true)(h5:aE PP 65 [(nI q_n),(nI (-1000000000)),(nI 1000000000)] (bV y0))(h6:y0=true) :
  LeadsM PP 0 (start PP 126 [(.agg [(nI q_form),(nI q_n),(bO q_text),(iP q_parts)]),(iC cons)]).as (dO q_form q_n q_text q_parts cons (dR q_text.length (aF q_text) 0 0) 0).as:=
 wW 1 [0] [fU q_parts,qp h0,qp h1,qp h2,qp h3,qp h4,qp h5,qp h6] [rn 13,aL q_parts,rn 15,bf 13,rn 6,bf 13,rn 5,bf 13,rn 6,bt 24,rn 5,bt 28,rn 2,pB y0,rn 8,bt 61,rn 13] trivial
theorem aOO (q_form q_n:Int)(q_text:aX)(q_parts:List Pat)(cons:List Con)(y0:Bool)(h0: (q_form== (1:Int)) =false)(h1: (q_form== (2:Int)) =false)(h2: (q_form== (5:Int)) =false)(h3: (q_form== (3:Int)) =true)(h4: ((q_parts.length:Int) == (0:Int)) =true)(h5:aE PP 65 [(nI q_n),(nI (-1000000000)),(nI 1000000000)] (bV y0))(h6:y0=false) :
  LeadsM PP 0 (start PP 126 [(.agg [(nI q_form),(nI q_n),(bO q_text),(iP q_parts)]),(iC cons)]).as (dO q_form q_n q_text q_parts cons false 0).as:=
 wW 1 [0] [fU q_parts,qp h0,qp h1,qp h2,qp h3,qp h4,qp h5,qp h6] [rn 13,aL q_parts,rn 15,bf 13,rn 6,bf 13,rn 5,bf 13,rn 6,bt 24,rn 5,bt 28,rn 2,pB y0,rn 8,bf 61,rn 13] trivial
theorem aOP (q_form q_n:Int)(q_text:aX)(q_parts:List Pat)(cons:List Con)(h0: (q_form== (1:Int)) =false)(h1: (q_form== (2:Int)) =false)(h2: (q_form== (5:Int)) =false)(h3: (q_form== (3:Int)) =true)(h4: ((q_parts.length:Int) == (0:Int)) =false) :
  LeadsM PP 0 (start PP 126 [(.agg [(nI q_form),(nI q_n),(bO q_text),(iP q_parts)]),(iC cons)]).as (dO q_form q_n q_text q_parts cons false 0).as:=
 wW 1 [0] [fU q_parts,qp h0,qp h1,qp h2,qp h3,qp h4] [rn 13,aL q_parts,rn 15,bf 13,rn 6,bf 13,rn 5,bf 13,rn 6,bt 24,rn 5,bf 28,rn 24] trivial
theorem aOQ (q_form q_n:Int)(q_text:aX)(q_parts:List Pat)(cons:List Con)(y0:Bool)(h0: (q_form== (1:Int)) =false)(h1: (q_form== (2:Int)) =false)(h2: (q_form== (5:Int)) =false)(h3: (q_form== (3:Int)) =false)(h4: (q_form== (4:Int)) =true)(h5: ((q_parts.length:Int) == (0:Int)) =true)(h6:aE PP 65 [(nI q_n),(nI 0),(nI 1)] (bV y0))(h7:y0=true) :
  LeadsM PP 0 (start PP 126 [(.agg [(nI q_form),(nI q_n),(bO q_text),(iP q_parts)]),(iC cons)]).as (dO q_form q_n q_text q_parts cons (dR q_text.length (aF q_text) 0 0) 0).as:=
 wW 1 [0] [fU q_parts,qp h0,qp h1,qp h2,qp h3,qp h4,qp h5,qp h6,qp h7] [rn 13,aL q_parts,rn 15,bf 13,rn 6,bf 13,rn 5,bf 13,rn 6,bf 24,rn 6,bt 33,rn 5,bt 37,rn 2,pB y0,rn 8,bt 61,rn 13] trivial
theorem aOR (q_form q_n:Int)(q_text:aX)(q_parts:List Pat)(cons:List Con)(y0:Bool)(h0: (q_form== (1:Int)) =false)(h1: (q_form== (2:Int)) =false)(h2: (q_form== (5:Int)) =false)(h3: (q_form== (3:Int)) =false)(h4: (q_form== (4:Int)) =true)(h5: ((q_parts.length:Int) == (0:Int)) =true)(h6:aE PP 65 [(nI q_n),(nI 0),(nI 1)] (bV y0))(h7:y0=false) :
  LeadsM PP 0 (start PP 126 [(.agg [(nI q_form),(nI q_n),(bO q_text),(iP q_parts)]),(iC cons)]).as (dO q_form q_n q_text q_parts cons false 0).as:=
 wW 1 [0] [fU q_parts,qp h0,qp h1,qp h2,qp h3,qp h4,qp h5,qp h6,qp h7] [rn 13,aL q_parts,rn 15,bf 13,rn 6,bf 13,rn 5,bf 13,rn 6,bf 24,rn 6,bt 33,rn 5,bt 37,rn 2,pB y0,rn 8,bf 61,rn 13] trivial
theorem aOS (q_form q_n:Int)(q_text:aX)(q_parts:List Pat)(cons:List Con)(h0: (q_form== (1:Int)) =false)(h1: (q_form== (2:Int)) =false)(h2: (q_form== (5:Int)) =false)(h3: (q_form== (3:Int)) =false)(h4: (q_form== (4:Int)) =true)(h5: ((q_parts.length:Int) == (0:Int)) =false) :
  LeadsM PP 0 (start PP 126 [(.agg [(nI q_form),(nI q_n),(bO q_text),(iP q_parts)]),(iC cons)]).as (dO q_form q_n q_text q_parts cons false 0).as:=
 wW 1 [0] [fU q_parts,qp h0,qp h1,qp h2,qp h3,qp h4,qp h5] [rn 13,aL q_parts,rn 15,bf 13,rn 6,bf 13,rn 5,bf 13,rn 6,bf 24,rn 6,bt 33,rn 5,bf 37,rn 24] trivial
theorem aOT (q_form q_n:Int)(q_text:aX)(q_parts:List Pat)(cons:List Con)(y0:Bool)(y1:Con)(h0: (q_form== (1:Int)) =false)(h1: (q_form== (2:Int)) =false)(h2: (q_form== (5:Int)) =false)(h3: (q_form== (3:Int)) =false)(h4: (q_form== (4:Int)) =false)(h5: (q_form== (6:Int)) =true)(h6: (IntKind.i64.wrap ((cons.length:Int) - (1:Int))) = ((cons.length:Int) - (1:Int)))(h7:aE PP 65 [(nI q_n),(nI 0),(nI ((cons.length:Int) - (1:Int)))] (bV y0))(h8:y0=true)(h9:0≤q_n)(h10: ((cons)[q_n.toNat]?) =some y1)(h11: ((q_parts.length:Int) ==y1.args) =true) :
  LeadsM PP 0 (start PP 126 [(.agg [(nI q_form),(nI q_n),(bO q_text),(iP q_parts)]),(iC cons)]).as (dO q_form q_n q_text q_parts cons (dR q_text.length (aF q_text) 0 0) 0).as:=
 wW 1 [0] [fU q_parts,qp h0,qp h1,qp h2,qp h3,qp h4,qp h5,ql Con.av cons,qp (congrArg (AV.int .i64) h6),qp h7,qp h8,qp h9,qg Con.av h10,qp h11] [rn 13,aL q_parts,rn 15,bf 13,rn 6,bf 13,rn 5,bf 13,rn 6,bf 24,rn 6,bf 33,rn 6,bt 42,rn 5,aL cons,rn 1,sI 48 ((cons.length:Int) - (1:Int)),pB y0,rn 1,bt 50,rn 4,aI (Con.av y1),rn 11,bt 61,rn 13] trivial
theorem aOU (q_form q_n:Int)(q_text:aX)(q_parts:List Pat)(cons:List Con)(y0:Bool)(y1:Con)(h0: (q_form== (1:Int)) =false)(h1: (q_form== (2:Int)) =false)(h2: (q_form== (5:Int)) =false)(h3: (q_form== (3:Int)) =false)(h4: (q_form== (4:Int)) =false)(h5: (q_form== (6:Int)) =true)(h6: (IntKind.i64.wrap ((cons.length:Int) - (1:Int))) = ((cons.length:Int) - (1:Int)))(h7:aE PP 65 [(nI q_n),(nI 0),(nI ((cons.length:Int) - (1:Int)))] (bV y0))(h8:y0=true)(h9:0≤q_n)(h10: ((cons)[q_n.toNat]?) =some y1)(h11: ((q_parts.length:Int) ==y1.args) =false) :
  LeadsM PP 0 (start PP 126 [(.agg [(nI q_form),(nI q_n),(bO q_text),(iP q_parts)]),(iC cons)]).as (dO q_form q_n q_text q_parts cons false 0).as:=
 wW 1 [0] [fU q_parts,qp h0,qp h1,qp h2,qp h3,qp h4,qp h5,ql Con.av cons,qp (congrArg (AV.int .i64) h6),qp h7,qp h8,qp h9,qg Con.av h10,qp h11] [rn 13,aL q_parts,rn 15,bf 13,rn 6,bf 13,rn 5,bf 13,rn 6,bf 24,rn 6,bf 33,rn 6,bt 42,rn 5,aL cons,rn 1,sI 48 ((cons.length:Int) - (1:Int)),pB y0,rn 1,bt 50,rn 4,aI (Con.av y1),rn 11,bf 61,rn 13] trivial
theorem aOV (q_form q_n:Int)(q_text:aX)(q_parts:List Pat)(cons:List Con)(y0:Bool)(h0: (q_form== (1:Int)) =false)(h1: (q_form== (2:Int)) =false)(h2: (q_form== (5:Int)) =false)(h3: (q_form== (3:Int)) =false)(h4: (q_form== (4:Int)) =false)(h5: (q_form== (6:Int)) =true)(h6: (IntKind.i64.wrap ((cons.length:Int) - (1:Int))) = ((cons.length:Int) - (1:Int)))(h7:aE PP 65 [(nI q_n),(nI 0),(nI ((cons.length:Int) - (1:Int)))] (bV y0))(h8:y0=false) :
  LeadsM PP 0 (start PP 126 [(.agg [(nI q_form),(nI q_n),(bO q_text),(iP q_parts)]),(iC cons)]).as (dO q_form q_n q_text q_parts cons false 0).as:=
 wW 1 [0] [fU q_parts,qp h0,qp h1,qp h2,qp h3,qp h4,qp h5,ql Con.av cons,qp (congrArg (AV.int .i64) h6),qp h7,qp h8] [rn 13,aL q_parts,rn 15,bf 13,rn 6,bf 13,rn 5,bf 13,rn 6,bf 24,rn 6,bf 33,rn 6,bt 42,rn 5,aL cons,rn 1,sI 48 ((cons.length:Int) - (1:Int)),pB y0,rn 1,bf 50,rn 29] trivial
theorem aOW (q_form q_n:Int)(q_text:aX)(q_parts:List Pat)(cons:List Con)(h0: (q_form== (1:Int)) =false)(h1: (q_form== (2:Int)) =false)(h2: (q_form== (5:Int)) =false)(h3: (q_form== (3:Int)) =false)(h4: (q_form== (4:Int)) =false)(h5: (q_form== (6:Int)) =false) :
  LeadsM PP 0 (start PP 126 [(.agg [(nI q_form),(nI q_n),(bO q_text),(iP q_parts)]),(iC cons)]).as (dO q_form q_n q_text q_parts cons false 0).as:=
 wW 1 [0] [fU q_parts,qp h0,qp h1,qp h2,qp h3,qp h4,qp h5] [rn 13,aL q_parts,rn 15,bf 13,rn 6,bf 13,rn 5,bf 13,rn 6,bf 24,rn 6,bf 33,rn 6,bf 42,rn 20] trivial
theorem aRi (q_form q_n:Int)(q_text:aX)(q_parts:List Pat)(cons:List Con)(is5:Bool)(i7 y_form0 y_n1:Int)(y_text2:aX)(y_parts3:List Pat)(y4:Bool)(h0:decide (i7< (q_parts.length:Int)) =true)(h1:is5=true)(h2:0≤i7)(h3: ((q_parts)[i7.toNat]?) =some (Pat.mk y_form0 y_n1 y_text2 y_parts3))(h4:aE PP 126 [(.agg [(nI y_form0),(nI y_n1),(bO y_text2),(iP y_parts3)]),(iC cons)] (bV y4))(h5: (IntKind.i64.wrap (i7+ (1:Int))) = (i7+ (1:Int))) :
  LeadsM PP 0 (dO q_form q_n q_text q_parts cons is5 i7).as (dO q_form q_n q_text q_parts cons y4 (i7+ (1:Int))).as:=
 wW 1 [0] [qp h0,qp h1,qp h2,qgP h3,qp h4,qp (congrArg (AV.int .i64) h5)] [rn 7,bt 69,rn 3,bt 71,rn 8,aI (Pat.av (Pat.mk y_form0 y_n1 y_text2 y_parts3)),rn 2,pB y4,rn 6,sI 73 (i7+ (1:Int)),rn 3] trivial
theorem aRj (q_form q_n:Int)(q_text:aX)(q_parts:List Pat)(cons:List Con)(is5:Bool)(i7:Int)(h0:decide (i7< (q_parts.length:Int)) =true)(h1:is5=false) :
  Ends PP 0 (dO q_form q_n q_text q_parts cons is5 i7).as (.ret (bV is5)) (aA [] 0) :=
 wE 1 [] [qp h0,qp h1] [rn 7,bt 69,rn 3,bf 71,rn 8] trivial
theorem aRk (q_form q_n:Int)(q_text:aX)(q_parts:List Pat)(cons:List Con)(is5:Bool)(i7:Int)(h0:decide (i7< (q_parts.length:Int)) =false) :
  Ends PP 0 (dO q_form q_n q_text q_parts cons is5 i7).as (.ret (bV is5)) (aA [] 0) :=
 wE 1 [] [qp h0] [rn 7,bf 69,rn 11] trivial
theorem aOX (op pats args:Int)(h0: (op== (1:Int)) =true) :
  Ends PP 0 (start PP 127 [(nI op),(nI pats),(nI args)]).as (.ret (nI 0)) (aA [] 0) :=
 wE 0 [] [qp h0] [rn 16,bt 8,rn 8] trivial
theorem aOY (op pats args:Int)(h0: (op== (1:Int)) =false)(h1: (op== (2:Int)) =true) :
  Ends PP 0 (start PP 127 [(nI op),(nI pats),(nI args)]).as (.ret (nI 0)) (aA [] 0) :=
 wE 0 [] [qp h0,qp h1] [rn 16,bf 8,rn 6,bt 8,rn 8] trivial
theorem aOZ (op pats args:Int)(h0: (op== (1:Int)) =false)(h1: (op== (2:Int)) =false)(h2: (op== (3:Int)) =true) :
  Ends PP 0 (start PP 127 [(nI op),(nI pats),(nI args)]).as (.ret (nI 0)) (aA [] 0) :=
 wE 0 [] [qp h0,qp h1,qp h2] [rn 16,bf 8,rn 6,bf 8,rn 6,bt 8,rn 8] trivial
theorem aO0 (op pats args:Int)(h0: (op== (1:Int)) =false)(h1: (op== (2:Int)) =false)(h2: (op== (3:Int)) =false)(h3: (op== (4:Int)) =true) :
  Ends PP 0 (start PP 127 [(nI op),(nI pats),(nI args)]).as (.ret (nI 0)) (aA [] 0) :=
 wE 0 [] [qp h0,qp h1,qp h2,qp h3] [rn 16,bf 8,rn 6,bf 8,rn 6,bf 8,rn 6,bt 8,rn 8] trivial
theorem aO1 (op pats args:Int)(h0: (op== (1:Int)) =false)(h1: (op== (2:Int)) =false)(h2: (op== (3:Int)) =false)(h3: (op== (4:Int)) =false)(h4: (op== (21:Int)) =true) :
  Ends PP 0 (start PP 127 [(nI op),(nI pats),(nI args)]).as (.ret (nI 0)) (aA [] 0) :=
 wE 0 [] [qp h0,qp h1,qp h2,qp h3,qp h4] [rn 16,bf 8,rn 6,bf 8,rn 6,bf 8,rn 6,bf 8,rn 6,bt 8,rn 8] trivial
theorem aO2 (op pats args:Int)(h0: (op== (1:Int)) =false)(h1: (op== (2:Int)) =false)(h2: (op== (3:Int)) =false)(h3: (op== (4:Int)) =false)(h4: (op== (21:Int)) =false)(h5: (op== (25:Int)) =true) :
  Ends PP 0 (start PP 127 [(nI op),(nI pats),(nI args)]).as (.ret (nI 0)) (aA [] 0) :=
 wE 0 [] [qp h0,qp h1,qp h2,qp h3,qp h4,qp h5] [rn 16,bf 8,rn 6,bf 8,rn 6,bf 8,rn 6,bf 8,rn 6,bf 8,rn 6,bt 8,rn 8] trivial
theorem aO3 (op pats args:Int)(h0: (op== (1:Int)) =false)(h1: (op== (2:Int)) =false)(h2: (op== (3:Int)) =false)(h3: (op== (4:Int)) =false)(h4: (op== (21:Int)) =false)(h5: (op== (25:Int)) =false)(h6: (op== (28:Int)) =true) :
  Ends PP 0 (start PP 127 [(nI op),(nI pats),(nI args)]).as (.ret (nI 0)) (aA [] 0) :=
 wE 0 [] [qp h0,qp h1,qp h2,qp h3,qp h4,qp h5,qp h6] [rn 16,bf 8,rn 6,bf 8,rn 6,bf 8,rn 6,bf 8,rn 6,bf 8,rn 6,bf 8,rn 5,bt 8,rn 6] trivial
theorem aO4 (op pats args:Int)(h0: (op== (1:Int)) =false)(h1: (op== (2:Int)) =false)(h2: (op== (3:Int)) =false)(h3: (op== (4:Int)) =false)(h4: (op== (21:Int)) =false)(h5: (op== (25:Int)) =false)(h6: (op== (28:Int)) =false)(h7: (op== (5:Int)) =true) :
  Ends PP 0 (start PP 127 [(nI op),(nI pats),(nI args)]).as (.ret (nI 1)) (aA [] 0) :=
 wE 0 [] [qp h0,qp h1,qp h2,qp h3,qp h4,qp h5,qp h6,qp h7] [rn 16,bf 8,rn 6,bf 8,rn 6,bf 8,rn 6,bf 8,rn 6,bf 8,rn 6,bf 8,rn 5,bf 8,rn 7,bt 16,rn 8] trivial
theorem aO5 (op pats args:Int)(h0: (op== (1:Int)) =false)(h1: (op== (2:Int)) =false)(h2: (op== (3:Int)) =false)(h3: (op== (4:Int)) =false)(h4: (op== (21:Int)) =false)(h5: (op== (25:Int)) =false)(h6: (op== (28:Int)) =false)(h7: (op== (5:Int)) =false)(h8: (op== (27:Int)) =true) :
  Ends PP 0 (start PP 127 [(nI op),(nI pats),(nI args)]).as (.ret (nI 1)) (aA [] 0) :=
 wE 0 [] [qp h0,qp h1,qp h2,qp h3,qp h4,qp h5,qp h6,qp h7,qp h8] [rn 16,bf 8,rn 6,bf 8,rn 6,bf 8,rn 6,bf 8,rn 6,bf 8,rn 6,bf 8,rn 5,bf 8,rn 7,bf 16,rn 6,bt 16,rn 8] trivial
theorem aO6 (op pats args:Int)(h0: (op== (1:Int)) =false)(h1: (op== (2:Int)) =false)(h2: (op== (3:Int)) =false)(h3: (op== (4:Int)) =false)(h4: (op== (21:Int)) =false)(h5: (op== (25:Int)) =false)(h6: (op== (28:Int)) =false)(h7: (op== (5:Int)) =false)(h8: (op== (27:Int)) =false)(h9: (op== (16:Int)) =true) :
  Ends PP 0 (start PP 127 [(nI op),(nI pats),(nI args)]).as (.ret (nI 1)) (aA [] 0) :=
 wE 0 [] [qp h0,qp h1,qp h2,qp h3,qp h4,qp h5,qp h6,qp h7,qp h8,qp h9] [rn 16,bf 8,rn 6,bf 8,rn 6,bf 8,rn 6,bf 8,rn 6,bf 8,rn 6,bf 8,rn 5,bf 8,rn 7,bf 16,rn 6,bf 16,rn 6,bt 16,rn 8] trivial
theorem aL7 (op pats args:Int)(h0: (op== (1:Int)) =false)(h1: (op== (2:Int)) =false)(h2: (op== (3:Int)) =false)(h3: (op== (4:Int)) =false)(h4: (op== (21:Int)) =false)(h5: (op== (25:Int)) =false)(h6: (op== (28:Int)) =false)(h7: (op== (5:Int)) =false)(h8: (op== (27:Int)) =false)(h9: (op== (16:Int)) =false)(h10: (op== (17:Int)) =true) :
  Ends PP 0 (start PP 127 [(nI op),(nI pats),(nI args)]).as (.ret (nI 1)) (aA [] 0) :=
 wE 0 [] [qp h0,qp h1,qp h2,qp h3,qp h4,qp h5,qp h6,qp h7,qp h8,qp h9,qp h10] [rn 16,bf 8,rn 6,bf 8,rn 6,bf 8,rn 6,bf 8,rn 6,bf 8,rn 6,bf 8,rn 5,bf 8,rn 7,bf 16,rn 6,bf 16,rn 6,bf 16,rn 6,bt 16,rn 8] trivial
theorem aL8 (op pats args:Int)(h0: (op== (1:Int)) =false)(h1: (op== (2:Int)) =false)(h2: (op== (3:Int)) =false)(h3: (op== (4:Int)) =false)(h4: (op== (21:Int)) =false)(h5: (op== (25:Int)) =false)(h6: (op== (28:Int)) =false)(h7: (op== (5:Int)) =false)(h8: (op== (27:Int)) =false)(h9: (op== (16:Int)) =false)(h10: (op== (17:Int)) =false)(h11: (op== (19:Int)) =true) :
  Ends PP 0 (start PP 127 [(nI op),(nI pats),(nI args)]).as (.ret (nI 1)) (aA [] 0) :=
 wE 0 [] [qp h0,qp h1,qp h2,qp h3,qp h4,qp h5,qp h6,qp h7,qp h8,qp h9,qp h10,qp h11] [rn 16,bf 8,rn 6,bf 8,rn 6,bf 8,rn 6,bf 8,rn 6,bf 8,rn 6,bf 8,rn 5,bf 8,rn 7,bf 16,rn 6,bf 16,rn 6,bf 16,rn 6,bf 16,rn 6,bt 16,rn 8] trivial
theorem aL9 (op pats args:Int)(h0: (op== (1:Int)) =false)(h1: (op== (2:Int)) =false)(h2: (op== (3:Int)) =false)(h3: (op== (4:Int)) =false)(h4: (op== (21:Int)) =false)(h5: (op== (25:Int)) =false)(h6: (op== (28:Int)) =false)(h7: (op== (5:Int)) =false)(h8: (op== (27:Int)) =false)(h9: (op== (16:Int)) =false)(h10: (op== (17:Int)) =false)(h11: (op== (19:Int)) =false)(h12: (op== (20:Int)) =true) :
  Ends PP 0 (start PP 127 [(nI op),(nI pats),(nI args)]).as (.ret (nI 1)) (aA [] 0) :=
 wE 0 [] [qp h0,qp h1,qp h2,qp h3,qp h4,qp h5,qp h6,qp h7,qp h8,qp h9,qp h10,qp h11,qp h12] [rn 16,bf 8,rn 6,bf 8,rn 6,bf 8,rn 6,bf 8,rn 6,bf 8,rn 6,bf 8,rn 5,bf 8,rn 7,bf 16,rn 6,bf 16,rn 6,bf 16,rn 6,bf 16,rn 6,bf 16,rn 6,bt 16,rn 8] trivial
theorem aMa (op pats args:Int)(h0: (op== (1:Int)) =false)(h1: (op== (2:Int)) =false)(h2: (op== (3:Int)) =false)(h3: (op== (4:Int)) =false)(h4: (op== (21:Int)) =false)(h5: (op== (25:Int)) =false)(h6: (op== (28:Int)) =false)(h7: (op== (5:Int)) =false)(h8: (op== (27:Int)) =false)(h9: (op== (16:Int)) =false)(h10: (op== (17:Int)) =false)(h11: (op== (19:Int)) =false)(h12: (op== (20:Int)) =false)(h13: (op== (23:Int)) =true) :
  Ends PP 0 (start PP 127 [(nI op),(nI pats),(nI args)]).as (.ret (nI 1)) (aA [] 0) :=
 wE 0 [] [qp h0,qp h1,qp h2,qp h3,qp h4,qp h5,qp h6,qp h7,qp h8,qp h9,qp h10,qp h11,qp h12,qp h13] [rn 16,bf 8,rn 6,bf 8,rn 6,bf 8,rn 6,bf 8,rn 6,bf 8,rn 6,bf 8,rn 5,bf 8,rn 7,bf 16,rn 6,bf 16,rn 6,bf 16,rn 6,bf 16,rn 6,bf 16,rn 6,bf 16,rn 6,bt 16,rn 8] trivial
theorem aMb (op pats args:Int)(h0: (op== (1:Int)) =false)(h1: (op== (2:Int)) =false)(h2: (op== (3:Int)) =false)(h3: (op== (4:Int)) =false)(h4: (op== (21:Int)) =false)(h5: (op== (25:Int)) =false)(h6: (op== (28:Int)) =false)(h7: (op== (5:Int)) =false)(h8: (op== (27:Int)) =false)(h9: (op== (16:Int)) =false)(h10: (op== (17:Int)) =false)(h11: (op== (19:Int)) =false)(h12: (op== (20:Int)) =false)(h13: (op== (23:Int)) =false)(h14: (op== (26:Int)) =true) :
  Ends PP 0 (start PP 127 [(nI op),(nI pats),(nI args)]).as (.ret (nI 1)) (aA [] 0) :=
 wE 0 [] [qp h0,qp h1,qp h2,qp h3,qp h4,qp h5,qp h6,qp h7,qp h8,qp h9,qp h10,qp h11,qp h12,qp h13,qp h14] [rn 16,bf 8,rn 6,bf 8,rn 6,bf 8,rn 6,bf 8,rn 6,bf 8,rn 6,bf 8,rn 5,bf 8,rn 7,bf 16,rn 6,bf 16,rn 6,bf 16,rn 6,bf 16,rn 6,bf 16,rn 6,bf 16,rn 6,bf 16,rn 6,bt 16,rn 8] trivial
theorem aMc (op pats args:Int)(h0: (op== (1:Int)) =false)(h1: (op== (2:Int)) =false)(h2: (op== (3:Int)) =false)(h3: (op== (4:Int)) =false)(h4: (op== (21:Int)) =false)(h5: (op== (25:Int)) =false)(h6: (op== (28:Int)) =false)(h7: (op== (5:Int)) =false)(h8: (op== (27:Int)) =false)(h9: (op== (16:Int)) =false)(h10: (op== (17:Int)) =false)(h11: (op== (19:Int)) =false)(h12: (op== (20:Int)) =false)(h13: (op== (23:Int)) =false)(h14: (op== (26:Int)) =false)(h15: (op== (24:Int)) =true) :
  Ends PP 0 (start PP 127 [(nI op),(nI pats),(nI args)]).as (.ret (nI 1)) (aA [] 0) :=
 wE 0 [] [qp h0,qp h1,qp h2,qp h3,qp h4,qp h5,qp h6,qp h7,qp h8,qp h9,qp h10,qp h11,qp h12,qp h13,qp h14,qp h15] [rn 16,bf 8,rn 6,bf 8,rn 6,bf 8,rn 6,bf 8,rn 6,bf 8,rn 6,bf 8,rn 5,bf 8,rn 7,bf 16,rn 6,bf 16,rn 6,bf 16,rn 6,bf 16,rn 6,bf 16,rn 6,bf 16,rn 6,bf 16,rn 6,bf 16,rn 5,bt 16,rn 6] trivial
theorem aMd (op pats args:Int)(h0: (op== (1:Int)) =false)(h1: (op== (2:Int)) =false)(h2: (op== (3:Int)) =false)(h3: (op== (4:Int)) =false)(h4: (op== (21:Int)) =false)(h5: (op== (25:Int)) =false)(h6: (op== (28:Int)) =false)(h7: (op== (5:Int)) =false)(h8: (op== (27:Int)) =false)(h9: (op== (16:Int)) =false)(h10: (op== (17:Int)) =false)(h11: (op== (19:Int)) =false)(h12: (op== (20:Int)) =false)(h13: (op== (23:Int)) =false)(h14: (op== (26:Int)) =false)(h15: (op== (24:Int)) =false)(h16: (op== (6:Int)) =true) :
  Ends PP 0 (start PP 127 [(nI op),(nI pats),(nI args)]).as (.ret (nI 2)) (aA [] 0) :=
 wE 0 [] [qp h0,qp h1,qp h2,qp h3,qp h4,qp h5,qp h6,qp h7,qp h8,qp h9,qp h10,qp h11,qp h12,qp h13,qp h14,qp h15,qp h16] [rn 16,bf 8,rn 6,bf 8,rn 6,bf 8,rn 6,bf 8,rn 6,bf 8,rn 6,bf 8,rn 5,bf 8,rn 7,bf 16,rn 6,bf 16,rn 6,bf 16,rn 6,bf 16,rn 6,bf 16,rn 6,bf 16,rn 6,bf 16,rn 6,bf 16,rn 5,bf 16,rn 7,bt 26,rn 8] trivial
theorem aMe (op pats args:Int)(h0: (op== (1:Int)) =false)(h1: (op== (2:Int)) =false)(h2: (op== (3:Int)) =false)(h3: (op== (4:Int)) =false)(h4: (op== (21:Int)) =false)(h5: (op== (25:Int)) =false)(h6: (op== (28:Int)) =false)(h7: (op== (5:Int)) =false)(h8: (op== (27:Int)) =false)(h9: (op== (16:Int)) =false)(h10: (op== (17:Int)) =false)(h11: (op== (19:Int)) =false)(h12: (op== (20:Int)) =false)(h13: (op== (23:Int)) =false)(h14: (op== (26:Int)) =false)(h15: (op== (24:Int)) =false)(h16: (op== (6:Int)) =false)(h17: (op== (7:Int)) =true) :
  Ends PP 0 (start PP 127 [(nI op),(nI pats),(nI args)]).as (.ret (nI 2)) (aA [] 0) :=
 wE 0 [] [qp h0,qp h1,qp h2,qp h3,qp h4,qp h5,qp h6,qp h7,qp h8,qp h9,qp h10,qp h11,qp h12,qp h13,qp h14,qp h15,qp h16,qp h17] [rn 16,bf 8,rn 6,bf 8,rn 6,bf 8,rn 6,bf 8,rn 6,bf 8,rn 6,bf 8,rn 5,bf 8,rn 7,bf 16,rn 6,bf 16,rn 6,bf 16,rn 6,bf 16,rn 6,bf 16,rn 6,bf 16,rn 6,bf 16,rn 6,bf 16,rn 5,bf 16,rn 7,bf 26,rn 6,bt 26,rn 8] trivial
theorem aMf (op pats args:Int)(h0: (op== (1:Int)) =false)(h1: (op== (2:Int)) =false)(h2: (op== (3:Int)) =false)(h3: (op== (4:Int)) =false)(h4: (op== (21:Int)) =false)(h5: (op== (25:Int)) =false)(h6: (op== (28:Int)) =false)(h7: (op== (5:Int)) =false)(h8: (op== (27:Int)) =false)(h9: (op== (16:Int)) =false)(h10: (op== (17:Int)) =false)(h11: (op== (19:Int)) =false)(h12: (op== (20:Int)) =false)(h13: (op== (23:Int)) =false)(h14: (op== (26:Int)) =false)(h15: (op== (24:Int)) =false)(h16: (op== (6:Int)) =false)(h17: (op== (7:Int)) =false)(h18: (op== (9:Int)) =true) :
  Ends PP 0 (start PP 127 [(nI op),(nI pats),(nI args)]).as (.ret (nI 2)) (aA [] 0) :=
 wE 0 [] [qp h0,qp h1,qp h2,qp h3,qp h4,qp h5,qp h6,qp h7,qp h8,qp h9,qp h10,qp h11,qp h12,qp h13,qp h14,qp h15,qp h16,qp h17,qp h18] [rn 16,bf 8,rn 6,bf 8,rn 6,bf 8,rn 6,bf 8,rn 6,bf 8,rn 6,bf 8,rn 5,bf 8,rn 7,bf 16,rn 6,bf 16,rn 6,bf 16,rn 6,bf 16,rn 6,bf 16,rn 6,bf 16,rn 6,bf 16,rn 6,bf 16,rn 5,bf 16,rn 7,bf 26,rn 6,bf 26,rn 6,bt 26,rn 8] trivial
theorem aMg (op pats args:Int)(h0: (op== (1:Int)) =false)(h1: (op== (2:Int)) =false)(h2: (op== (3:Int)) =false)(h3: (op== (4:Int)) =false)(h4: (op== (21:Int)) =false)(h5: (op== (25:Int)) =false)(h6: (op== (28:Int)) =false)(h7: (op== (5:Int)) =false)(h8: (op== (27:Int)) =false)(h9: (op== (16:Int)) =false)(h10: (op== (17:Int)) =false)(h11: (op== (19:Int)) =false)(h12: (op== (20:Int)) =false)(h13: (op== (23:Int)) =false)(h14: (op== (26:Int)) =false)(h15: (op== (24:Int)) =false)(h16: (op== (6:Int)) =false)(h17: (op== (7:Int)) =false)(h18: (op== (9:Int)) =false)(h19: (op== (10:Int)) =true) :
  Ends PP 0 (start PP 127 [(nI op),(nI pats),(nI args)]).as (.ret (nI 2)) (aA [] 0) :=
 wE 0 [] [qp h0,qp h1,qp h2,qp h3,qp h4,qp h5,qp h6,qp h7,qp h8,qp h9,qp h10,qp h11,qp h12,qp h13,qp h14,qp h15,qp h16,qp h17,qp h18,qp h19] [rn 16,bf 8,rn 6,bf 8,rn 6,bf 8,rn 6,bf 8,rn 6,bf 8,rn 6,bf 8,rn 5,bf 8,rn 7,bf 16,rn 6,bf 16,rn 6,bf 16,rn 6,bf 16,rn 6,bf 16,rn 6,bf 16,rn 6,bf 16,rn 6,bf 16,rn 5,bf 16,rn 7,bf 26,rn 6,bf 26,rn 6,bf 26,rn 6,bt 26,rn 8] trivial
theorem aMh (op pats args:Int)(h0: (op== (1:Int)) =false)(h1: (op== (2:Int)) =false)(h2: (op== (3:Int)) =false)(h3: (op== (4:Int)) =false)(h4: (op== (21:Int)) =false)(h5: (op== (25:Int)) =false)(h6: (op== (28:Int)) =false)(h7: (op== (5:Int)) =false)(h8: (op== (27:Int)) =false)(h9: (op== (16:Int)) =false)(h10: (op== (17:Int)) =false)(h11: (op== (19:Int)) =false)(h12: (op== (20:Int)) =false)(h13: (op== (23:Int)) =false)(h14: (op== (26:Int)) =false)(h15: (op== (24:Int)) =false)(h16: (op== (6:Int)) =false)(h17: (op== (7:Int)) =false)(h18: (op== (9:Int)) =false)(h19: (op== (10:Int)) =false)(h20: (op== (11:Int)) =true) :
  Ends PP 0 (start PP 127 [(nI op),(nI pats),(nI args)]).as (.ret (nI 2)) (aA [] 0) :=
 wE 0 [] [qp h0,qp h1,qp h2,qp h3,qp h4,qp h5,qp h6,qp h7,qp h8,qp h9,qp h10,qp h11,qp h12,qp h13,qp h14,qp h15,qp h16,qp h17,qp h18,qp h19,qp h20] [rn 16,bf 8,rn 6,bf 8,rn 6,bf 8,rn 6,bf 8,rn 6,bf 8,rn 6,bf 8,rn 5,bf 8,rn 7,bf 16,rn 6,bf 16,rn 6,bf 16,rn 6,bf 16,rn 6,bf 16,rn 6,bf 16,rn 6,bf 16,rn 6,bf 16,rn 5,bf 16,rn 7,bf 26,rn 6,bf 26,rn 6,bf 26,rn 6,bf 26,rn 6,bt 26,rn 8] trivial
theorem aMi (op pats args:Int)(h0: (op== (1:Int)) =false)(h1: (op== (2:Int)) =false)(h2: (op== (3:Int)) =false)(h3: (op== (4:Int)) =false)(h4: (op== (21:Int)) =false)(h5: (op== (25:Int)) =false)(h6: (op== (28:Int)) =false)(h7: (op== (5:Int)) =false)(h8: (op== (27:Int)) =false)(h9: (op== (16:Int)) =false)(h10: (op== (17:Int)) =false)(h11: (op== (19:Int)) =false)(h12: (op== (20:Int)) =false)(h13: (op== (23:Int)) =false)(h14: (op== (26:Int)) =false)(h15: (op== (24:Int)) =false)(h16: (op== (6:Int)) =false)(h17: (op== (7:Int)) =false)(h18: (op== (9:Int)) =false)(h19: (op== (10:Int)) =false)(h20: (op== (11:Int)) =false)(h21: (op== (12:Int)) =true) :
  Ends PP 0 (start PP 127 [(nI op),(nI pats),(nI args)]).as (.ret (nI 2)) (aA [] 0) :=
 wE 0 [] [qp h0,qp h1,qp h2,qp h3,qp h4,qp h5,qp h6,qp h7,qp h8,qp h9,qp h10,qp h11,qp h12,qp h13,qp h14,qp h15,qp h16,qp h17,qp h18,qp h19,qp h20,qp h21] [rn 16,bf 8,rn 6,bf 8,rn 6,bf 8,rn 6,bf 8,rn 6,bf 8,rn 6,bf 8,rn 5,bf 8,rn 7,bf 16,rn 6,bf 16,rn 6,bf 16,rn 6,bf 16,rn 6,bf 16,rn 6,bf 16,rn 6,bf 16,rn 6,bf 16,rn 5,bf 16,rn 7,bf 26,rn 6,bf 26,rn 6,bf 26,rn 6,bf 26,rn 6,bf 26,rn 6,bt 26,rn 8] trivial
theorem aMj (op pats args:Int)(h0: (op== (1:Int)) =false)(h1: (op== (2:Int)) =false)(h2: (op== (3:Int)) =false)(h3: (op== (4:Int)) =false)(h4: (op== (21:Int)) =false)(h5: (op== (25:Int)) =false)(h6: (op== (28:Int)) =false)(h7: (op== (5:Int)) =false)(h8: (op== (27:Int)) =false)(h9: (op== (16:Int)) =false)(h10: (op== (17:Int)) =false)(h11: (op== (19:Int)) =false)(h12: (op== (20:Int)) =false)(h13: (op== (23:Int)) =false)(h14: (op== (26:Int)) =false)(h15: (op== (24:Int)) =false)(h16: (op== (6:Int)) =false)(h17: (op== (7:Int)) =false)(h18: (op== (9:Int)) =false)(h19: (op== (10:Int)) =false)(h20: (op== (11:Int)) =false)(h21: (op== (12:Int)) =false)(h22: (op== (13:Int)) =true) :
  Ends PP 0 (start PP 127 [(nI op),(nI pats),(nI args)]).as (.ret (nI 2)) (aA [] 0) :=
 wE 0 [] [qp h0,qp h1,qp h2,qp h3,qp h4,qp h5,qp h6,qp h7,qp h8,qp h9,qp h10,qp h11,qp h12,qp h13,qp h14,qp h15,qp h16,qp h17,qp h18,qp h19,qp h20,qp h21,qp h22] [rn 16,bf 8,rn 6,bf 8,rn 6,bf 8,rn 6,bf 8,rn 6,bf 8,rn 6,bf 8,rn 5,bf 8,rn 7,bf 16,rn 6,bf 16,rn 6,bf 16,rn 6,bf 16,rn 6,bf 16,rn 6,bf 16,rn 6,bf 16,rn 6,bf 16,rn 5,bf 16,rn 7,bf 26,rn 6,bf 26,rn 6,bf 26,rn 6,bf 26,rn 6,bf 26,rn 6,bf 26,rn 6,bt 26,rn 8] trivial
theorem aMk (op pats args:Int)(h0: (op== (1:Int)) =false)(h1: (op== (2:Int)) =false)(h2: (op== (3:Int)) =false)(h3: (op== (4:Int)) =false)(h4: (op== (21:Int)) =false)(h5: (op== (25:Int)) =false)(h6: (op== (28:Int)) =false)(h7: (op== (5:Int)) =false)(h8: (op== (27:Int)) =false)(h9: (op== (16:Int)) =false)(h10: (op== (17:Int)) =false)(h11: (op== (19:Int)) =false)(h12: (op== (20:Int)) =false)(h13: (op== (23:Int)) =false)(h14: (op== (26:Int)) =false)(h15: (op== (24:Int)) =false)(h16: (op== (6:Int)) =false)(h17: (op== (7:Int)) =false)(h18: (op== (9:Int)) =false)(h19: (op== (10:Int)) =false)(h20: (op== (11:Int)) =false)(h21: (op== (12:Int)) =false)(h22: (op== (13:Int)) =false)(h23: (op== (18:Int)) =true) :
  Ends PP 0 (start PP 127 [(nI op),(nI pats),(nI args)]).as (.ret (nI 2)) (aA [] 0) :=
 wE 0 [] [qp h0,qp h1,qp h2,qp h3,qp h4,qp h5,qp h6,qp h7,qp h8,qp h9,qp h10,qp h11,qp h12,qp h13,qp h14,qp h15,qp h16,qp h17,qp h18,qp h19,qp h20,qp h21,qp h22,qp h23] [rn 16,bf 8,rn 6,bf 8,rn 6,bf 8,rn 6,bf 8,rn 6,bf 8,rn 6,bf 8,rn 5,bf 8,rn 7,bf 16,rn 6,bf 16,rn 6,bf 16,rn 6,bf 16,rn 6,bf 16,rn 6,bf 16,rn 6,bf 16,rn 6,bf 16,rn 5,bf 16,rn 7,bf 26,rn 6,bf 26,rn 6,bf 26,rn 6,bf 26,rn 6,bf 26,rn 6,bf 26,rn 6,bf 26,rn 6,bt 26,rn 8] trivial
theorem aMl (op pats args:Int)(h0: (op== (1:Int)) =false)(h1: (op== (2:Int)) =false)(h2: (op== (3:Int)) =false)(h3: (op== (4:Int)) =false)(h4: (op== (21:Int)) =false)(h5: (op== (25:Int)) =false)(h6: (op== (28:Int)) =false)(h7: (op== (5:Int)) =false)(h8: (op== (27:Int)) =false)(h9: (op== (16:Int)) =false)(h10: (op== (17:Int)) =false)(h11: (op== (19:Int)) =false)(h12: (op== (20:Int)) =false)(h13: (op== (23:Int)) =false)(h14: (op== (26:Int)) =false)(h15: (op== (24:Int)) =false)(h16: (op== (6:Int)) =false)(h17: (op== (7:Int)) =false)(h18: (op== (9:Int)) =false)(h19: (op== (10:Int)) =false)(h20: (op== (11:Int)) =false)(h21: (op== (12:Int)) =false)(h22: (op== (13:Int)) =false)(h23: (op== (18:Int)) =false)(h24: (op== (22:Int)) =true) :
  Ends PP 0 (start PP 127 [(nI op),(nI pats),(nI args)]).as (.ret (nI 2)) (aA [] 0) :=
 wE 0 [] [qp h0,qp h1,qp h2,qp h3,qp h4,qp h5,qp h6,qp h7,qp h8,qp h9,qp h10,qp h11,qp h12,qp h13,qp h14,qp h15,qp h16,qp h17,qp h18,qp h19,qp h20,qp h21,qp h22,qp h23,qp h24] [rn 16,bf 8,rn 6,bf 8,rn 6,bf 8,rn 6,bf 8,rn 6,bf 8,rn 6,bf 8,rn 5,bf 8,rn 7,bf 16,rn 6,bf 16,rn 6,bf 16,rn 6,bf 16,rn 6,bf 16,rn 6,bf 16,rn 6,bf 16,rn 6,bf 16,rn 5,bf 16,rn 7,bf 26,rn 6,bf 26,rn 6,bf 26,rn 6,bf 26,rn 6,bf 26,rn 6,bf 26,rn 6,bf 26,rn 6,bf 26,rn 5,bt 26,rn 6] trivial
theorem aMm (op pats args:Int)(h0: (op== (1:Int)) =false)(h1: (op== (2:Int)) =false)(h2: (op== (3:Int)) =false)(h3: (op== (4:Int)) =false)(h4: (op== (21:Int)) =false)(h5: (op== (25:Int)) =false)(h6: (op== (28:Int)) =false)(h7: (op== (5:Int)) =false)(h8: (op== (27:Int)) =false)(h9: (op== (16:Int)) =false)(h10: (op== (17:Int)) =false)(h11: (op== (19:Int)) =false)(h12: (op== (20:Int)) =false)(h13: (op== (23:Int)) =false)(h14: (op== (26:Int)) =false)(h15: (op== (24:Int)) =false)(h16: (op== (6:Int)) =false)(h17: (op== (7:Int)) =false)(h18: (op== (9:Int)) =false)(h19: (op== (10:Int)) =false)(h20: (op== (11:Int)) =false)(h21: (op== (12:Int)) =false)(h22: (op== (13:Int)) =false)(h23: (op== (18:Int)) =false)(h24: (op== (22:Int)) =false)(h25: (op== (8:Int)) =true) :
  Ends PP 0 (start PP 127 [(nI op),(nI pats),(nI args)]).as (.ret (nI 3)) (aA [] 0) :=
 wE 0 [] [qp h0,qp h1,qp h2,qp h3,qp h4,qp h5,qp h6,qp h7,qp h8,qp h9,qp h10,qp h11,qp h12,qp h13,qp h14,qp h15,qp h16,qp h17,qp h18,qp h19,qp h20,qp h21,qp h22,qp h23,qp h24,qp h25] [rn 16,bf 8,rn 6,bf 8,rn 6,bf 8,rn 6,bf 8,rn 6,bf 8,rn 6,bf 8,rn 5,bf 8,rn 7,bf 16,rn 6,bf 16,rn 6,bf 16,rn 6,bf 16,rn 6,bf 16,rn 6,bf 16,rn 6,bf 16,rn 6,bf 16,rn 5,bf 16,rn 7,bf 26,rn 6,bf 26,rn 6,bf 26,rn 6,bf 26,rn 6,bf 26,rn 6,bf 26,rn 6,bf 26,rn 6,bf 26,rn 5,bf 26,rn 6,bt 36,rn 6] trivial
theorem aMn (op pats args:Int)(h0: (op== (1:Int)) =false)(h1: (op== (2:Int)) =false)(h2: (op== (3:Int)) =false)(h3: (op== (4:Int)) =false)(h4: (op== (21:Int)) =false)(h5: (op== (25:Int)) =false)(h6: (op== (28:Int)) =false)(h7: (op== (5:Int)) =false)(h8: (op== (27:Int)) =false)(h9: (op== (16:Int)) =false)(h10: (op== (17:Int)) =false)(h11: (op== (19:Int)) =false)(h12: (op== (20:Int)) =false)(h13: (op== (23:Int)) =false)(h14: (op== (26:Int)) =false)(h15: (op== (24:Int)) =false)(h16: (op== (6:Int)) =false)(h17: (op== (7:Int)) =false)(h18: (op== (9:Int)) =false)(h19: (op== (10:Int)) =false)(h20: (op== (11:Int)) =false)(h21: (op== (12:Int)) =false)(h22: (op== (13:Int)) =false)(h23: (op== (18:Int)) =false)(h24: (op== (22:Int)) =false)(h25: (op== (8:Int)) =false)(h26: (op== (15:Int)) =true)(h27: (IntKind.i64.wrap ((1:Int) +pats)) = ((1:Int) +pats)) :
  Ends PP 0 (start PP 127 [(nI op),(nI pats),(nI args)]).as (.ret (nI ((1:Int) +pats))) (aA [] 0) :=
 wE 0 [] [qp h0,qp h1,qp h2,qp h3,qp h4,qp h5,qp h6,qp h7,qp h8,qp h9,qp h10,qp h11,qp h12,qp h13,qp h14,qp h15,qp h16,qp h17,qp h18,qp h19,qp h20,qp h21,qp h22,qp h23,qp h24,qp h25,qp h26,qp (congrArg (AV.int .i64) h27)] [rn 16,bf 8,rn 6,bf 8,rn 6,bf 8,rn 6,bf 8,rn 6,bf 8,rn 6,bf 8,rn 5,bf 8,rn 7,bf 16,rn 6,bf 16,rn 6,bf 16,rn 6,bf 16,rn 6,bf 16,rn 6,bf 16,rn 6,bf 16,rn 6,bf 16,rn 5,bf 16,rn 7,bf 26,rn 6,bf 26,rn 6,bf 26,rn 6,bf 26,rn 6,bf 26,rn 6,bf 26,rn 6,bf 26,rn 6,bf 26,rn 5,bf 26,rn 6,bf 36,rn 6,bt 38,rn 5,sI 41 ((1:Int) +pats),rn 3] trivial
theorem aMo (op pats args:Int)(h0: (op== (1:Int)) =false)(h1: (op== (2:Int)) =false)(h2: (op== (3:Int)) =false)(h3: (op== (4:Int)) =false)(h4: (op== (21:Int)) =false)(h5: (op== (25:Int)) =false)(h6: (op== (28:Int)) =false)(h7: (op== (5:Int)) =false)(h8: (op== (27:Int)) =false)(h9: (op== (16:Int)) =false)(h10: (op== (17:Int)) =false)(h11: (op== (19:Int)) =false)(h12: (op== (20:Int)) =false)(h13: (op== (23:Int)) =false)(h14: (op== (26:Int)) =false)(h15: (op== (24:Int)) =false)(h16: (op== (6:Int)) =false)(h17: (op== (7:Int)) =false)(h18: (op== (9:Int)) =false)(h19: (op== (10:Int)) =false)(h20: (op== (11:Int)) =false)(h21: (op== (12:Int)) =false)(h22: (op== (13:Int)) =false)(h23: (op== (18:Int)) =false)(h24: (op== (22:Int)) =false)(h25: (op== (8:Int)) =false)(h26: (op== (15:Int)) =false)(h27: (op== (14:Int)) =true) :
  Ends PP 0 (start PP 127 [(nI op),(nI pats),(nI args)]).as (.ret (nI args)) (aA [] 0) :=
 wE 0 [] [qp h0,qp h1,qp h2,qp h3,qp h4,qp h5,qp h6,qp h7,qp h8,qp h9,qp h10,qp h11,qp h12,qp h13,qp h14,qp h15,qp h16,qp h17,qp h18,qp h19,qp h20,qp h21,qp h22,qp h23,qp h24,qp h25,qp h26,qp h27] [rn 16,bf 8,rn 6,bf 8,rn 6,bf 8,rn 6,bf 8,rn 6,bf 8,rn 6,bf 8,rn 5,bf 8,rn 7,bf 16,rn 6,bf 16,rn 6,bf 16,rn 6,bf 16,rn 6,bf 16,rn 6,bf 16,rn 6,bf 16,rn 6,bf 16,rn 5,bf 16,rn 7,bf 26,rn 6,bf 26,rn 6,bf 26,rn 6,bf 26,rn 6,bf 26,rn 6,bf 26,rn 6,bf 26,rn 6,bf 26,rn 5,bf 26,rn 6,bf 36,rn 6,bf 38,rn 6,bt 42,rn 7] trivial
theorem aMp (op pats args:Int)(h0: (op== (1:Int)) =false)(h1: (op== (2:Int)) =false)(h2: (op== (3:Int)) =false)(h3: (op== (4:Int)) =false)(h4: (op== (21:Int)) =false)(h5: (op== (25:Int)) =false)(h6: (op== (28:Int)) =false)(h7: (op== (5:Int)) =false)(h8: (op== (27:Int)) =false)(h9: (op== (16:Int)) =false)(h10: (op== (17:Int)) =false)(h11: (op== (19:Int)) =false)(h12: (op== (20:Int)) =false)(h13: (op== (23:Int)) =false)(h14: (op== (26:Int)) =false)(h15: (op== (24:Int)) =false)(h16: (op== (6:Int)) =false)(h17: (op== (7:Int)) =false)(h18: (op== (9:Int)) =false)(h19: (op== (10:Int)) =false)(h20: (op== (11:Int)) =false)(h21: (op== (12:Int)) =false)(h22: (op== (13:Int)) =false)(h23: (op== (18:Int)) =false)(h24: (op== (22:Int)) =false)(h25: (op== (8:Int)) =false)(h26: (op== (15:Int)) =false)(h27: (op== (14:Int)) =false) :
  Ends PP 0 (start PP 127 [(nI op),(nI pats),(nI args)]).as (.ret (nI (-1))) (aA [] 0) :=
 wE 0 [] [qp h0,qp h1,qp h2,qp h3,qp h4,qp h5,qp h6,qp h7,qp h8,qp h9,qp h10,qp h11,qp h12,qp h13,qp h14,qp h15,qp h16,qp h17,qp h18,qp h19,qp h20,qp h21,qp h22,qp h23,qp h24,qp h25,qp h26,qp h27] [rn 16,bf 8,rn 6,bf 8,rn 6,bf 8,rn 6,bf 8,rn 6,bf 8,rn 6,bf 8,rn 5,bf 8,rn 7,bf 16,rn 6,bf 16,rn 6,bf 16,rn 6,bf 16,rn 6,bf 16,rn 6,bf 16,rn 6,bf 16,rn 6,bf 16,rn 5,bf 16,rn 7,bf 26,rn 6,bf 26,rn 6,bf 26,rn 6,bf 26,rn 6,bf 26,rn 6,bf 26,rn 6,bf 26,rn 6,bf 26,rn 5,bf 26,rn 6,bf 36,rn 6,bf 38,rn 6,bf 42,rn 8] trivial
end Go.Hb
namespace Go.Hb
open Go.Proofs
theorem Ends.eqv {P:Program}{m:Nat}{s:AS}{v v':AV}{h':Hp}(h:Ends P m s (.ret v) h')(e:v=v') :Ends P m s (.ret v') h':=e ▸ h
theorem inB_iff {n lo hi:Int}:dU n lo hi=true↔lo≤n∧n≤hi:=by simp [dU]
theorem inB_not {n lo hi:Int}:dU n lo hi=false↔¬ (lo≤n∧n≤hi) :=by simp [dU]
theorem sdI {p:Prop}(h:p:=by first|assumption|rfl| (simp only [Int.toNat_natCast];assumption) | (simp only [decide_eq_true_eq,decide_eq_false_iff_not];omega) |omega| (apply wrap64<;>omega) | (simp_all;done) | (simp only [inB_iff,inB_not,beq_iff_eq,decide_eq_true_eq,decide_eq_false_iff_not]at *;omega)) :p:=h
theorem idT {p:Prop}(h:p:=by exact⟨_,List.getElem?_eq_getElem (by simp only [inB_iff,inB_not,beq_iff_eq,decide_eq_true_eq,decide_eq_false_iff_not]at *;omega)⟩) :p:=h
def dV (op pats args:Int) :Int:=
 if op=1∨op=2∨op=3∨op=4∨op=21∨op=25∨op=28 then 0
 else if op=5∨op=27∨op=16∨op=17∨op=19∨op=20∨op=23∨op=26∨op=24 then 1
 else if op=6∨op=7∨op=9∨op=10∨op=11∨op=12∨op=13∨op=18∨op=22 then 2
 else if op=8 then 3 else if op=15 then 1+pats else if op=14 then args else -1
theorem rKids_E (op pats args :Int)(hp:0≤pats)(hp2:pats≤1000) :Ends PP 0 (start PP 127 [.int .i64 op,.int .i64 pats,.int .i64 args]).as (.ret (.int .i64 (dV op pats args))) (aA [] 0) :=by
 cases hb1: (op== (1:Int))with
 | true=>
  exact Ends.eqv (aOX op pats args   hb1) (by simp_all [dV])
 | false =>
  cases hb2: (op== (2:Int))with
  | true=>
   exact Ends.eqv (aOY op pats args   hb1 hb2) (by simp_all [dV])
  | false =>
   cases hb3: (op== (3:Int))with
   | true=>
    exact Ends.eqv (aOZ op pats args   hb1 hb2 hb3) (by simp_all [dV])
   | false =>
    cases hb4: (op== (4:Int))with
    | true=>
     exact Ends.eqv (aO0 op pats args   hb1 hb2 hb3 hb4) (by simp_all [dV])
    | false =>
     cases hb5: (op== (21:Int))with
     | true=>
      exact Ends.eqv (aO1 op pats args   hb1 hb2 hb3 hb4 hb5) (by simp_all [dV])
     | false =>
      cases hb6: (op== (25:Int))with
      | true=>
       exact Ends.eqv (aO2 op pats args   hb1 hb2 hb3 hb4 hb5 hb6) (by simp_all [dV])
      | false =>
       cases hb7: (op== (28:Int))with
       | true=>
        exact Ends.eqv (aO3 op pats args   hb1 hb2 hb3 hb4 hb5 hb6 hb7) (by simp_all [dV])
       | false =>
        cases hb8: (op== (5:Int))with
        | true=>
         exact Ends.eqv (aO4 op pats args   hb1 hb2 hb3 hb4 hb5 hb6 hb7 hb8) (by simp_all [dV])
        | false =>
         cases hb9: (op== (27:Int))with
         | true=>
          exact Ends.eqv (aO5 op pats args   hb1 hb2 hb3 hb4 hb5 hb6 hb7 hb8 hb9) (by simp_all [dV])
         | false =>
          cases hb10: (op== (16:Int))with
          | true=>
           exact Ends.eqv (aO6 op pats args   hb1 hb2 hb3 hb4 hb5 hb6 hb7 hb8 hb9 hb10) (by simp_all [dV])
          | false =>
           cases hb11: (op== (17:Int))with
           | true=>
            exact Ends.eqv (aL7 op pats args   hb1 hb2 hb3 hb4 hb5 hb6 hb7 hb8 hb9 hb10 hb11) (by simp_all [dV])
           | false =>
            cases hb12: (op== (19:Int))with
            | true=>
             exact Ends.eqv (aL8 op pats args   hb1 hb2 hb3 hb4 hb5 hb6 hb7 hb8 hb9 hb10 hb11 hb12) (by simp_all [dV])
            | false =>
             cases hb13: (op== (20:Int))with
             | true=>
              exact Ends.eqv (aL9 op pats args   hb1 hb2 hb3 hb4 hb5 hb6 hb7 hb8 hb9 hb10 hb11 hb12 hb13) (by simp_all [dV])
             | false =>
              cases hb14: (op== (23:Int))with
              | true=>
               exact Ends.eqv (aMa op pats args   hb1 hb2 hb3 hb4 hb5 hb6 hb7 hb8 hb9 hb10 hb11 hb12 hb13 hb14) (by simp_all [dV])
              | false =>
               cases hb15: (op== (26:Int))with
               | true=>
                exact Ends.eqv (aMb op pats args   hb1 hb2 hb3 hb4 hb5 hb6 hb7 hb8 hb9 hb10 hb11 hb12 hb13 hb14 hb15) (by simp_all [dV])
               | false =>
                cases hb16: (op== (24:Int))with
                | true=>
                 exact Ends.eqv (aMc op pats args   hb1 hb2 hb3 hb4 hb5 hb6 hb7 hb8 hb9 hb10 hb11 hb12 hb13 hb14 hb15 hb16) (by simp_all [dV])
                | false =>
                 cases hb17: (op== (6:Int))with
                 | true=>
                  exact Ends.eqv (aMd op pats args   hb1 hb2 hb3 hb4 hb5 hb6 hb7 hb8 hb9 hb10 hb11 hb12 hb13 hb14 hb15 hb16 hb17) (by simp_all [dV])
                 | false =>
                  cases hb18: (op== (7:Int))with
                  | true=>
                   exact Ends.eqv (aMe op pats args   hb1 hb2 hb3 hb4 hb5 hb6 hb7 hb8 hb9 hb10 hb11 hb12 hb13 hb14 hb15 hb16 hb17 hb18) (by simp_all [dV])
                  | false =>
                   cases hb19: (op== (9:Int))with
                   | true=>
                    exact Ends.eqv (aMf op pats args   hb1 hb2 hb3 hb4 hb5 hb6 hb7 hb8 hb9 hb10 hb11 hb12 hb13 hb14 hb15 hb16 hb17 hb18 hb19) (by simp_all [dV])
                   | false =>
                    cases hb20: (op== (10:Int))with
                    | true=>
                     exact Ends.eqv (aMg op pats args   hb1 hb2 hb3 hb4 hb5 hb6 hb7 hb8 hb9 hb10 hb11 hb12 hb13 hb14 hb15 hb16 hb17 hb18 hb19 hb20) (by simp_all [dV])
                    | false =>
                     cases hb21: (op== (11:Int))with
                     | true=>
                      exact Ends.eqv (aMh op pats args   hb1 hb2 hb3 hb4 hb5 hb6 hb7 hb8 hb9 hb10 hb11 hb12 hb13 hb14 hb15 hb16 hb17 hb18 hb19 hb20 hb21) (by simp_all [dV])
                     | false =>
                      cases hb22: (op== (12:Int))with
                      | true=>
                       exact Ends.eqv (aMi op pats args   hb1 hb2 hb3 hb4 hb5 hb6 hb7 hb8 hb9 hb10 hb11 hb12 hb13 hb14 hb15 hb16 hb17 hb18 hb19 hb20 hb21 hb22) (by simp_all [dV])
                      | false =>
                       cases hb23: (op== (13:Int))with
                       | true=>
                        exact Ends.eqv (aMj op pats args   hb1 hb2 hb3 hb4 hb5 hb6 hb7 hb8 hb9 hb10 hb11 hb12 hb13 hb14 hb15 hb16 hb17 hb18 hb19 hb20 hb21 hb22 hb23) (by simp_all [dV])
                       | false=>
                        cases hb24: (op== (18:Int))with
                        | true=>
                         exact Ends.eqv (aMk op pats args   hb1 hb2 hb3 hb4 hb5 hb6 hb7 hb8 hb9 hb10 hb11 hb12 hb13 hb14 hb15 hb16 hb17 hb18 hb19 hb20 hb21 hb22 hb23 hb24) (by simp_all [dV])
                        | false=>
                         cases hb25: (op== (22:Int))with
                         | true=>
                          exact Ends.eqv (aMl op pats args   hb1 hb2 hb3 hb4 hb5 hb6 hb7 hb8 hb9 hb10 hb11 hb12 hb13 hb14 hb15 hb16 hb17 hb18 hb19 hb20 hb21 hb22 hb23 hb24 hb25) (by simp_all [dV])
                         | false=>
                          cases hb26: (op== (8:Int))with
                          | true=>
                           exact Ends.eqv (aMm op pats args   hb1 hb2 hb3 hb4 hb5 hb6 hb7 hb8 hb9 hb10 hb11 hb12 hb13 hb14 hb15 hb16 hb17 hb18 hb19 hb20 hb21 hb22 hb23 hb24 hb25 hb26) (by simp_all [dV])
                          | false=>
                           cases hb27: (op== (15:Int))with
                           | true=>
                            exact Ends.eqv (aMn op pats args   hb1 hb2 hb3 hb4 hb5 hb6 hb7 hb8 hb9 hb10 hb11 hb12 hb13 hb14 hb15 hb16 hb17 hb18 hb19 hb20 hb21 hb22 hb23 hb24 hb25 hb26 hb27 sdI) (by simp_all [dV])
                           | false=>
                            cases hb28: (op== (14:Int))with
                            | true=>
                             exact Ends.eqv (aMo op pats args   hb1 hb2 hb3 hb4 hb5 hb6 hb7 hb8 hb9 hb10 hb11 hb12 hb13 hb14 hb15 hb16 hb17 hb18 hb19 hb20 hb21 hb22 hb23 hb24 hb25 hb26 hb27 hb28) (by simp_all [dV])
                            | false=>
                             exact Ends.eqv (aMp op pats args   hb1 hb2 hb3 hb4 hb5 hb6 hb7 hb8 hb9 hb10 hb11 hb12 hb13 hb14 hb15 hb16 hb17 hb18 hb19 hb20 hb21 hb22 hb23 hb24 hb25 hb26 hb27 hb28) (by simp_all [dV])
theorem aMq (op pats args:Int)(hp:0≤pats)(hp2:pats≤1000) :aE PP 127 [.int .i64 op,.int .i64 pats,.int .i64 args] (.int .i64 (dV op pats args)) :=
 bK (by kernel_rfl) rfl rfl (rKids_E op pats args hp hp2)
def fB (cons:List Con)(n:Int) :Int:=match cons[n.toNat]? with
 |some c=>c.args
 |none=> -1
def dT (cons:List Con)(f n:Int)(s:aX)(k:Nat) :Bool:=
 (if f=1∨f=2∨f=5 then decide (k=0) &&decide (n=0)
 else if f=3 then decide (k=0) &&dU n (-1000000000) 1000000000
 else if f=4 then decide (k=0) &&dU n 0 1
 else if f=6 then dU n 0 ((cons.length:Int) -1) &&decide ((k:Int) =fB cons n)
 else false) &&decide (s= [])
mutual
def dM (cons:List Con) :Pat→Bool
 | .mk f n s ps=>dT cons f n s ps.length&&cH cons ps
def cH (cons:List Con) :List Pat→Bool
 | [] =>true
 |p::ps=>dM cons p&&cH cons ps
end
theorem ptT {p:Prop}(h:p:=by simp_all [dT,fB,dS]) :p:=h
theorem aWF (q_form q_n:Int)(q_text:aX)(q_parts:List Pat)(cons:List Con)(hc:cons.length≤1000)(b:Bool)(hk:∀i:Bool,i=dT cons q_form q_n q_text q_parts.length→Ends PP 0 (dO q_form q_n q_text q_parts cons i 0).as (.ret (.bool b)) (aA [] 0)) :
  Ends PP 0 (start PP 126 [Pat.av (.mk q_form q_n q_text q_parts),.ilst 2 (List.map Con.av cons) false]).as (.ret (.bool b)) (aA [] 0) :=by
 cases hb1: (q_form== (1:Int))with
 | true=>
  cases hb2: (((List.length q_parts:Nat) :Int) == (0:Int))with
  | true=>
   cases hb3: (q_n== (0:Int))with
   | true=>
    exact LeadsM.ends (aQ8 q_form q_n q_text q_parts cons   hb1 hb2 hb3) (hk _ (by clear hk;exact ptT))
   | false=>
    exact LeadsM.ends (aQ9 q_form q_n q_text q_parts cons   hb1 hb2 hb3) (hk _ (by clear hk;exact ptT))
  | false=>
   exact LeadsM.ends (aRa q_form q_n q_text q_parts cons   hb1 hb2) (hk _ (by clear hk;exact ptT))
 | false =>
  cases hb4: (q_form== (2:Int))with
  | true=>
   cases hb5: (((List.length q_parts:Nat) :Int) == (0:Int))with
   | true=>
    cases hb6: (q_n== (0:Int))with
    | true=>
     exact LeadsM.ends (aRb q_form q_n q_text q_parts cons   hb1 hb4 hb5 hb6) (hk _ (by clear hk;exact ptT))
    | false=>
     exact LeadsM.ends (aRc q_form q_n q_text q_parts cons   hb1 hb4 hb5 hb6) (hk _ (by clear hk;exact ptT))
   | false=>
    exact LeadsM.ends (aRd q_form q_n q_text q_parts cons   hb1 hb4 hb5) (hk _ (by clear hk;exact ptT))
  | false =>
   cases hb7: (q_form== (5:Int))with
   | true=>
    cases hb8: (((List.length q_parts:Nat) :Int) == (0:Int))with
    | true=>
     cases hb9: (q_n== (0:Int))with
     | true=>
      exact LeadsM.ends (aRe q_form q_n q_text q_parts cons   hb1 hb4 hb7 hb8 hb9) (hk _ (by clear hk;exact ptT))
     | false=>
      exact LeadsM.ends (aRf q_form q_n q_text q_parts cons   hb1 hb4 hb7 hb8 hb9) (hk _ (by clear hk;exact ptT))
    | false=>
     exact LeadsM.ends (aRg q_form q_n q_text q_parts cons   hb1 hb4 hb7 hb8) (hk _ (by clear hk;exact ptT))
   | false=>
    cases hb10: (q_form== (3:Int))with
    | true=>
     cases hb11: (((List.length q_parts:Nat) :Int) == (0:Int))with
     | true=>
      cases hb12: (dU q_n (-1000000000) 1000000000)with
      | true=>
       exact LeadsM.ends (aRh q_form q_n q_text q_parts cons  (dU q_n (-1000000000) 1000000000) hb1 hb4 hb7 hb10 hb11 (bC q_n (-1000000000) 1000000000) hb12) (hk _ (by clear hk;exact ptT))
      | false=>
       exact LeadsM.ends (aOO q_form q_n q_text q_parts cons  (dU q_n (-1000000000) 1000000000) hb1 hb4 hb7 hb10 hb11 (bC q_n (-1000000000) 1000000000) hb12) (hk _ (by clear hk;exact ptT))
     | false=>
      exact LeadsM.ends (aOP q_form q_n q_text q_parts cons   hb1 hb4 hb7 hb10 hb11) (hk _ (by clear hk;exact ptT))
    | false=>
     cases hb13: (q_form== (4:Int))with
     | true=>
      cases hb14: (((List.length q_parts:Nat) :Int) == (0:Int))with
      | true=>
       cases hb15: (dU q_n 0 1)with
       | true=>
        exact LeadsM.ends (aOQ q_form q_n q_text q_parts cons  (dU q_n 0 1) hb1 hb4 hb7 hb10 hb13 hb14 (bC q_n 0 1) hb15) (hk _ (by clear hk;exact ptT))
       | false=>
        exact LeadsM.ends (aOR q_form q_n q_text q_parts cons  (dU q_n 0 1) hb1 hb4 hb7 hb10 hb13 hb14 (bC q_n 0 1) hb15) (hk _ (by clear hk;exact ptT))
      | false=>
       exact LeadsM.ends (aOS q_form q_n q_text q_parts cons   hb1 hb4 hb7 hb10 hb13 hb14) (hk _ (by clear hk;exact ptT))
     | false=>
      cases hb16: (q_form== (6:Int))with
      | true=>
       cases hb17: (dU q_n 0 (((List.length cons:Nat) :Int) - (1:Int)))with
       | true=>
        obtain⟨y1,hx18⟩ :∃y,((cons)[q_n.toNat]?) =some y:=idT
        cases hb19: (((List.length q_parts:Nat) :Int) ==y1.args)with
        | true=>
         exact LeadsM.ends (aOT q_form q_n q_text q_parts cons  (dU q_n 0 (((List.length cons:Nat) :Int) - (1:Int))) y1 hb1 hb4 hb7 hb10 hb13 hb16 sdI (bC q_n 0 (((List.length cons:Nat) :Int) - (1:Int))) hb17 sdI hx18 hb19) (hk _ (by clear hk;exact ptT))
        | false=>
         exact LeadsM.ends (aOU q_form q_n q_text q_parts cons  (dU q_n 0 (((List.length cons:Nat) :Int) - (1:Int))) y1 hb1 hb4 hb7 hb10 hb13 hb16 sdI (bC q_n 0 (((List.length cons:Nat) :Int) - (1:Int))) hb17 sdI hx18 hb19) (hk _ (by clear hk;exact ptT))
       | false=>
        exact LeadsM.ends (aOV q_form q_n q_text q_parts cons  (dU q_n 0 (((List.length cons:Nat) :Int) - (1:Int))) hb1 hb4 hb7 hb10 hb13 hb16 sdI (bC q_n 0 (((List.length cons:Nat) :Int) - (1:Int))) hb17) (hk _ (by clear hk;exact ptT))
      | false=>
       exact LeadsM.ends (aOW q_form q_n q_text q_parts cons   hb1 hb4 hb7 hb10 hb13 hb16) (hk _ (by clear hk;exact ptT))
theorem aFV (f n:Int)(s:aX)(ps:List Pat)(cons:List Con)(hl:ps.length<1000000)(ih:∀p∈ps,aE PP 126 [Pat.av p,.ilst 2 (List.map Con.av cons) false] (.bool (dM cons p))) :
  ∀ (t:List Pat) (i:Nat) (b:Bool),ps.drop i=t→Ends PP 0 (dO f n s ps cons b (i:Int)).as (.ret (.bool (b&&cH cons t))) (aA [] 0)
 | [],i,b,h=>by
  have:=cD h
  exact Ends.eqv (aRk f n s ps cons b i sd) (by simp [cH])
 | .mk f' n' s' ps'::t,i,b,h=>by
  obtain⟨g1,g2,g3⟩ :=cA h
  cases b with
  |false=>exact Ends.eqv (aRj f n s ps cons false i sd rfl) (by simp)
  | true=>
   refine(aRi f n s ps cons true i f' n' s' ps' _ sd rfl sd sd (ih (.mk f' n' s' ps') (List.mem_of_getElem? g1)) sd).ends ?_
   exact Ends.eqv (aFV f n s ps cons hl ih t (i+1) _ g2) (by simp [cH])
mutual
theorem aFW (cons:List Con)(hc:cons.length≤1000) :∀ (p:Pat),dL p<1000000→aE PP 126 [Pat.av p,.ilst 2 (List.map Con.av cons) false] (.bool (dM cons p))
 | .mk f n s ps,h=>by
  refine bK (by kernel_rfl) (by simp [AV.keylessL,kT,AV.keyless]) rfl ?_
  simp only [dL]at h
  have:=fA ps
  refine aWF f n s ps cons hc _ (fun i hi=>?_)
  subst hi
  rw [dM]
  exact aFV f n s ps cons (by omega) (aJq cons hc ps (by omega)) ps 0 _ rfl
theorem aJq (cons:List Con)(hc:cons.length≤1000) :∀ (ps:List Pat),bP ps<1000000→∀p∈ps,aE PP 126 [Pat.av p,.ilst 2 (List.map Con.av cons) false] (.bool (dM cons p))
 | [],_,p,hp=>by cases hp
 | q::ps,h,p,hp=>by
  simp only [bP]at h
  rcases List.mem_cons.1 hp with e|hp
  ·rw [e];exact aFW cons hc q (by omega)
  ·exact aJq cons hc ps (by omega) p hp
end
end Go.Hb
namespace Go.Hb
open Go.Proofs
noncomputable abbrev vS (y_form0 y_n1:Int)(y_text2:aX)(y_parts3:List Pat) :Nat×AObj×Bool:= (3,(.cells (putCells .leaf 0 [(nI y_form0),(nI y_n1),(bO y_text2),(iP y_parts3)]) 4 [] false),false)
noncomputable abbrev aHD (q_form vy0:Int)(q_text:aX)(q_parts:List Pat) :Nat×AObj×Bool:= (2,(.cells (putCells .leaf 0 [(nI q_form),(nI vy0),(bO q_text),(iP q_parts)]) 4 [] false),false)
noncomputable abbrev nY  :Nat×AObj×Bool:= (4,(.cells (putCells .leaf 0 [(nI 0),(nI 0),(.str 0 0),.nils]) 4 [] false),false)
noncomputable abbrev aHE  :Nat×AObj×Bool:= (3,(.cells (putCells .leaf 0 [(.func 133 [(.agg [(.map 0),(.map 1)])] [])]) 1 [] false),false)
noncomputable abbrev zB  :Nat×AObj×Bool:= (2,(.cells (putCells .leaf 0 [(.func 133 [(.agg [(.map 0),(.map 1)])] [])]) 1 [] false),false)
noncomputable abbrev aMr (nt:Nat) :Nat×AObj×Bool:= (0,(.cells (putCells .leaf 0 [(.gl 1 1 0 nt true)]) 1 [] false),false)
noncomputable abbrev zC  :Nat×AObj×Bool:= (2,(.cells (putCells .leaf 0 [(.map 0),(.map 1)]) 2 [] false),false)
noncomputable abbrev gV (mf:List (Int×Int)) :Nat×AObj×Bool:= (0,(.map (aG aB aB 0 mf) mf.length),true)
noncomputable abbrev gW (mc:List (Int×Int)) :Nat×AObj×Bool:= (1,(.map (aG aB aB 0 mc) mc.length),true)
noncomputable def aJr (mf mc:List (Int×Int))(q_form q_n:Int)(q_text:aX)(q_parts:List Pat) :TS:=eU PP 137 [(.agg [(nI q_form),(nI q_n),(bO q_text),(iP q_parts)]),(.func 133 [(.agg [(.map 0),(.map 1)])] [])] [gV mf,gW mc] 2
noncomputable def aHF (mf mc:List (Int×Int))(q_form q_n:Int)(q_text:aX)(q_parts:List Pat)(vy0:Int) :TS:=
 {fr:={fn:=137,nt:=19,sl:=[(2,(.ptr 2 0)),(3,(.ptr 3 0)),(4,(.ptr 4 0))],todo:=[.code (cd Tryz.f137 [1,1,0]),.code (cd Tryz.f137 [1,1,1])]},cs:=[],hp:=[gV mf,gW mc,aHD q_form vy0 q_text q_parts,aHE,nY],nb:=5}
theorem aTX (mf mc:List (Int×Int))(q_form q_n:Int)(q_text:aX)(q_parts:List Pat)(y0:Int)(h0: (q_form== (6:Int)) =true)(h1:bF q_n mc=some y0) :
  LeadsM PP 2 (aJr mf mc q_form q_n q_text q_parts).as (aHF mf mc q_form q_n q_text q_parts y0).as:=
 wW 6 [2,3,4] [qp h0,qp (p:=cR (aB q_n) (aG aB aB 0 mc) 0=some (some (jJ q_n mc,(aB y0)))) (eJ cE h1)] [rn 13,bt 7,rn 16,.ans (.look (some (jJ q_n mc,(aB y0)))),rn 8] ⟨aC (fun _=>rfl) (fun _=>rfl) _ _ _,⟨aC (fun _=>rfl) (fun _=>rfl) _ _ _,trivial⟩⟩
theorem aTY (mf mc:List (Int×Int))(q_form q_n:Int)(q_text:aX)(q_parts:List Pat)(h0: (q_form== (6:Int)) =true)(h1:bF q_n mc=none) :
  LeadsM PP 2 (aJr mf mc q_form q_n q_text q_parts).as (aHF mf mc q_form q_n q_text q_parts 0).as:=
 wW 6 [2,3,4] [qp h0,qp (p:=cR (aB q_n) (aG aB aB 0 mc) 0=some none) (gR cE h1)] [rn 13,bt 7,rn 16,.ans (.look none),rn 8] ⟨aC (fun _=>rfl) (fun _=>rfl) _ _ _,⟨aC (fun _=>rfl) (fun _=>rfl) _ _ _,trivial⟩⟩
theorem aTZ (mf mc:List (Int×Int))(q_form q_n:Int)(q_text:aX)(q_parts:List Pat)(h0: (q_form== (6:Int)) =false) :
  LeadsM PP 2 (aJr mf mc q_form q_n q_text q_parts).as (aHF mf mc q_form q_n q_text q_parts q_n).as:=
 wW 5 [2,3,4] [qp h0] [rn 13,bf 7,rn 3] ⟨aC (fun _=>rfl) (fun _=>rfl) _ _ _,⟨aC (fun _=>rfl) (fun _=>rfl) _ _ _,trivial⟩⟩
theorem aHG (mf mc:List (Int×Int))(q_form q_n:Int)(q_text:aX)(q_parts:List Pat)(vy0:Int)(zs0:List Pat)(h0:Spec PP (.enter 106 [(iP q_parts),(.func 193 [] [(.ptr 3 0)])]) (aA [gV mf,gW mc,aHD q_form vy0 q_text q_parts,aHE,nY] 5) (.ret (iP zs0)) (aA [gV mf,gW mc,aHD q_form vy0 q_text q_parts,aHE,nY] 5)) :
  Ends PP 2 (aHF mf mc q_form q_n q_text q_parts vy0).as (.ret (.agg [(nI q_form),(nI vy0),(bO q_text),(iP zs0)])) (aA [gV mf,gW mc] 2) :=
 wE 5 [] [qp h0] [rn 4,.call (iP zs0) (aA [gV mf,gW mc,aHD q_form vy0 q_text q_parts,aHE,nY] 5),rn 9] ⟨aC (fun _=>rfl) (fun _=>rfl) _ _ _,⟨aC (fun _=>rfl) (fun _=>rfl) _ _ _,trivial⟩⟩
noncomputable def aVZ (mf mc:List (Int×Int))(ps:List Pat) :TS:=eU PP 106 [(iP ps),(.func 193 [] [(.ptr 2 0)])] [gV mf,gW mc,zB] 3
noncomputable def aD0 (mf mc:List (Int×Int))(ps:List Pat)(t10:Int)(l3:List Pat) :TS:=
 {fr:={fn:=106,nt:=22,sl:=[(1,(.func 193 [] [(.ptr 2 0)])),(4,.nils),(5,(.gl 3 4 0 l3.length false)),(8,(iP ps)),(9,(nI (ps.length:Int))),(10,(nI t10))],todo:=[.code (cd Tryz.f106 [1,1,0,1,0,0]),.inLoop (cd Tryz.f106 [1,1,0,1,0,0]),.inBlock 0,.code (cd Tryz.f106 [1,1,1])]},cs:=[],hp:=[gV mf,gW mc,zB,(3,(.lst 4 (Pats.av l3)),true)],nb:=4}
noncomputable def aRl (mf mc:List (Int×Int))(ps:List Pat)(y_form0 y_n1:Int)(y_text2:aX)(y_parts3:List Pat)(t10:Int)(l5:List Pat) :TS:=
 {fr:={fn:=193,nt:=7,sl:=[(1,(.ptr 2 0)),(2,(.ptr 3 0)),(3,(.ptr 4 0))],todo:=[.code (cd Tryz.f193 [1,0]),.code (cd Tryz.f193 [1,1])]},cs:=[{fn:=106,nt:=22,sl:=[(1,(.func 193 [] [(.ptr 2 0)])),(4,.nils),(5,(.gl 5 4 0 l5.length false)),(8,(iP ps)),(9,(nI (ps.length:Int))),(10,(nI t10)),(14,(.gl 5 4 0 l5.length false)),(15,(.func 193 [] [(.ptr 2 0)])),(16,(.agg [(nI y_form0),(nI y_n1),(bO y_text2),(iP y_parts3)]))],todo:=[mH Tryz.f106 [1,1,0,1,0,0,1,1,0,0,1] 3,.inBlock 1,.code (cd Tryz.f106 [1,1,0,1,0,0,1,1,1]),.inLoop (cd Tryz.f106 [1,1,0,1,0,0]),.inBlock 0,.code (cd Tryz.f106 [1,1,1])]}],hp:=[gV mf,gW mc,zB,vS y_form0 y_n1 y_text2 y_parts3,nY,(5,(.lst 4 (Pats.av l5)),true)],nb:=6}
theorem aT0 (mf mc:List (Int×Int))(ps:List Pat) :
  LeadsM PP 3 (aVZ mf mc ps).as (aD0 mf mc ps 0 ([] :List Pat)).as:=
 wW 4 [3] [fU ps,qp (p:= ([] :List AV) = (Pats.av ([] :List Pat))) rfl,qp (p:= (AV.gl 3 4 0 0 false) = (.gl 3 4 0 ([] :List Pat).length false)) rfl] [rn 12,aL ps,rn 4,.nilL 5 4,.lset 3 (Pats.av ([] :List Pat)),.set 5 (.gl 3 4 0 ([] :List Pat).length false)] ⟨aC (fun _=>rfl) (fun _=>rfl) _ _ _,⟨aC (fun _=>rfl) (fun _=>rfl) _ _ _,⟨fE,trivial⟩⟩⟩
theorem aT1 (mf mc:List (Int×Int))(ps:List Pat)(t10:Int)(l3:List Pat)(y_form0 y_n1:Int)(y_text2:aX)(y_parts3:List Pat)(h0:decide (t10< (ps.length:Int)) =true)(h1:0≤t10)(h2: ((ps)[t10.toNat]?) =some (Pat.mk y_form0 y_n1 y_text2 y_parts3)) :
  LeadsM PP 3 (aD0 mf mc ps t10 l3).as (aRl mf mc ps y_form0 y_n1 y_text2 y_parts3 t10 l3).as:=
 wW 7 [5,6,3] [qp h0,qp h1,qgP h2] [rn 5,bt 11,rn 6,aI (Pat.av (Pat.mk y_form0 y_n1 y_text2 y_parts3)),rn 15] ⟨aC (fun _=>rfl) (fun _=>rfl) _ _ _,⟨aC (fun _=>rfl) (fun _=>rfl) _ _ _,⟨fE,trivial⟩⟩⟩
theorem aT2 (mf mc:List (Int×Int))(ps:List Pat)(t10:Int)(l3:List Pat)(h0:decide (t10< (ps.length:Int)) =false) :
  Ends PP 3 (aD0 mf mc ps t10 l3).as (.ret (iP l3)) (aA [gV mf,gW mc,zB] 3) :=
 wE 4 [] [qp h0,qp (p:=AV.keylessL (Pats.av l3) =true) fE,qp (p:=AV.frzOk 3 4 (Pats.av l3) (Pats.av l3) (.gl 3 4 0 l3.length false)) (tA dK _)] [rn 5,bf 11,rn 8,.frz 4 3 (Pats.av l3)] ⟨aC (fun _=>rfl) (fun _=>rfl) _ _ _,⟨aC (fun _=>rfl) (fun _=>rfl) _ _ _,trivial⟩⟩
theorem aT3 (mf mc:List (Int×Int))(ps:List Pat)(y_form0 y_n1:Int)(y_text2:aX)(y_parts3:List Pat)(t10:Int)(l5:List Pat)(z_form0 z_n1:Int)(z_text2:aX)(z_parts3:List Pat)(h0:Spec PP (.enter 137 [(.agg [(nI y_form0),(nI y_n1),(bO y_text2),(iP y_parts3)]),(.func 133 [(.agg [(.map 0),(.map 1)])] [])]) (aA [gV mf,gW mc,zB,vS y_form0 y_n1 y_text2 y_parts3,nY,(5,(.lst 4 (Pats.av l5)),true)] 6) (.ret (.agg [(nI z_form0),(nI z_n1),(bO z_text2),(iP z_parts3)])) (aA [gV mf,gW mc,zB,vS y_form0 y_n1 y_text2 y_parts3,nY,(5,(.lst 4 (Pats.av l5)),true)] 6))(h1:List.length (l5++ [(Pat.mk z_form0 z_n1 z_text2 z_parts3)]) ≤1000000)(h2: (IntKind.i64.wrap (t10+ (1:Int))) = (t10+ (1:Int))) :
  LeadsM PP 3 (aRl mf mc ps y_form0 y_n1 y_text2 y_parts3 t10 l5).as (aD0 mf mc ps (t10+ (1:Int)) (l5++ [(Pat.mk z_form0 z_n1 z_text2 z_parts3)])).as:=
 wW 8 [7] [qp h0,qp (p:=0+l5.length≤List.length (Pats.av l5)) (aCS dK _),qp h1,qp (p:=List.take l5.length (List.drop 0 (Pats.av l5)) ++ (Pats.av [(Pat.mk z_form0 z_n1 z_text2 z_parts3)]) = (Pats.av (l5++ [(Pat.mk z_form0 z_n1 z_text2 z_parts3)]))) (aCT dK _ _),qp (p:=l5.length+List.length (Pats.av [(Pat.mk z_form0 z_n1 z_text2 z_parts3)]) =List.length (l5++ [(Pat.mk z_form0 z_n1 z_text2 z_parts3)])) (aCU dK _ _),qp (congrArg (AV.int .i64) h2)] [rn 3,.call (.agg [(nI z_form0),(nI z_n1),(bO z_text2),(iP z_parts3)]) (aA [gV mf,gW mc,zB,vS y_form0 y_n1 y_text2 y_parts3,nY,(5,(.lst 4 (Pats.av l5)),true)] 6),rn 5,.app (Pats.av (l5++ [(Pat.mk z_form0 z_n1 z_text2 z_parts3)])) (l5++ [(Pat.mk z_form0 z_n1 z_text2 z_parts3)]).length,rn 5,sI 20 (t10+ (1:Int)),rn 3] ⟨aC (fun _=>rfl) (fun _=>rfl) _ _ _,⟨aC (fun _=>rfl) (fun _=>rfl) _ _ _,⟨fE,trivial⟩⟩⟩
noncomputable def aV0 (mf mc:List (Int×Int))(ps:List Pat) :TS:=eU PP 106 [(iP ps),(.func 136 [] [(.ptr 2 0)])] [gV mf,gW mc,zC] 3
noncomputable def aD1 (mf mc:List (Int×Int))(ps:List Pat)(t10:Int)(l3:List Pat) :TS:=
 {fr:={fn:=106,nt:=22,sl:=[(1,(.func 136 [] [(.ptr 2 0)])),(4,.nils),(5,(.gl 3 4 0 l3.length false)),(8,(iP ps)),(9,(nI (ps.length:Int))),(10,(nI t10))],todo:=[.code (cd Tryz.f106 [1,1,0,1,0,0]),.inLoop (cd Tryz.f106 [1,1,0,1,0,0]),.inBlock 0,.code (cd Tryz.f106 [1,1,1])]},cs:=[],hp:=[gV mf,gW mc,zC,(3,(.lst 4 (Pats.av l3)),true)],nb:=4}
noncomputable def aRm (mf mc:List (Int×Int))(ps:List Pat)(y_form0 y_n1:Int)(y_text2:aX)(y_parts3:List Pat)(t10:Int)(l5:List Pat) :TS:=
 {fr:={fn:=136,nt:=8,sl:=[(1,(.ptr 2 0)),(2,(.ptr 3 0)),(3,(.ptr 4 0))],todo:=[.code (cd Tryz.f136 [1,0]),.code (cd Tryz.f136 [1,1])]},cs:=[{fn:=106,nt:=22,sl:=[(1,(.func 136 [] [(.ptr 2 0)])),(4,.nils),(5,(.gl 5 4 0 l5.length false)),(8,(iP ps)),(9,(nI (ps.length:Int))),(10,(nI t10)),(14,(.gl 5 4 0 l5.length false)),(15,(.func 136 [] [(.ptr 2 0)])),(16,(.agg [(nI y_form0),(nI y_n1),(bO y_text2),(iP y_parts3)]))],todo:=[mH Tryz.f106 [1,1,0,1,0,0,1,1,0,0,1] 3,.inBlock 1,.code (cd Tryz.f106 [1,1,0,1,0,0,1,1,1]),.inLoop (cd Tryz.f106 [1,1,0,1,0,0]),.inBlock 0,.code (cd Tryz.f106 [1,1,1])]}],hp:=[gV mf,gW mc,zC,vS y_form0 y_n1 y_text2 y_parts3,nY,(5,(.lst 4 (Pats.av l5)),true)],nb:=6}
theorem aT4 (mf mc:List (Int×Int))(ps:List Pat) :
  LeadsM PP 3 (aV0 mf mc ps).as (aD1 mf mc ps 0 ([] :List Pat)).as:=
 wW 4 [3] [fU ps,qp (p:= ([] :List AV) = (Pats.av ([] :List Pat))) rfl,qp (p:= (AV.gl 3 4 0 0 false) = (.gl 3 4 0 ([] :List Pat).length false)) rfl] [rn 12,aL ps,rn 4,.nilL 5 4,.lset 3 (Pats.av ([] :List Pat)),.set 5 (.gl 3 4 0 ([] :List Pat).length false)] ⟨aC (fun _=>rfl) (fun _=>rfl) _ _ _,⟨aC (fun _=>rfl) (fun _=>rfl) _ _ _,⟨fE,trivial⟩⟩⟩
theorem aT5 (mf mc:List (Int×Int))(ps:List Pat)(t10:Int)(l3:List Pat)(y_form0 y_n1:Int)(y_text2:aX)(y_parts3:List Pat)(h0:decide (t10< (ps.length:Int)) =true)(h1:0≤t10)(h2: ((ps)[t10.toNat]?) =some (Pat.mk y_form0 y_n1 y_text2 y_parts3)) :
  LeadsM PP 3 (aD1 mf mc ps t10 l3).as (aRm mf mc ps y_form0 y_n1 y_text2 y_parts3 t10 l3).as:=
 wW 7 [5,6,3] [qp h0,qp h1,qgP h2] [rn 5,bt 11,rn 6,aI (Pat.av (Pat.mk y_form0 y_n1 y_text2 y_parts3)),rn 15] ⟨aC (fun _=>rfl) (fun _=>rfl) _ _ _,⟨aC (fun _=>rfl) (fun _=>rfl) _ _ _,⟨fE,trivial⟩⟩⟩
theorem aT6 (mf mc:List (Int×Int))(ps:List Pat)(t10:Int)(l3:List Pat)(h0:decide (t10< (ps.length:Int)) =false) :
  Ends PP 3 (aD1 mf mc ps t10 l3).as (.ret (iP l3)) (aA [gV mf,gW mc,zC] 3) :=
 wE 4 [] [qp h0,qp (p:=AV.keylessL (Pats.av l3) =true) fE,qp (p:=AV.frzOk 3 4 (Pats.av l3) (Pats.av l3) (.gl 3 4 0 l3.length false)) (tA dK _)] [rn 5,bf 11,rn 8,.frz 4 3 (Pats.av l3)] ⟨aC (fun _=>rfl) (fun _=>rfl) _ _ _,⟨aC (fun _=>rfl) (fun _=>rfl) _ _ _,trivial⟩⟩
theorem aT7 (mf mc:List (Int×Int))(ps:List Pat)(y_form0 y_n1:Int)(y_text2:aX)(y_parts3:List Pat)(t10:Int)(l5:List Pat)(z_form0 z_n1:Int)(z_text2:aX)(z_parts3:List Pat)(h0:Spec PP (.enter 137 [(.agg [(nI y_form0),(nI y_n1),(bO y_text2),(iP y_parts3)]),(.func 133 [(.agg [(.map 0),(.map 1)])] [])]) (aA [gV mf,gW mc,zC,vS y_form0 y_n1 y_text2 y_parts3,nY,(5,(.lst 4 (Pats.av l5)),true)] 6) (.ret (.agg [(nI z_form0),(nI z_n1),(bO z_text2),(iP z_parts3)])) (aA [gV mf,gW mc,zC,vS y_form0 y_n1 y_text2 y_parts3,nY,(5,(.lst 4 (Pats.av l5)),true)] 6))(h1:List.length (l5++ [(Pat.mk z_form0 z_n1 z_text2 z_parts3)]) ≤1000000)(h2: (IntKind.i64.wrap (t10+ (1:Int))) = (t10+ (1:Int))) :
  LeadsM PP 3 (aRm mf mc ps y_form0 y_n1 y_text2 y_parts3 t10 l5).as (aD1 mf mc ps (t10+ (1:Int)) (l5++ [(Pat.mk z_form0 z_n1 z_text2 z_parts3)])).as:=
 wW 8 [7] [qp h0,qp (p:=0+l5.length≤List.length (Pats.av l5)) (aCS dK _),qp h1,qp (p:=List.take l5.length (List.drop 0 (Pats.av l5)) ++ (Pats.av [(Pat.mk z_form0 z_n1 z_text2 z_parts3)]) = (Pats.av (l5++ [(Pat.mk z_form0 z_n1 z_text2 z_parts3)]))) (aCT dK _ _),qp (p:=l5.length+List.length (Pats.av [(Pat.mk z_form0 z_n1 z_text2 z_parts3)]) =List.length (l5++ [(Pat.mk z_form0 z_n1 z_text2 z_parts3)])) (aCU dK _ _),qp (congrArg (AV.int .i64) h2)] [rn 4,.call (.agg [(nI z_form0),(nI z_n1),(bO z_text2),(iP z_parts3)]) (aA [gV mf,gW mc,zC,vS y_form0 y_n1 y_text2 y_parts3,nY,(5,(.lst 4 (Pats.av l5)),true)] 6),rn 5,.app (Pats.av (l5++ [(Pat.mk z_form0 z_n1 z_text2 z_parts3)])) (l5++ [(Pat.mk z_form0 z_n1 z_text2 z_parts3)]).length,rn 5,sI 20 (t10+ (1:Int)),rn 3] ⟨aC (fun _=>rfl) (fun _=>rfl) _ _ _,⟨aC (fun _=>rfl) (fun _=>rfl) _ _ _,⟨fE,trivial⟩⟩⟩
noncomputable def aV1 (ks to:List Int)(nt:Nat) :TS:=eU PP 134 [(iI ks),(.func 135 [] [(.ptr 0 0)])] [aMr nt,(1,(.lst 1 (jI to)),true)] 2
noncomputable def aD2 (ks to:List Int)(nt:Nat)(t10:Int)(l2:List Int) :TS:=
 {fr:={fn:=134,nt:=22,sl:=[(1,(.func 135 [] [(.ptr 0 0)])),(4,.nils),(5,(.gl 2 1 0 l2.length false)),(8,(iI ks)),(9,(nI (ks.length:Int))),(10,(nI t10))],todo:=[.code (cd Tryz.f134 [1,1,0,1,0,0]),.inLoop (cd Tryz.f134 [1,1,0,1,0,0]),.inBlock 0,.code (cd Tryz.f134 [1,1,1])]},cs:=[],hp:=[aMr nt,(1,(.lst 1 (jI to)),true),(2,(.lst 1 (jI l2)),true)],nb:=3}
theorem aT8 (ks to:List Int)(nt:Nat) :
  LeadsM PP 2 (aV1 ks to nt).as (aD2 ks to nt 0 ([] :List Int)).as:=
 wW 3 [2] [ql aB ks,qp (p:= ([] :List AV) = (jI ([] :List Int))) rfl,qp (p:= (AV.gl 2 1 0 0 false) = (.gl 2 1 0 ([] :List Int).length false)) rfl] [rn 12,aL ks,rn 4,.nilL 5 1,.lset 2 (jI ([] :List Int)),.set 5 (.gl 2 1 0 ([] :List Int).length false)] ⟨kk,⟨kk,trivial⟩⟩
theorem aT9 (ks to:List Int)(nt:Nat)(t10:Int)(l2:List Int)(y0 y1:Int)(h0:decide (t10< (ks.length:Int)) =true)(h1:0≤t10)(h2: ((ks)[t10.toNat]?) =some y0)(h3:0≤y0)(h4:y0< ((nt:Nat) :Int))(h5: ((to)[y0.toNat]?) =some y1)(h6:List.length (l2++ [y1]) ≤1000000)(h7: (IntKind.i64.wrap (t10+ (1:Int))) = (t10+ (1:Int))) :
  LeadsM PP 2 (aD2 ks to nt t10 l2).as (aD2 ks to nt (t10+ (1:Int)) (l2++ [y1])).as:=
 wW 5 [4] [qp h0,qp h1,qg aB h2,qp h3,qp h4,qh aB h5,qp (gK aB l2),qp h6,qp (gP aB l2 [y1]),qp (gQ aB l2 [y1]),qp (congrArg (AV.int .i64) h7)] [rn 5,bt 11,rn 6,aI (aB y0),rn 16,.ans (.ix),aI (aB y1),rn 5,.app (jI (l2++ [y1])) (l2++ [y1]).length,rn 5,sI 20 (t10+ (1:Int)),rn 3] ⟨kk,⟨kk,trivial⟩⟩
theorem aUa (ks to:List Int)(nt:Nat)(t10:Int)(l2:List Int)(h0:decide (t10< (ks.length:Int)) =false) :
  Ends PP 2 (aD2 ks to nt t10 l2).as (.ret (iI l2)) (aA [aMr nt,(1,(.lst 1 (jI to)),true)] 2) :=
 wE 3 [] [qp h0,qp (p:=AV.keylessL (jI l2) =true) (aD _ (fun _=>rfl) _),qp (p:=AV.frzOk 2 1 (jI l2) (jI l2) (.gl 2 1 0 l2.length false)) (eA _ _)] [rn 5,bf 11,rn 8,.frz 4 2 (jI l2)] ⟨kk,trivial⟩
end Go.Hb
namespace Go.Hb
open Go.Proofs
noncomputable section
abbrev MO (m:List (Int×Int)) :AObj:=.map (aG aB aB 0 m) (List.length m)
theorem cT (m:List (Int×Int)) : (MO m).kl:=aC (fun _=>rfl) (fun _=>rfl) _ _ _
def eX (m:List (Int×Int))(n:Int) :Int:= (bF n m).getD 0
mutual
def kG (mc:List (Int×Int)) :Pat→Pat
 | .mk f n t ps=>.mk f (if f=6 then eX mc n else n) t (bS mc ps)
def bS (mc:List (Int×Int)) :List Pat→List Pat
 | [] =>[]
 |p::ps=>kG mc p::bS mc ps
end
abbrev F90 :AV:=.func 133 [.agg [.map 0,.map 1]] []
def aHH (mf mc:List (Int×Int))(q q':Pat) :Prop:=
 Spec PP (.enter 137 [Pat.av q,F90]) (aA [(0,MO mf,true),(1,MO mc,true)] 2) (.ret (Pat.av q')) (aA [(0,MO mf,true),(1,MO mc,true)] 2)
section
variable (mf mc:List (Int×Int))
theorem aRn {q q':Pat}(h:aHH mf mc q q')(f n:Int)(t:aX)(ps l:List Pat) :
  Spec PP (.enter 137 [Pat.av q,F90])
   (aA [(0,MO mf,true),(1,MO mc,true),(2,(.cells (putCells .leaf 0 [F90]) 1 [] false),false),(3,(.cells (putCells .leaf 0 [(.int .i64 f),(.int .i64 n),(bO t),(.ilst 4 (Pats.av ps) false)]) 4 [] false),false),(4,(.cells (putCells .leaf 0 [(.int .i64 0),(.int .i64 0),(.str 0 0),.nils]) 4 [] false),false),(5,(.lst 4 (Pats.av l)),true)] 6)
   (.ret (Pat.av q'))
   (aA [(0,MO mf,true),(1,MO mc,true),(2,(.cells (putCells .leaf 0 [F90]) 1 [] false),false),(3,(.cells (putCells .leaf 0 [(.int .i64 f),(.int .i64 n),(bO t),(.ilst 4 (Pats.av ps) false)]) 4 [] false),false),(4,(.cells (putCells .leaf 0 [(.int .i64 0),(.int .i64 0),(.str 0 0),.nils]) 4 [] false),false),(5,(.lst 4 (Pats.av l)),true)] 6) :=
 pG h (by simp only [AV.renL];rw [lK _ _ (kT q)];rfl) (kT q') (by rfl) (by kernel_rfl) (by kernel_rfl) ⟨cT mf,cT mc,trivial⟩ (by kernel_rfl) (by kernel_rfl) (by kernel_rfl)
theorem aRo {q q':Pat}(h:aHH mf mc q q')(f n:Int)(t:aX)(ps l:List Pat) :
  Spec PP (.enter 137 [Pat.av q,F90])
   (aA [(0,MO mf,true),(1,MO mc,true),(2,(.cells (putCells .leaf 0 [(.map 0),(.map 1)]) 2 [] false),false),(3,(.cells (putCells .leaf 0 [(.int .i64 f),(.int .i64 n),(bO t),(.ilst 4 (Pats.av ps) false)]) 4 [] false),false),(4,(.cells (putCells .leaf 0 [(.int .i64 0),(.int .i64 0),(.str 0 0),.nils]) 4 [] false),false),(5,(.lst 4 (Pats.av l)),true)] 6)
   (.ret (Pat.av q'))
   (aA [(0,MO mf,true),(1,MO mc,true),(2,(.cells (putCells .leaf 0 [(.map 0),(.map 1)]) 2 [] false),false),(3,(.cells (putCells .leaf 0 [(.int .i64 f),(.int .i64 n),(bO t),(.ilst 4 (Pats.av ps) false)]) 4 [] false),false),(4,(.cells (putCells .leaf 0 [(.int .i64 0),(.int .i64 0),(.str 0 0),.nils]) 4 [] false),false),(5,(.lst 4 (Pats.av l)),true)] 6) :=
 pG h (by simp only [AV.renL];rw [lK _ _ (kT q)];rfl) (kT q') (by rfl) (by kernel_rfl) (by kernel_rfl) ⟨cT mf,cT mc,trivial⟩ (by kernel_rfl) (by kernel_rfl) (by kernel_rfl)
theorem aJs (ps:List Pat)(hl:ps.length<1000000)(ih:∀p∈ps,aHH mf mc p (kG mc p)) :∀ (t:List Pat) (i:Nat) (acc:List Pat),ps.drop i=t→acc.length=i →
  Ends PP 3 (aD0 mf mc ps (i:Int) acc).as (.ret (.ilst 4 (Pats.av (acc++bS mc t)) false)) (aA [(0,MO mf,true),(1,MO mc,true),(2,(.cells (putCells .leaf 0 [F90]) 1 [] false),false)] 3)
 | [],i,acc,h,ha=>by
  have:=cD h
  rw [bS,List.append_nil]
  exact aT2 mf mc ps i acc sd
 | .mk f1 n1 s1 ps1::t,i,acc,h,ha=>by
  obtain⟨g1,g2,g3⟩ :=cA h
  have h0:=aT1 mf mc ps i acc f1 n1 s1 ps1 sd sd sd
  have hc:=ih (.mk f1 n1 s1 ps1) (List.mem_of_getElem? g1)
  rw [kG]at hc
  have h1:=aT3 mf mc ps f1 n1 s1 ps1 i acc _ _ _ _ (aRn mf mc hc f1 n1 s1 ps1 acc) (by simp;omega) sd
  have h2:=aJs ps hl ih t (i+1) (acc++ [.mk f1 (if f1=6 then eX mc n1 else n1) s1 (bS mc ps1)]) g2 (by simp [ha])
  rw [bS,kG,show acc++Pat.mk f1 (if f1=6 then eX mc n1 else n1) s1 (bS mc ps1) ::bS mc t= (acc++ [.mk f1 (if f1=6 then eX mc n1 else n1) s1 (bS mc ps1)]) ++bS mc t by simp]
  exact h0.ends (h1.ends h2)
theorem aJt (ps:List Pat)(hl:ps.length<1000000)(ih:∀p∈ps,aHH mf mc p (kG mc p)) :∀ (t:List Pat) (i:Nat) (acc:List Pat),ps.drop i=t→acc.length=i →
  Ends PP 3 (aD1 mf mc ps (i:Int) acc).as (.ret (.ilst 4 (Pats.av (acc++bS mc t)) false)) (aA [(0,MO mf,true),(1,MO mc,true),(2,(.cells (putCells .leaf 0 [.map 0,.map 1]) 2 [] false),false)] 3)
 | [],i,acc,h,ha=>by
  have:=cD h
  rw [bS,List.append_nil]
  exact aT6 mf mc ps i acc sd
 | .mk f1 n1 s1 ps1::t,i,acc,h,ha=>by
  obtain⟨g1,g2,g3⟩ :=cA h
  have h0:=aT5 mf mc ps i acc f1 n1 s1 ps1 sd sd sd
  have hc:=ih (.mk f1 n1 s1 ps1) (List.mem_of_getElem? g1)
  rw [kG]at hc
  have h1:=aT7 mf mc ps f1 n1 s1 ps1 i acc _ _ _ _ (aRo mf mc hc f1 n1 s1 ps1 acc) (by simp;omega) sd
  have h2:=aJt ps hl ih t (i+1) (acc++ [.mk f1 (if f1=6 then eX mc n1 else n1) s1 (bS mc ps1)]) g2 (by simp [ha])
  rw [bS,kG,show acc++Pat.mk f1 (if f1=6 then eX mc n1 else n1) s1 (bS mc ps1) ::bS mc t= (acc++ [.mk f1 (if f1=6 then eX mc n1 else n1) s1 (bS mc ps1)]) ++bS mc t by simp]
  exact h0.ends (h1.ends h2)
def aXg (ps:List Pat) :Prop:=Spec PP (.enter 106 [.ilst 4 (Pats.av ps) false,.func 193 [] [.ptr 2 0]])
 (aA [(0,MO mf,true),(1,MO mc,true),(2,(.cells (putCells .leaf 0 [F90]) 1 [] false),false)] 3) (.ret (.ilst 4 (Pats.av (bS mc ps)) false)) (aA [(0,MO mf,true),(1,MO mc,true),(2,(.cells (putCells .leaf 0 [F90]) 1 [] false),false)] 3)
theorem aRp (ps:List Pat)(hl:ps.length<1000000)(ih:∀p∈ps,aHH mf mc p (kG mc p)) :aXg mf mc ps:=
 ⟨(aVZ mf mc ps).as.fr,by kernel_rfl,Eq.mp (by kernel_rfl) ((aT0 mf mc ps).ends (aJs mf mc ps hl ih ps 0 [] rfl rfl))⟩
def aXh (ps:List Pat) :Prop:=Spec PP (.enter 106 [.ilst 4 (Pats.av ps) false,.func 136 [] [.ptr 2 0]])
 (aA [(0,MO mf,true),(1,MO mc,true),(2,(.cells (putCells .leaf 0 [.map 0,.map 1]) 2 [] false),false)] 3) (.ret (.ilst 4 (Pats.av (bS mc ps)) false)) (aA [(0,MO mf,true),(1,MO mc,true),(2,(.cells (putCells .leaf 0 [.map 0,.map 1]) 2 [] false),false)] 3)
theorem aRq (ps:List Pat)(hl:ps.length<1000000)(ih:∀p∈ps,aHH mf mc p (kG mc p)) :aXh mf mc ps:=
 ⟨(aV0 mf mc ps).as.fr,by kernel_rfl,Eq.mp (by kernel_rfl) ((aT4 mf mc ps).ends (aJt mf mc ps hl ih ps 0 [] rfl rfl))⟩
theorem aD3 {ps:List Pat}(h:aXg mf mc ps)(f n:Int)(t:aX) :
  Spec PP (.enter 106 [.ilst 4 (Pats.av ps) false,.func 193 [] [.ptr 3 0]])
   (aA [(0,MO mf,true),(1,MO mc,true),(2,(.cells (putCells .leaf 0 [(.int .i64 f),(.int .i64 n),(bO t),(.ilst 4 (Pats.av ps) false)]) 4 [] false),false),(3,(.cells (putCells .leaf 0 [F90]) 1 [] false),false),(4,(.cells (putCells .leaf 0 [(.int .i64 0),(.int .i64 0),(.str 0 0),.nils]) 4 [] false),false)] 5)
   (.ret (.ilst 4 (Pats.av (bS mc ps)) false))
   (aA [(0,MO mf,true),(1,MO mc,true),(2,(.cells (putCells .leaf 0 [(.int .i64 f),(.int .i64 n),(bO t),(.ilst 4 (Pats.av ps) false)]) 4 [] false),false),(3,(.cells (putCells .leaf 0 [F90]) 1 [] false),false),(4,(.cells (putCells .leaf 0 [(.int .i64 0),(.int .i64 0),(.str 0 0),.nils]) 4 [] false),false)] 5) :=
 fS (ks:=[0,1,3]) h (by kernel_rfl) rfl (by kernel_rfl) (by kernel_rfl) ⟨cT mf,cT mc,trivial⟩ (by kernel_rfl) ⟨cT mf,cT mc,trivial⟩ (by kernel_rfl) (by kernel_rfl) (by kernel_rfl) (by kernel_rfl) (by kernel_rfl) (by kernel_rfl) (by kernel_rfl) (by kernel_rfl)
theorem aO7 {f n:Int}{t:aX}{ps:List Pat}{q':Pat}(h:Ends PP 2 (aJr mf mc f n t ps).as (.ret (Pat.av q')) (aA [(0,MO mf,true),(1,MO mc,true)] 2)) :aHH mf mc (.mk f n t ps) q':=
 ⟨(aJr mf mc f n t ps).as.fr,by kernel_rfl,Eq.mp (by kernel_rfl) h⟩
mutual
theorem aRr :∀ (q:Pat),dL q<1000000→aHH mf mc q (kG mc q)
 | .mk f n t ps,h=>by
  simp only [dL]at h
  have:=fA ps
  have hb:=aRp mf mc ps (by omega) (aHI ps (by omega))
  refine aO7 mf mc ?_
  rw [kG]
  by_cases hf:f=6
  · rw [if_pos hf]
    unfold eX
    cases hm:bF n mc with
    |some y=>exact(aTX mf mc f n t ps y (by simp [hf]) hm).ends (aHG mf mc f n t ps y _ (aD3 mf mc hb f y t))
    |none=>exact(aTY mf mc f n t ps (by simp [hf]) hm).ends (aHG mf mc f n t ps 0 _ (aD3 mf mc hb f 0 t))
  · rw [if_neg hf]
    exact(aTZ mf mc f n t ps (by simp [hf])).ends (aHG mf mc f n t ps n _ (aD3 mf mc hb f n t))
theorem aHI :∀ (ps:List Pat),bP ps<1000000→∀p∈ps,aHH mf mc p (kG mc p)
 | [],_,p,hp=>by cases hp
 | q::ps,h,p,hp=>by
  simp only [bP]at h
  rcases List.mem_cons.1 hp with e|hp
  ·rw [e];exact aRr q (by omega)
  ·exact aHI ps (by omega) p hp
end
theorem aO8 (ps:List Pat)(h:bP ps<1000000) :aXh mf mc ps:=by
 have:=fA ps
 exact aRq mf mc ps (by omega) (aHI mf mc ps h)
end
def aXU (ks to:List Int)(nt:Nat)(ks':List Int) :Prop:=Spec PP (.enter 134 [.ilst 1 (List.map aB ks) false,.func 135 [] [.ptr 0 0]])
 (aA [(0,(.cells (putCells .leaf 0 [.gl 1 1 0 nt true]) 1 [] false),false),(1,(.lst 1 (List.map aB to)),true)] 2) (.ret (.ilst 1 (List.map aB ks') false))
 (aA [(0,(.cells (putCells .leaf 0 [.gl 1 1 0 nt true]) 1 [] false),false),(1,(.lst 1 (List.map aB to)),true)] 2)
def cB (to:List Int)(k:Int) :Int:=to.getD k.toNat 0
theorem aJu (ks to:List Int)(nt:Nat)(hl:ks.length<1000000)(hn:to.length=nt)(hk:∀k∈ks,0≤k∧k< (nt:Int)) :∀ (t:List Int) (i:Nat) (acc:List Int),ks.drop i=t→acc.length=i →
  Ends PP 2 (aD2 ks to nt (i:Int) acc).as (.ret (.ilst 1 (List.map aB (acc++t.map (cB to))) false)) (aA [(0,(.cells (putCells .leaf 0 [.gl 1 1 0 nt true]) 1 [] false),false),(1,(.lst 1 (List.map aB to)),true)] 2)
 | [],i,acc,h,ha=>by
  have:=cD h
  rw [List.map_nil,List.append_nil]
  exact aUa ks to nt i acc sd
 | k::t,i,acc,h,ha=>by
  obtain⟨g1,g2,g3⟩ :=cA h
  obtain⟨k0,k1⟩ :=hk k (List.mem_of_getElem? g1)
  have hg:to[k.toNat]?=some (cB to k) :=by
   unfold cB
   rw [List.getD_eq_getElem?_getD,List.getElem?_eq_getElem (by omega)];rfl
  have h0:=aT9 ks to nt i acc k _ sd sd sd k0 k1 hg (by simp;omega) sd
  have h1:=aJu ks to nt hl hn hk t (i+1) (acc++ [cB to k]) g2 (by simp [ha])
  rw [List.map_cons,show acc++cB to k::List.map (cB to) t= (acc++ [cB to k]) ++List.map (cB to) t by simp]
  exact h0.ends h1
theorem aO9 (ks to:List Int)(nt:Nat)(hl:ks.length<1000000)(hn:to.length=nt)(hk:∀k∈ks,0≤k∧k< (nt:Int)) :aXU ks to nt (ks.map (cB to)) :=
 ⟨(aV1 ks to nt).as.fr,by kernel_rfl,Eq.mp (by kernel_rfl) ((aT8 ks to nt).ends (aJu ks to nt hl hn hk ks 0 [] rfl rfl))⟩
end
end Go.Hb
namespace Go.Hb
open Go.Proofs
noncomputable def bQ (p:Prog)(x:Node)(y1:Bool)(args5 i7:Int) :TS:=
 {fr:={fn:=67,nt:=112,sl:=[(2,(.ptr 0 0)),(3,(.ptr 1 0)),(4,(bV false)),(5,(nI args5)),(6,(bV y1)),(7,(nI i7))],todo:=[.code (cd Tryz.f67 [1,1,1,1,1,0,1,0,0]),.inLoop (cd Tryz.f67 [1,1,1,1,1,0,1,0,0]),.inBlock 1,.code (cd Tryz.f67 [1,1,1,1,1,1])]},cs:=[],hp:=[(0,(.cells (putCells .leaf 0 [(iN p.nodes),(iI p.funs),(nI p.main),(iC p.cons)]) 4 [] false),false),(1,(.cells (putCells .leaf 0 [(nI x.op),(nI x.n),(iI x.kids),(iP x.pats)]) 4 [] false),false)],nb:=2}
theorem aPa (p:Prog)(x:Node)(y0 y1:Bool)(h0: (x.op== (1:Int)) =true)(h1:aE PP 65 [(nI x.n),(nI (-1000000000)),(nI 1000000000)] (bV y0))(h2: (x.op== (15:Int)) =true)(h3:y0=true)(h4:aE PP 65 [(nI (x.pats.length:Int)),(nI 1),(nI 5)] (bV y1)) :
  LeadsM PP 0 (start PP 67 [(Prog.av p),(Node.av x)]).as (bQ p x y1 0 0).as:=
 wW 2 [0,1] [qp h0,qp h1,qp h2,qp h3,fU x.pats,qp h4] [rn 29,bt 13,rn 4,pB y0,rn 10,bt 56,rn 4,bt 58,rn 2,aL x.pats,pB y1,rn 10] trivial
theorem aPb (p:Prog)(x:Node)(y0:Bool)(h0: (x.op== (1:Int)) =true)(h1:aE PP 65 [(nI x.n),(nI (-1000000000)),(nI 1000000000)] (bV y0))(h2: (x.op== (15:Int)) =true)(h3:y0=false) :
  LeadsM PP 0 (start PP 67 [(Prog.av p),(Node.av x)]).as (bQ p x false 0 0).as:=
 wW 2 [0,1] [qp h0,qp h1,qp h2,qp h3] [rn 29,bt 13,rn 4,pB y0,rn 10,bt 56,rn 4,bf 58,rn 14] trivial
theorem aPc (p:Prog)(x:Node)(y0:Bool)(h0: (x.op== (1:Int)) =true)(h1:aE PP 65 [(nI x.n),(nI (-1000000000)),(nI 1000000000)] (bV y0))(h2: (x.op== (15:Int)) =false)(h3:y0=true) :
  LeadsM PP 0 (start PP 67 [(Prog.av p),(Node.av x)]).as (bQ p x ((x.pats.length:Int) == (0:Int)) 0 0).as:=
 wW 2 [0,1] [qp h0,qp h1,qp h2,qp h3,fU x.pats] [rn 29,bt 13,rn 4,pB y0,rn 10,bf 56,rn 4,bt 65,rn 2,aL x.pats,rn 11] trivial
theorem aPd (p:Prog)(x:Node)(y0:Bool)(h0: (x.op== (1:Int)) =true)(h1:aE PP 65 [(nI x.n),(nI (-1000000000)),(nI 1000000000)] (bV y0))(h2: (x.op== (15:Int)) =false)(h3:y0=false) :
  LeadsM PP 0 (start PP 67 [(Prog.av p),(Node.av x)]).as (bQ p x false 0 0).as:=
 wW 2 [0,1] [qp h0,qp h1,qp h2,qp h3] [rn 29,bt 13,rn 4,pB y0,rn 10,bf 56,rn 4,bf 65,rn 14] trivial
theorem aPe (p:Prog)(x:Node)(y0 y1:Bool)(h0: (x.op== (1:Int)) =false)(h1: (x.op== (2:Int)) =true)(h2:aE PP 65 [(nI x.n),(nI 0),(nI 1)] (bV y0))(h3: (x.op== (15:Int)) =true)(h4:y0=true)(h5:aE PP 65 [(nI (x.pats.length:Int)),(nI 1),(nI 5)] (bV y1)) :
  LeadsM PP 0 (start PP 67 [(Prog.av p),(Node.av x)]).as (bQ p x y1 0 0).as:=
 wW 2 [0,1] [qp h0,qp h1,qp h2,qp h3,qp h4,fU x.pats,qp h5] [rn 29,bf 13,rn 6,bt 18,rn 4,pB y0,rn 10,bt 56,rn 4,bt 58,rn 2,aL x.pats,pB y1,rn 10] trivial
theorem aPf (p:Prog)(x:Node)(y0:Bool)(h0: (x.op== (1:Int)) =false)(h1: (x.op== (2:Int)) =true)(h2:aE PP 65 [(nI x.n),(nI 0),(nI 1)] (bV y0))(h3: (x.op== (15:Int)) =true)(h4:y0=false) :
  LeadsM PP 0 (start PP 67 [(Prog.av p),(Node.av x)]).as (bQ p x false 0 0).as:=
 wW 2 [0,1] [qp h0,qp h1,qp h2,qp h3,qp h4] [rn 29,bf 13,rn 6,bt 18,rn 4,pB y0,rn 10,bt 56,rn 4,bf 58,rn 14] trivial
theorem aPg (p:Prog)(x:Node)(y0:Bool)(h0: (x.op== (1:Int)) =false)(h1: (x.op== (2:Int)) =true)(h2:aE PP 65 [(nI x.n),(nI 0),(nI 1)] (bV y0))(h3: (x.op== (15:Int)) =false)(h4:y0=true) :
  LeadsM PP 0 (start PP 67 [(Prog.av p),(Node.av x)]).as (bQ p x ((x.pats.length:Int) == (0:Int)) 0 0).as:=
 wW 2 [0,1] [qp h0,qp h1,qp h2,qp h3,qp h4,fU x.pats] [rn 29,bf 13,rn 6,bt 18,rn 4,pB y0,rn 10,bf 56,rn 4,bt 65,rn 2,aL x.pats,rn 11] trivial
theorem aPh (p:Prog)(x:Node)(y0:Bool)(h0: (x.op== (1:Int)) =false)(h1: (x.op== (2:Int)) =true)(h2:aE PP 65 [(nI x.n),(nI 0),(nI 1)] (bV y0))(h3: (x.op== (15:Int)) =false)(h4:y0=false) :
  LeadsM PP 0 (start PP 67 [(Prog.av p),(Node.av x)]).as (bQ p x false 0 0).as:=
 wW 2 [0,1] [qp h0,qp h1,qp h2,qp h3,qp h4] [rn 29,bf 13,rn 6,bt 18,rn 4,pB y0,rn 10,bf 56,rn 4,bf 65,rn 14] trivial
theorem aPi (p:Prog)(x:Node)(y0 y1:Bool)(h0: (x.op== (1:Int)) =false)(h1: (x.op== (2:Int)) =false)(h2: (x.op== (4:Int)) =true)(h3: (IntKind.i64.wrap (0- (p.funs.length:Int))) = (0- (p.funs.length:Int)))(h4:aE PP 65 [(nI x.n),(nI (0- (p.funs.length:Int))),(nI 29)] (bV y0))(h5: (x.op== (15:Int)) =true)(h6:y0=true)(h7:aE PP 65 [(nI (x.pats.length:Int)),(nI 1),(nI 5)] (bV y1)) :
  LeadsM PP 0 (start PP 67 [(Prog.av p),(Node.av x)]).as (bQ p x y1 0 0).as:=
 wW 2 [0,1] [qp h0,qp h1,qp h2,ql aB p.funs,qp (congrArg (AV.int .i64) h3),qp h4,qp h5,qp h6,fU x.pats,qp h7] [rn 29,bf 13,rn 6,bf 18,rn 6,bt 23,rn 6,aL p.funs,rn 1,sI 30 (0- (p.funs.length:Int)),pB y0,rn 10,bt 56,rn 4,bt 58,rn 2,aL x.pats,pB y1,rn 10] trivial
theorem aPj (p:Prog)(x:Node)(y0:Bool)(h0: (x.op== (1:Int)) =false)(h1: (x.op== (2:Int)) =false)(h2: (x.op== (4:Int)) =true)(h3: (IntKind.i64.wrap (0- (p.funs.length:Int))) = (0- (p.funs.length:Int)))(h4:aE PP 65 [(nI x.n),(nI (0- (p.funs.length:Int))),(nI 29)] (bV y0))(h5: (x.op== (15:Int)) =true)(h6:y0=false) :
  LeadsM PP 0 (start PP 67 [(Prog.av p),(Node.av x)]).as (bQ p x false 0 0).as:=
 wW 2 [0,1] [qp h0,qp h1,qp h2,ql aB p.funs,qp (congrArg (AV.int .i64) h3),qp h4,qp h5,qp h6] [rn 29,bf 13,rn 6,bf 18,rn 6,bt 23,rn 6,aL p.funs,rn 1,sI 30 (0- (p.funs.length:Int)),pB y0,rn 10,bt 56,rn 4,bf 58,rn 14] trivial
theorem aMs (p:Prog)(x:Node)(y0:Bool)(h0: (x.op== (1:Int)) =false)(h1: (x.op== (2:Int)) =false)(h2: (x.op== (4:Int)) =true)(h3: (IntKind.i64.wrap (0- (p.funs.length:Int))) = (0- (p.funs.length:Int)))(h4:aE PP 65 [(nI x.n),(nI (0- (p.funs.length:Int))),(nI 29)] (bV y0))(h5: (x.op== (15:Int)) =false)(h6:y0=true) :
  LeadsM PP 0 (start PP 67 [(Prog.av p),(Node.av x)]).as (bQ p x ((x.pats.length:Int) == (0:Int)) 0 0).as:=
 wW 2 [0,1] [qp h0,qp h1,qp h2,ql aB p.funs,qp (congrArg (AV.int .i64) h3),qp h4,qp h5,qp h6,fU x.pats] [rn 29,bf 13,rn 6,bf 18,rn 6,bt 23,rn 6,aL p.funs,rn 1,sI 30 (0- (p.funs.length:Int)),pB y0,rn 10,bf 56,rn 4,bt 65,rn 2,aL x.pats,rn 11] trivial
theorem aMt (p:Prog)(x:Node)(y0:Bool)(h0: (x.op== (1:Int)) =false)(h1: (x.op== (2:Int)) =false)(h2: (x.op== (4:Int)) =true)(h3: (IntKind.i64.wrap (0- (p.funs.length:Int))) = (0- (p.funs.length:Int)))(h4:aE PP 65 [(nI x.n),(nI (0- (p.funs.length:Int))),(nI 29)] (bV y0))(h5: (x.op== (15:Int)) =false)(h6:y0=false) :
  LeadsM PP 0 (start PP 67 [(Prog.av p),(Node.av x)]).as (bQ p x false 0 0).as:=
 wW 2 [0,1] [qp h0,qp h1,qp h2,ql aB p.funs,qp (congrArg (AV.int .i64) h3),qp h4,qp h5,qp h6] [rn 29,bf 13,rn 6,bf 18,rn 6,bt 23,rn 6,aL p.funs,rn 1,sI 30 (0- (p.funs.length:Int)),pB y0,rn 10,bf 56,rn 4,bf 65,rn 14] trivial
theorem aMu (p:Prog)(x:Node)(y0 y1:Bool)(h0: (x.op== (1:Int)) =false)(h1: (x.op== (2:Int)) =false)(h2: (x.op== (4:Int)) =false)(h3: (x.op== (24:Int)) =true)(h4:aE PP 65 [(nI x.n),(nI 0),(nI 3)] (bV y0))(h5: (x.op== (15:Int)) =true)(h6:y0=true)(h7:aE PP 65 [(nI (x.pats.length:Int)),(nI 1),(nI 5)] (bV y1)) :
  LeadsM PP 0 (start PP 67 [(Prog.av p),(Node.av x)]).as (bQ p x y1 0 0).as:=
 wW 2 [0,1] [qp h0,qp h1,qp h2,qp h3,qp h4,qp h5,qp h6,fU x.pats,qp h7] [rn 29,bf 13,rn 6,bf 18,rn 6,bf 23,rn 6,bt 32,rn 4,pB y0,rn 10,bt 56,rn 4,bt 58,rn 2,aL x.pats,pB y1,rn 10] trivial
theorem aMv (p:Prog)(x:Node)(y0:Bool)(h0: (x.op== (1:Int)) =false)(h1: (x.op== (2:Int)) =false)(h2: (x.op== (4:Int)) =false)(h3: (x.op== (24:Int)) =true)(h4:aE PP 65 [(nI x.n),(nI 0),(nI 3)] (bV y0))(h5: (x.op== (15:Int)) =true)(h6:y0=false) :
  LeadsM PP 0 (start PP 67 [(Prog.av p),(Node.av x)]).as (bQ p x false 0 0).as:=
 wW 2 [0,1] [qp h0,qp h1,qp h2,qp h3,qp h4,qp h5,qp h6] [rn 29,bf 13,rn 6,bf 18,rn 6,bf 23,rn 6,bt 32,rn 4,pB y0,rn 10,bt 56,rn 4,bf 58,rn 14] trivial
theorem aMw (p:Prog)(x:Node)(y0:Bool)(h0: (x.op== (1:Int)) =false)(h1: (x.op== (2:Int)) =false)(h2: (x.op== (4:Int)) =false)(h3: (x.op== (24:Int)) =true)(h4:aE PP 65 [(nI x.n),(nI 0),(nI 3)] (bV y0))(h5: (x.op== (15:Int)) =false)(h6:y0=true) :
  LeadsM PP 0 (start PP 67 [(Prog.av p),(Node.av x)]).as (bQ p x ((x.pats.length:Int) == (0:Int)) 0 0).as:=
 wW 2 [0,1] [qp h0,qp h1,qp h2,qp h3,qp h4,qp h5,qp h6,fU x.pats] [rn 29,bf 13,rn 6,bf 18,rn 6,bf 23,rn 6,bt 32,rn 4,pB y0,rn 10,bf 56,rn 4,bt 65,rn 2,aL x.pats,rn 11] trivial
theorem aMx (p:Prog)(x:Node)(y0:Bool)(h0: (x.op== (1:Int)) =false)(h1: (x.op== (2:Int)) =false)(h2: (x.op== (4:Int)) =false)(h3: (x.op== (24:Int)) =true)(h4:aE PP 65 [(nI x.n),(nI 0),(nI 3)] (bV y0))(h5: (x.op== (15:Int)) =false)(h6:y0=false) :
  LeadsM PP 0 (start PP 67 [(Prog.av p),(Node.av x)]).as (bQ p x false 0 0).as:=
 wW 2 [0,1] [qp h0,qp h1,qp h2,qp h3,qp h4,qp h5,qp h6] [rn 29,bf 13,rn 6,bf 18,rn 6,bf 23,rn 6,bt 32,rn 4,pB y0,rn 10,bf 56,rn 4,bf 65,rn 14] trivial
theorem aMy (p:Prog)(x:Node)(y0:Bool)(y1:Con)(y2:Bool)(h0: (x.op== (1:Int)) =false)(h1: (x.op== (2:Int)) =false)(h2: (x.op== (4:Int)) =false)(h3: (x.op== (24:Int)) =false)(h4: (x.op== (14:Int)) =true)(h5: (IntKind.i64.wrap ((p.cons.length:Int) - (1:Int))) = ((p.cons.length:Int) - (1:Int)))(h6:aE PP 65 [(nI x.n),(nI 0),(nI ((p.cons.length:Int) - (1:Int)))] (bV y0))(h7:y0=true)(h8:0≤x.n)(h9: ((p.cons)[x.n.toNat]?) =some y1)(h10: (x.op== (15:Int)) =true)(h11:aE PP 65 [(nI (x.pats.length:Int)),(nI 1),(nI 5)] (bV y2)) :
  LeadsM PP 0 (start PP 67 [(Prog.av p),(Node.av x)]).as (bQ p x y2 y1.args 0).as:=
 wW 2 [0,1] [qp h0,qp h1,qp h2,qp h3,qp h4,ql Con.av p.cons,qp (congrArg (AV.int .i64) h5),qp h6,qp h7,qp h8,qg Con.av h9,qp h10,qp h7,fU x.pats,qp h11] [rn 29,bf 13,rn 6,bf 18,rn 6,bf 23,rn 6,bf 32,rn 6,bt 37,rn 7,aL p.cons,rn 1,sI 44 ((p.cons.length:Int) - (1:Int)),pB y0,rn 6,bt 46,rn 6,aI (Con.av y1),rn 12,bt 56,rn 4,bt 58,rn 2,aL x.pats,pB y2,rn 10] trivial
theorem aMz (p:Prog)(x:Node)(y0:Bool)(y1:Con)(h0: (x.op== (1:Int)) =false)(h1: (x.op== (2:Int)) =false)(h2: (x.op== (4:Int)) =false)(h3: (x.op== (24:Int)) =false)(h4: (x.op== (14:Int)) =true)(h5: (IntKind.i64.wrap ((p.cons.length:Int) - (1:Int))) = ((p.cons.length:Int) - (1:Int)))(h6:aE PP 65 [(nI x.n),(nI 0),(nI ((p.cons.length:Int) - (1:Int)))] (bV y0))(h7:y0=true)(h8:0≤x.n)(h9: ((p.cons)[x.n.toNat]?) =some y1)(h10: (x.op== (15:Int)) =false) :
  LeadsM PP 0 (start PP 67 [(Prog.av p),(Node.av x)]).as (bQ p x ((x.pats.length:Int) == (0:Int)) y1.args 0).as:=
 wW 2 [0,1] [qp h0,qp h1,qp h2,qp h3,qp h4,ql Con.av p.cons,qp (congrArg (AV.int .i64) h5),qp h6,qp h7,qp h8,qg Con.av h9,qp h10,qp h7,fU x.pats] [rn 29,bf 13,rn 6,bf 18,rn 6,bf 23,rn 6,bf 32,rn 6,bt 37,rn 7,aL p.cons,rn 1,sI 44 ((p.cons.length:Int) - (1:Int)),pB y0,rn 6,bt 46,rn 6,aI (Con.av y1),rn 12,bf 56,rn 4,bt 65,rn 2,aL x.pats,rn 11] trivial
theorem aMA (p:Prog)(x:Node)(y0:Bool)(h0: (x.op== (1:Int)) =false)(h1: (x.op== (2:Int)) =false)(h2: (x.op== (4:Int)) =false)(h3: (x.op== (24:Int)) =false)(h4: (x.op== (14:Int)) =true)(h5: (IntKind.i64.wrap ((p.cons.length:Int) - (1:Int))) = ((p.cons.length:Int) - (1:Int)))(h6:aE PP 65 [(nI x.n),(nI 0),(nI ((p.cons.length:Int) - (1:Int)))] (bV y0))(h7:y0=false)(h8: (x.op== (15:Int)) =true) :
  LeadsM PP 0 (start PP 67 [(Prog.av p),(Node.av x)]).as (bQ p x false 0 0).as:=
 wW 2 [0,1] [qp h0,qp h1,qp h2,qp h3,qp h4,ql Con.av p.cons,qp (congrArg (AV.int .i64) h5),qp h6,qp h7,qp h8,qp h7] [rn 29,bf 13,rn 6,bf 18,rn 6,bf 23,rn 6,bf 32,rn 6,bt 37,rn 7,aL p.cons,rn 1,sI 44 ((p.cons.length:Int) - (1:Int)),pB y0,rn 6,bf 46,rn 10,bt 56,rn 4,bf 58,rn 14] trivial
theorem aMB (p:Prog)(x:Node)(y0:Bool)(h0: (x.op== (1:Int)) =false)(h1: (x.op== (2:Int)) =false)(h2: (x.op== (4:Int)) =false)(h3: (x.op== (24:Int)) =false)(h4: (x.op== (14:Int)) =true)(h5: (IntKind.i64.wrap ((p.cons.length:Int) - (1:Int))) = ((p.cons.length:Int) - (1:Int)))(h6:aE PP 65 [(nI x.n),(nI 0),(nI ((p.cons.length:Int) - (1:Int)))] (bV y0))(h7:y0=false)(h8: (x.op== (15:Int)) =false) :
  LeadsM PP 0 (start PP 67 [(Prog.av p),(Node.av x)]).as (bQ p x false 0 0).as:=
 wW 2 [0,1] [qp h0,qp h1,qp h2,qp h3,qp h4,ql Con.av p.cons,qp (congrArg (AV.int .i64) h5),qp h6,qp h7,qp h8,qp h7] [rn 29,bf 13,rn 6,bf 18,rn 6,bf 23,rn 6,bf 32,rn 6,bt 37,rn 7,aL p.cons,rn 1,sI 44 ((p.cons.length:Int) - (1:Int)),pB y0,rn 6,bf 46,rn 10,bf 56,rn 4,bf 65,rn 14] trivial
theorem aMC (p:Prog)(x:Node)(y0:Bool)(h0: (x.op== (1:Int)) =false)(h1: (x.op== (2:Int)) =false)(h2: (x.op== (4:Int)) =false)(h3: (x.op== (24:Int)) =false)(h4: (x.op== (14:Int)) =false)(h5: (x.op== (15:Int)) =true)(h6: (x.n== (0:Int)) =true)(h7:aE PP 65 [(nI (x.pats.length:Int)),(nI 1),(nI 5)] (bV y0)) :
  LeadsM PP 0 (start PP 67 [(Prog.av p),(Node.av x)]).as (bQ p x y0 0 0).as:=
 wW 2 [0,1] [qp h0,qp h1,qp h2,qp h3,qp h4,qp h5,qp h6,fU x.pats,qp h7] [rn 29,bf 13,rn 6,bf 18,rn 6,bf 23,rn 6,bf 32,rn 6,bf 37,rn 10,bt 56,rn 4,bt 58,rn 2,aL x.pats,pB y0,rn 10] trivial
theorem aMD (p:Prog)(x:Node)(h0: (x.op== (1:Int)) =false)(h1: (x.op== (2:Int)) =false)(h2: (x.op== (4:Int)) =false)(h3: (x.op== (24:Int)) =false)(h4: (x.op== (14:Int)) =false)(h5: (x.op== (15:Int)) =true)(h6: (x.n== (0:Int)) =false) :
  LeadsM PP 0 (start PP 67 [(Prog.av p),(Node.av x)]).as (bQ p x false 0 0).as:=
 wW 2 [0,1] [qp h0,qp h1,qp h2,qp h3,qp h4,qp h5,qp h6] [rn 29,bf 13,rn 6,bf 18,rn 6,bf 23,rn 6,bf 32,rn 6,bf 37,rn 10,bt 56,rn 4,bf 58,rn 14] trivial
theorem aME (p:Prog)(x:Node)(h0: (x.op== (1:Int)) =false)(h1: (x.op== (2:Int)) =false)(h2: (x.op== (4:Int)) =false)(h3: (x.op== (24:Int)) =false)(h4: (x.op== (14:Int)) =false)(h5: (x.op== (15:Int)) =false)(h6: (x.n== (0:Int)) =true) :
  LeadsM PP 0 (start PP 67 [(Prog.av p),(Node.av x)]).as (bQ p x ((x.pats.length:Int) == (0:Int)) 0 0).as:=
 wW 2 [0,1] [qp h0,qp h1,qp h2,qp h3,qp h4,qp h5,qp h6,fU x.pats] [rn 29,bf 13,rn 6,bf 18,rn 6,bf 23,rn 6,bf 32,rn 6,bf 37,rn 10,bf 56,rn 4,bt 65,rn 2,aL x.pats,rn 11] trivial
theorem aMF (p:Prog)(x:Node)(h0: (x.op== (1:Int)) =false)(h1: (x.op== (2:Int)) =false)(h2: (x.op== (4:Int)) =false)(h3: (x.op== (24:Int)) =false)(h4: (x.op== (14:Int)) =false)(h5: (x.op== (15:Int)) =false)(h6: (x.n== (0:Int)) =false) :
  LeadsM PP 0 (start PP 67 [(Prog.av p),(Node.av x)]).as (bQ p x false 0 0).as:=
 wW 2 [0,1] [qp h0,qp h1,qp h2,qp h3,qp h4,qp h5,qp h6] [rn 29,bf 13,rn 6,bf 18,rn 6,bf 23,rn 6,bf 32,rn 6,bf 37,rn 10,bf 56,rn 4,bf 65,rn 14] trivial
theorem aPk (p:Prog)(x:Node)(y1:Bool)(args5 i7:Int)(y_form0 y_n1:Int)(y_text2:aX)(y_parts3:List Pat)(y4:Int)(y5:Bool)(h0:decide (i7< (x.pats.length:Int)) =true)(h1:y1=true)(h2:0≤i7)(h3: ((x.pats)[i7.toNat]?) =some (Pat.mk y_form0 y_n1 y_text2 y_parts3))(h4:aE PP 124 [(.agg [(nI y_form0),(nI y_n1),(bO y_text2),(iP y_parts3)]),(nI 12)] (nI y4))(h5:decide (y4≥ (0:Int)) =true)(h6:aE PP 126 [(.agg [(nI y_form0),(nI y_n1),(bO y_text2),(iP y_parts3)]),(iC p.cons)] (bV y5))(h7: (IntKind.i64.wrap (i7+ (1:Int))) = (i7+ (1:Int))) :
  LeadsM PP 0 (bQ p x y1 args5 i7).as (bQ p x y5 args5 (i7+ (1:Int))).as:=
 wW 2 [0,1] [fU x.pats,qp h0,qp h1,qp h2,qgP h3,qp h4,qp h5,qp h2,qgP h3,qp h6,qp (congrArg (AV.int .i64) h7)] [rn 6,aL x.pats,rn 2,bt 76,rn 3,bt 78,rn 4,.reg [.d,.d,.d,.ans (.idx (Pat.av (Pat.mk y_form0 y_n1 y_text2 y_parts3))),.d,.pure (nI y4),.d,.d,.b 88 true,.d,.d,.d,.ans (.idx (Pat.av (Pat.mk y_form0 y_n1 y_text2 y_parts3))),.d,.d,.d,.pure (bV y5),.d,.d],rn 4,sI 80 (i7+ (1:Int)),rn 3] trivial
theorem aPl (p:Prog)(x:Node)(y1:Bool)(args5 i7:Int)(y_form0 y_n1:Int)(y_text2:aX)(y_parts3:List Pat)(y4:Int)(h0:decide (i7< (x.pats.length:Int)) =true)(h1:y1=true)(h2:0≤i7)(h3: ((x.pats)[i7.toNat]?) =some (Pat.mk y_form0 y_n1 y_text2 y_parts3))(h4:aE PP 124 [(.agg [(nI y_form0),(nI y_n1),(bO y_text2),(iP y_parts3)]),(nI 12)] (nI y4))(h5:decide (y4≥ (0:Int)) =false)(h6: (IntKind.i64.wrap (i7+ (1:Int))) = (i7+ (1:Int))) :
  LeadsM PP 0 (bQ p x y1 args5 i7).as (bQ p x false args5 (i7+ (1:Int))).as:=
 wW 2 [0,1] [fU x.pats,qp h0,qp h1,qp h2,qgP h3,qp h4,qp h5,qp (congrArg (AV.int .i64) h6)] [rn 6,aL x.pats,rn 2,bt 76,rn 3,bt 78,rn 4,.reg [.d,.d,.d,.ans (.idx (Pat.av (Pat.mk y_form0 y_n1 y_text2 y_parts3))),.d,.pure (nI y4),.d,.d,.b 88 false,.d,.d,.d,.d,.d,.d,.d,.d,.d,.d],rn 4,sI 80 (i7+ (1:Int)),rn 3] trivial
theorem aPm (p:Prog)(x:Node)(y1:Bool)(args5 i7:Int)(h0:decide (i7< (x.pats.length:Int)) =true)(h1:y1=false) :
  Ends PP 0 (bQ p x y1 args5 i7).as (.ret (bV false)) (aA [] 0) :=
 wE 2 [] [fU x.pats,qp h0,qp h1,qp h1] [rn 6,aL x.pats,rn 2,bt 76,rn 3,bf 78,rn 3,.reg [.d,.d,.b 99 false,.d,.d,.d,.d,.d,.d,.d,.d,.d,.d,.d,.d,.d],rn 1] trivial
theorem aPn (p:Prog)(x:Node)(y1:Bool)(args5 i7 y0:Int)(h0:decide (i7< (x.pats.length:Int)) =false)(h1:y1=true)(h2:aE PP 127 [(nI x.op),(nI (x.pats.length:Int)),(nI args5)] (nI y0)) :
  Ends PP 0 (bQ p x y1 args5 i7).as (.ret (bV ((x.kids.length:Int) ==y0))) (aA [] 0) :=
 wE 2 [] [fU x.pats,qp h0,qp h1,ql aB x.kids,fU x.pats,qp h2,qp (congrArg (AV.int .i64) (aJa aB x.kids)),qp (congrArg (AV.int .i64) (aJa aB x.kids)),qr (AV.ilst 1 (jI x.kids) false),qr (AV.ilst 1 (jI x.kids) false)] [rn 6,aL x.pats,rn 2,bf 76,rn 6,.reg [.d,.d,.b 99 true,.d,.d,.ans (.len (x.kids.length:Int)),.d,.d,.d,.d,.ans (.len (x.pats.length:Int)),.d,.pure (nI y0),.d,.d,.d],rn 1] trivial
theorem aPo (p:Prog)(x:Node)(y1:Bool)(args5 i7:Int)(h0:decide (i7< (x.pats.length:Int)) =false)(h1:y1=false) :
  Ends PP 0 (bQ p x y1 args5 i7).as (.ret (bV false)) (aA [] 0) :=
 wE 2 [] [fU x.pats,qp h0,qp h1] [rn 6,aL x.pats,rn 2,bf 76,rn 6,.reg [.d,.d,.b 99 false,.d,.d,.d,.d,.d,.d,.d,.d,.d,.d,.d,.d,.d],rn 1] trivial
noncomputable def nQ (l:List Con)(i4:Int)(l0:List aX) :TS:=
 {fr:={fn:=66,nt:=42,sl:=[(0,(iC l)),(2,(bV false)),(3,(.gl 0 1 0 l0.length false)),(4,(nI i4))],todo:=[.code (cd Tryz.f66 [1,1,0,1,0,0]),.inLoop (cd Tryz.f66 [1,1,0,1,0,0]),.inBlock 0,.code (cd Tryz.f66 [1,1,1])]},cs:=[],hp:=[(0,(.lst 1 (List.map bO l0)),true)],nb:=1}
theorem aPp (l:List Con) :
  LeadsM PP 0 (start PP 66 [(iC l)]).as (nQ l 0 ([] :List aX)).as:=
 wW 1 [0] [qp (p:= ([] :List AV) = (List.map bO ([] :List aX))) rfl,qp (p:= (AV.gl 0 1 0 0 false) = (.gl 0 1 0 ([] :List aX).length false)) rfl] [rn 15,.nilL 3 1,.lset 0 (List.map bO ([] :List aX)),.set 3 (.gl 0 1 0 ([] :List aX).length false)] ⟨kk,trivial⟩
theorem aPq (l:List Con)(i4:Int)(l0:List aX)(y0:Con)(y1:Bool)(h0:decide (i4< (l.length:Int)) =true)(h1:0≤i4)(h2: ((l)[i4.toNat]?) =some y0)(h3:aE PP 120 [(bO y0.name)] (bV y1))(h4: (!y1) =true) :
  Ends PP 0 (nQ l i4 l0).as (.ret (bV false)) (aA [] 0) :=
 wE 1 [] [ql Con.av l,qp h0,qp h1,qg Con.av h2,qp h3,qp h4] [rn 5,aL l,rn 2,bt 8,rn 9,aI (Con.av y0),rn 2,pB y1,rn 2,bt 18,rn 15] trivial
theorem aPr (l:List Con)(i4:Int)(l0:List aX)(y0:Con)(y1 y2:Bool)(h0:decide (i4< (l.length:Int)) =true)(h1:0≤i4)(h2: ((l)[i4.toNat]?) =some y0)(h3:aE PP 120 [(bO y0.name)] (bV y1))(h4: (!y1) =false)(h5:aE PP 65 [(nI y0.args),(nI 0),(nI 3)] (bV y2))(h6: (!y2) =true) :
  Ends PP 0 (nQ l i4 l0).as (.ret (bV false)) (aA [] 0) :=
 wE 1 [] [ql Con.av l,qp h0,qp h1,qg Con.av h2,qp h3,qp h4,qp h1,qg Con.av h2,qp h5,qp h6] [rn 5,aL l,rn 2,bt 8,rn 9,aI (Con.av y0),rn 2,pB y1,rn 2,bf 18,rn 2,aI (Con.av y0),rn 2,pB y2,rn 3,bt 26,rn 6] trivial
theorem aPs (l:List Con)(i4:Int)(l0:List aX)(y0:Con)(y1 y2:Bool)(h0:decide (i4< (l.length:Int)) =true)(h1:0≤i4)(h2: ((l)[i4.toNat]?) =some y0)(h3:aE PP 120 [(bO y0.name)] (bV y1))(h4: (!y1) =false)(h5:aE PP 65 [(nI y0.args),(nI 0),(nI 3)] (bV y2))(h6: (!y2) =false)(h7:List.length (l0++ [y0.name]) ≤1000000)(h8: (IntKind.i64.wrap (i4+ (1:Int))) = (i4+ (1:Int))) :
  LeadsM PP 0 (nQ l i4 l0).as (nQ l (i4+ (1:Int)) (l0++ [y0.name])).as:=
 wW 3 [2] [ql Con.av l,qp h0,qp h1,qg Con.av h2,qp h3,qp h4,qp h1,qg Con.av h2,qp h5,qp h6,qp h1,qg Con.av h2,qp (gK bO l0),qp h7,qp (gP bO l0 [y0.name]),qp (gQ bO l0 [y0.name]),qp (congrArg (AV.int .i64) h8)] [rn 5,aL l,rn 2,bt 8,rn 9,aI (Con.av y0),rn 2,pB y1,rn 2,bf 18,rn 2,aI (Con.av y0),rn 2,pB y2,rn 3,bf 26,rn 6,aI (Con.av y0),rn 3,.app (List.map bO (l0++ [y0.name])) (l0++ [y0.name]).length,rn 6,sI 10 (i4+ (1:Int)),rn 3] ⟨kk,trivial⟩
theorem aPt (l:List Con)(i4:Int)(l0:List aX)(y0:Bool)(h0:decide (i4< (l.length:Int)) =false)(h1:decide ((l.length:Int) ≤ (20:Int)) =true)(h2:aE PP 49 [(iS l0)] (bV y0)) :
  Ends PP 0 (nQ l i4 l0).as (.ret (bV y0)) (aA [] 0) :=
 wE 1 [] [ql Con.av l,qp h0,ql Con.av l,qp h1,qp (p:=AV.keylessL (List.map bO l0) =true) (aD _ (fun _=>rfl) _),qp (p:=AV.frzOk 0 1 (List.map bO l0) (List.map bO l0) (.gl 0 1 0 l0.length false)) (eA _ _),qp h2] [rn 5,aL l,rn 2,bf 8,rn 5,aL l,rn 2,bt 38,rn 1,.frz 39 0 (List.map bO l0),pB y0,rn 4] trivial
theorem aPu (l:List Con)(i4:Int)(l0:List aX)(h0:decide (i4< (l.length:Int)) =false)(h1:decide ((l.length:Int) ≤ (20:Int)) =false) :
  Ends PP 0 (nQ l i4 l0).as (.ret (bV false)) (aA [] 0) :=
 wE 1 [] [ql Con.av l,qp h0,ql Con.av l,qp h1] [rn 5,aL l,rn 2,bf 8,rn 5,aL l,rn 2,bf 38,rn 6] trivial
noncomputable def kW (p:Prog)(i5:Int)(l1:List Bool) :TS:=
 {fr:={fn:=18,nt:=133,sl:=[(1,(.ptr 0 0)),(2,(bV false)),(3,(nI (p.nodes.length:Int))),(4,(.gl 1 1 0 l1.length true)),(5,(nI i5))],todo:=[.code (cd Tryz.f18 [1,1,1,1,0,1,0,0]),.inLoop (cd Tryz.f18 [1,1,1,1,0,1,0,0]),.inBlock 0,.code (cd Tryz.f18 [1,1,1,1,1])]},cs:=[],hp:=[(0,(.cells (putCells .leaf 0 [(iN p.nodes),(iI p.funs),(nI p.main),(iC p.cons)]) 4 [] false),false),(1,(.lst 1 (List.map eH l1)),true)],nb:=2}
noncomputable def kX (p:Prog)(l1:List Bool)(i6:Int) :TS:=
 {fr:={fn:=18,nt:=133,sl:=[(1,(.ptr 0 0)),(2,(bV false)),(3,(nI (p.nodes.length:Int))),(4,(.gl 1 1 0 l1.length true)),(6,(nI i6))],todo:=[.code (cd Tryz.f18 [1,1,1,1,1,0,1,0,0]),.inLoop (cd Tryz.f18 [1,1,1,1,1,0,1,0,0]),.inBlock 2,.code (cd Tryz.f18 [1,1,1,1,1,1])]},cs:=[],hp:=[(0,(.cells (putCells .leaf 0 [(iN p.nodes),(iI p.funs),(nI p.main),(iC p.cons)]) 4 [] false),false),(1,(.lst 1 (List.map eH l1)),true)],nb:=2}
noncomputable def kY (p:Prog)(l1:List Bool)(k7 i6:Int) :TS:=
 {fr:={fn:=18,nt:=133,sl:=[(1,(.ptr 0 0)),(2,(bV false)),(3,(nI (p.nodes.length:Int))),(4,(.gl 1 1 0 l1.length true)),(6,(nI i6)),(7,(nI k7))],todo:=[.code (cd Tryz.f18 [1,1,1,1,1,0,1,0,0,1,0,0,1,1,0,0]),.inLoop (cd Tryz.f18 [1,1,1,1,1,0,1,0,0,1,0,0,1,1,0,0]),.inBlock 4,.inBlock 3,.code (cd Tryz.f18 [1,1,1,1,1,0,1,0,0,1,1]),.inLoop (cd Tryz.f18 [1,1,1,1,1,0,1,0,0]),.inBlock 2,.code (cd Tryz.f18 [1,1,1,1,1,1])]},cs:=[],hp:=[(0,(.cells (putCells .leaf 0 [(iN p.nodes),(iI p.funs),(nI p.main),(iC p.cons)]) 4 [] false),false),(1,(.lst 1 (List.map eH l1)),true)],nb:=2}
noncomputable def mT (p:Prog)(l1:List Bool)(i9:Int) :TS:=
 {fr:={fn:=18,nt:=133,sl:=[(2,(bV false)),(3,(nI (p.nodes.length:Int))),(4,(.gl 0 1 0 l1.length true)),(9,(nI i9))],todo:=[.code (cd Tryz.f18 [1,1,1,1,1,1,0,1,0,0]),.inLoop (cd Tryz.f18 [1,1,1,1,1,1,0,1,0,0]),.inBlock 6,.code (cd Tryz.f18 [1,1,1,1,1,1,1])]},cs:=[],hp:=[(0,(.lst 1 (List.map eH l1)),true)],nb:=1}
theorem aJv (p:Prog)(h0:decide ((p.nodes.length:Int) > (300:Int)) =true) :
  Ends PP 0 (start PP 18 [(Prog.av p)]).as (.ret (bV false)) (aA [] 0) :=
 wE 1 [] [ql Node.av p.nodes,qp h0] [rn 9,aL p.nodes,rn 8,bt 15,rn 30] trivial
theorem aJw (p:Prog)(y0:Bool)(h0:decide ((p.nodes.length:Int) > (300:Int)) =false)(h1:aE PP 65 [(nI (p.funs.length:Int)),(nI 1),(nI (p.nodes.length:Int))] (bV y0))(h2: (!y0) =true) :
  Ends PP 0 (start PP 18 [(Prog.av p)]).as (.ret (bV false)) (aA [] 0) :=
 wE 1 [] [ql Node.av p.nodes,qp h0,ql aB p.funs,qp h1,qp h2] [rn 9,aL p.nodes,rn 8,bf 15,rn 2,aL p.funs,rn 1,pB y0,rn 3,bt 23,rn 22] trivial
theorem aJx (p:Prog)(y0 y1:Bool)(h0:decide ((p.nodes.length:Int) > (300:Int)) =false)(h1:aE PP 65 [(nI (p.funs.length:Int)),(nI 1),(nI (p.nodes.length:Int))] (bV y0))(h2: (!y0) =false)(h3: (IntKind.i64.wrap ((p.funs.length:Int) - (1:Int))) = ((p.funs.length:Int) - (1:Int)))(h4:aE PP 65 [(nI p.main),(nI 0),(nI ((p.funs.length:Int) - (1:Int)))] (bV y1))(h5: (!y1) =true) :
  Ends PP 0 (start PP 18 [(Prog.av p)]).as (.ret (bV false)) (aA [] 0) :=
 wE 1 [] [ql Node.av p.nodes,qp h0,ql aB p.funs,qp h1,qp h2,ql aB p.funs,qp (congrArg (AV.int .i64) h3),qp h4,qp h5] [rn 9,aL p.nodes,rn 8,bf 15,rn 2,aL p.funs,rn 1,pB y0,rn 3,bf 23,rn 4,aL p.funs,rn 1,sI 29 ((p.funs.length:Int) - (1:Int)),pB y1,rn 3,bt 33,rn 12] trivial
theorem aJy (p:Prog)(y0 y1 y2:Bool)(h0:decide ((p.nodes.length:Int) > (300:Int)) =false)(h1:aE PP 65 [(nI (p.funs.length:Int)),(nI 1),(nI (p.nodes.length:Int))] (bV y0))(h2: (!y0) =false)(h3: (IntKind.i64.wrap ((p.funs.length:Int) - (1:Int))) = ((p.funs.length:Int) - (1:Int)))(h4:aE PP 65 [(nI p.main),(nI 0),(nI ((p.funs.length:Int) - (1:Int)))] (bV y1))(h5: (!y1) =false)(h6:aE PP 66 [(iC p.cons)] (bV y2))(h7: (!y2) =true) :
  Ends PP 0 (start PP 18 [(Prog.av p)]).as (.ret (bV false)) (aA [] 0) :=
 wE 1 [] [ql Node.av p.nodes,qp h0,ql aB p.funs,qp h1,qp h2,ql aB p.funs,qp (congrArg (AV.int .i64) h3),qp h4,qp h5,qp h6,qp h7] [rn 9,aL p.nodes,rn 8,bf 15,rn 2,aL p.funs,rn 1,pB y0,rn 3,bf 23,rn 4,aL p.funs,rn 1,sI 29 ((p.funs.length:Int) - (1:Int)),pB y1,rn 3,bf 33,rn 2,pB y2,rn 3,bt 38,rn 6] trivial
theorem aJz (p:Prog)(y0 y1 y2:Bool)(h0:decide ((p.nodes.length:Int) > (300:Int)) =false)(h1:aE PP 65 [(nI (p.funs.length:Int)),(nI 1),(nI (p.nodes.length:Int))] (bV y0))(h2: (!y0) =false)(h3: (IntKind.i64.wrap ((p.funs.length:Int) - (1:Int))) = ((p.funs.length:Int) - (1:Int)))(h4:aE PP 65 [(nI p.main),(nI 0),(nI ((p.funs.length:Int) - (1:Int)))] (bV y1))(h5: (!y1) =false)(h6:aE PP 66 [(iC p.cons)] (bV y2))(h7: (!y2) =false)(h8:p.nodes.length<100000) :
  LeadsM PP 0 (start PP 18 [(Prog.av p)]).as (kW p 0 (List.replicate p.nodes.length false)).as:=
 wW 2 [0,1] [ql Node.av p.nodes,qp h0,ql aB p.funs,qp h1,qp h2,ql aB p.funs,qp (congrArg (AV.int .i64) h3),qp h4,qp h5,qp h6,qp h7,qp (p:= (p.nodes.length:Int) = ((p.nodes.length:Nat) :Int)) rfl,qp (p:= (p.nodes.length:Int) = ((p.nodes.length:Nat) :Int)) rfl,qp h8,qp (p:=List.replicate p.nodes.length (eH false) = (List.map eH (List.replicate p.nodes.length false))) (aHx _ _ _),qp (p:= (AV.gl 1 1 0 p.nodes.length true) = (.gl 1 1 0 (List.replicate p.nodes.length false).length true)) (aDF (List.length_replicate ..).symm)] [rn 9,aL p.nodes,rn 8,bf 15,rn 2,aL p.funs,rn 1,pB y0,rn 3,bf 23,rn 4,aL p.funs,rn 1,sI 29 ((p.funs.length:Int) - (1:Int)),pB y1,rn 3,bf 33,rn 2,pB y2,rn 3,bf 38,rn 5,.mk p.nodes.length,.lset 1 (List.map eH (List.replicate p.nodes.length false)),.set 40 (.gl 1 1 0 (List.replicate p.nodes.length false).length true),rn 9] ⟨kk,trivial⟩
theorem aJA (p:Prog)(i5:Int)(l1:List Bool)(y0:Int)(y1:Bool)(h0:decide (i5< (p.funs.length:Int)) =true)(h1:0≤i5)(h2: ((p.funs)[i5.toNat]?) =some y0)(h3: (IntKind.i64.wrap ((p.nodes.length:Int) - (1:Int))) = ((p.nodes.length:Int) - (1:Int)))(h4:aE PP 65 [(nI y0),(nI 0),(nI ((p.nodes.length:Int) - (1:Int)))] (bV y1))(h5: (!y1) =true) :
  Ends PP 0 (kW p i5 l1).as (.ret (bV false)) (aA [] 0) :=
 wE 2 [] [ql aB p.funs,qp h0,qp h1,qg aB h2,qp (congrArg (AV.int .i64) h3),qp h4,qp h5] [rn 6,aL p.funs,rn 2,bt 45,rn 10,aI (aB y0),rn 3,sI 54 ((p.nodes.length:Int) - (1:Int)),pB y1,rn 2,bt 57,rn 16] trivial
theorem aJB (p:Prog)(i5:Int)(l1:List Bool)(y0:Int)(y1 y2:Bool)(h0:decide (i5< (p.funs.length:Int)) =true)(h1:0≤i5)(h2: ((p.funs)[i5.toNat]?) =some y0)(h3: (IntKind.i64.wrap ((p.nodes.length:Int) - (1:Int))) = ((p.nodes.length:Int) - (1:Int)))(h4:aE PP 65 [(nI y0),(nI 0),(nI ((p.nodes.length:Int) - (1:Int)))] (bV y1))(h5: (!y1) =false)(h6:0≤y0)(h7:y0< ((l1.length:Nat) :Int))(h8: ((l1)[y0.toNat]?) =some y2)(h9:y2=true) :
  Ends PP 0 (kW p i5 l1).as (.ret (bV false)) (aA [] 0) :=
 wE 2 [] [ql aB p.funs,qp h0,qp h1,qg aB h2,qp (congrArg (AV.int .i64) h3),qp h4,qp h5,qp h1,qg aB h2,qp h6,qp h7,qh eH h8,qp h9] [rn 6,aL p.funs,rn 2,bt 45,rn 10,aI (aB y0),rn 3,sI 54 ((p.nodes.length:Int) - (1:Int)),pB y1,rn 2,bf 57,rn 4,aI (aB y0),rn 1,.ans (.ix),aI (eH y2),rn 2,bt 66,rn 6] trivial
theorem aJC (p:Prog)(i5:Int)(l1:List Bool)(y0:Int)(y1 y2:Bool)(h0:decide (i5< (p.funs.length:Int)) =true)(h1:0≤i5)(h2: ((p.funs)[i5.toNat]?) =some y0)(h3: (IntKind.i64.wrap ((p.nodes.length:Int) - (1:Int))) = ((p.nodes.length:Int) - (1:Int)))(h4:aE PP 65 [(nI y0),(nI 0),(nI ((p.nodes.length:Int) - (1:Int)))] (bV y1))(h5: (!y1) =false)(h6:0≤y0)(h7:y0< ((l1.length:Nat) :Int))(h8: ((l1)[y0.toNat]?) =some y2)(h9:y2=false)(h10: (IntKind.i64.wrap (i5+ (1:Int))) = (i5+ (1:Int))) :
  LeadsM PP 0 (kW p i5 l1).as (kW p (i5+ (1:Int)) (List.set l1 y0.toNat true)).as:=
 wW 2 [0,1] [ql aB p.funs,qp h0,qp h1,qg aB h2,qp (congrArg (AV.int .i64) h3),qp h4,qp h5,qp h1,qg aB h2,qp h6,qp h7,qh eH h8,qp h9,qp h1,qg aB h2,qp h6,qp h7,qh eH h8,qp (p:=jS (eH y2) 0 [(bV true)] =some (eH true)) rfl,qp (p:= (List.map eH l1).set (0+y0.toNat) (eH true) = (List.map eH (List.set l1 y0.toNat true))) (pH _ _ _ _),qs 1 1 0 l1 y0.toNat true true,qs 1 1 0 l1 y0.toNat true true,qs 1 1 0 l1 y0.toNat true true,qp (congrArg (AV.int .i64) h10)] [rn 6,aL p.funs,rn 2,bt 45,rn 10,aI (aB y0),rn 3,sI 54 ((p.nodes.length:Int) - (1:Int)),pB y1,rn 2,bf 57,rn 4,aI (aB y0),rn 1,.ans (.ix),aI (eH y2),rn 2,bf 66,rn 7,aI (aB y0),rn 1,.ans (.ix),.st (eH y2) (eH true),.lset 1 (List.map eH (List.set l1 y0.toNat true)),.set 4 (.gl 1 1 0 (List.set l1 y0.toNat true).length true),.set 58 (.gl 1 1 0 (List.set l1 y0.toNat true).length true),.set 67 (.gl 1 1 0 (List.set l1 y0.toNat true).length true),rn 5,sI 47 (i5+ (1:Int)),rn 3] ⟨kk,trivial⟩
theorem aJD (p:Prog)(i5:Int)(l1:List Bool)(h0:decide (i5< (p.funs.length:Int)) =false) :
  LeadsM PP 0 (kW p i5 l1).as (kX p l1 0).as:=
 wW 2 [0,1] [ql aB p.funs,qp h0] [rn 6,aL p.funs,rn 2,bf 45,rn 9] ⟨kk,trivial⟩
theorem aJE (p:Prog)(l1:List Bool)(i6:Int)(y0:Node)(y1:Bool)(h0:decide (i6< (p.nodes.length:Int)) =true)(h1:0≤i6)(h2: ((p.nodes)[i6.toNat]?) =some y0)(h3:aE PP 67 [(Prog.av p),(Node.av y0)] (bV y1))(h4: (!y1) =true) :
  Ends PP 0 (kX p l1 i6).as (.ret (bV false)) (aA [] 0) :=
 wE 2 [] [qp h0,qp h1,qg Node.av h2,qp h3,qp h4] [rn 7,bt 76,rn 6,.reg [.d,.d,.d,.d,.ans (.idx (Node.av y0)),.d,.pure (bV y1),.d],bt 86,rn 6] trivial
theorem aJF (p:Prog)(l1:List Bool)(i6:Int)(y0:Node)(y1:Bool)(h0:decide (i6< (p.nodes.length:Int)) =true)(h1:0≤i6)(h2: ((p.nodes)[i6.toNat]?) =some y0)(h3:aE PP 67 [(Prog.av p),(Node.av y0)] (bV y1))(h4: (!y1) =false) :
  LeadsM PP 0 (kX p l1 i6).as (kY p l1 0 i6).as:=
 wW 2 [0,1] [qp h0,qp h1,qg Node.av h2,qp h3,qp h4] [rn 7,bt 76,rn 6,.reg [.d,.d,.d,.d,.ans (.idx (Node.av y0)),.d,.pure (bV y1),.d],bf 86,rn 8] ⟨kk,trivial⟩
theorem aJG (p:Prog)(l1:List Bool)(i6:Int)(h0:decide (i6< (p.nodes.length:Int)) =false) :
  LeadsM PP 0 (kX p l1 i6).as (mT p l1 0).as:=
 wW 2 [1] [qp h0] [rn 7,bf 76,rn 9] ⟨kk,trivial⟩
theorem aJH (p:Prog)(l1:List Bool)(k7 i6:Int)(y0:Node)(y1:Int)(y2:Bool)(h0:0≤i6)(h1: ((p.nodes)[i6.toNat]?) =some y0)(h2:decide (k7< (y0.kids.length:Int)) =true)(h3:0≤k7)(h4: ((y0.kids)[k7.toNat]?) =some y1)(h5: (IntKind.i64.wrap (i6+ (1:Int))) = (i6+ (1:Int)))(h6: (IntKind.i64.wrap ((p.nodes.length:Int) - (1:Int))) = ((p.nodes.length:Int) - (1:Int)))(h7:aE PP 65 [(nI y1),(nI (i6+ (1:Int))),(nI ((p.nodes.length:Int) - (1:Int)))] (bV y2))(h8: (!y2) =true) :
  Ends PP 0 (kY p l1 k7 i6).as (.ret (bV false)) (aA [] 0) :=
 wE 2 [] [qp h0,qg Node.av h1,ql aB y0.kids,qp h2,qp h0,qg Node.av h1,qp h3,qg aB h4,qp (congrArg (AV.int .i64) h5),qp (congrArg (AV.int .i64) h6),qp h7,qp h8] [rn 7,aI (Node.av y0),rn 2,aL y0.kids,rn 2,bt 95,rn 9,aI (Node.av y0),rn 3,aI (aB y1),rn 9,sI 109 (i6+ (1:Int)),rn 2,sI 111 ((p.nodes.length:Int) - (1:Int)),pB y2,rn 2,bt 114,rn 12] trivial
theorem aJI (p:Prog)(l1:List Bool)(k7 i6:Int)(y0:Node)(y1:Int)(y2 y3:Bool)(h0:0≤i6)(h1: ((p.nodes)[i6.toNat]?) =some y0)(h2:decide (k7< (y0.kids.length:Int)) =true)(h3:0≤k7)(h4: ((y0.kids)[k7.toNat]?) =some y1)(h5: (IntKind.i64.wrap (i6+ (1:Int))) = (i6+ (1:Int)))(h6: (IntKind.i64.wrap ((p.nodes.length:Int) - (1:Int))) = ((p.nodes.length:Int) - (1:Int)))(h7:aE PP 65 [(nI y1),(nI (i6+ (1:Int))),(nI ((p.nodes.length:Int) - (1:Int)))] (bV y2))(h8: (!y2) =false)(h9:0≤y1)(h10:y1< ((l1.length:Nat) :Int))(h11: ((l1)[y1.toNat]?) =some y3)(h12:y3=true) :
  Ends PP 0 (kY p l1 k7 i6).as (.ret (bV false)) (aA [] 0) :=
 wE 2 [] [qp h0,qg Node.av h1,ql aB y0.kids,qp h2,qp h0,qg Node.av h1,qp h3,qg aB h4,qp (congrArg (AV.int .i64) h5),qp (congrArg (AV.int .i64) h6),qp h7,qp h8,qp h9,qp h10,qh eH h11,qp h12] [rn 7,aI (Node.av y0),rn 2,aL y0.kids,rn 2,bt 95,rn 9,aI (Node.av y0),rn 3,aI (aB y1),rn 9,sI 109 (i6+ (1:Int)),rn 2,sI 111 ((p.nodes.length:Int) - (1:Int)),pB y2,rn 2,bf 114,rn 2,.ans (.ix),aI (eH y3),rn 2,bt 119,rn 6] trivial
theorem aJJ (p:Prog)(l1:List Bool)(k7 i6:Int)(y0:Node)(y1:Int)(y2 y3:Bool)(h0:0≤i6)(h1: ((p.nodes)[i6.toNat]?) =some y0)(h2:decide (k7< (y0.kids.length:Int)) =true)(h3:0≤k7)(h4: ((y0.kids)[k7.toNat]?) =some y1)(h5: (IntKind.i64.wrap (i6+ (1:Int))) = (i6+ (1:Int)))(h6: (IntKind.i64.wrap ((p.nodes.length:Int) - (1:Int))) = ((p.nodes.length:Int) - (1:Int)))(h7:aE PP 65 [(nI y1),(nI (i6+ (1:Int))),(nI ((p.nodes.length:Int) - (1:Int)))] (bV y2))(h8: (!y2) =false)(h9:0≤y1)(h10:y1< ((l1.length:Nat) :Int))(h11: ((l1)[y1.toNat]?) =some y3)(h12:y3=false)(h13: (IntKind.i64.wrap (k7+ (1:Int))) = (k7+ (1:Int))) :
  LeadsM PP 0 (kY p l1 k7 i6).as (kY p (List.set l1 y1.toNat true) (k7+ (1:Int)) i6).as:=
 wW 2 [0,1] [qp h0,qg Node.av h1,ql aB y0.kids,qp h2,qp h0,qg Node.av h1,qp h3,qg aB h4,qp (congrArg (AV.int .i64) h5),qp (congrArg (AV.int .i64) h6),qp h7,qp h8,qp h9,qp h10,qh eH h11,qp h12,qp h9,qp h10,qh eH h11,qp (p:=jS (eH y3) 0 [(bV true)] =some (eH true)) rfl,qp (p:= (List.map eH l1).set (0+y1.toNat) (eH true) = (List.map eH (List.set l1 y1.toNat true))) (pH _ _ _ _),qs 1 1 0 l1 y1.toNat true true,qs 1 1 0 l1 y1.toNat true true,qs 1 1 0 l1 y1.toNat true true,qp (congrArg (AV.int .i64) h13)] [rn 7,aI (Node.av y0),rn 2,aL y0.kids,rn 2,bt 95,rn 9,aI (Node.av y0),rn 3,aI (aB y1),rn 9,sI 109 (i6+ (1:Int)),rn 2,sI 111 ((p.nodes.length:Int) - (1:Int)),pB y2,rn 2,bf 114,rn 2,.ans (.ix),aI (eH y3),rn 2,bf 119,rn 5,.ans (.ix),.st (eH y3) (eH true),.lset 1 (List.map eH (List.set l1 y1.toNat true)),.set 4 (.gl 1 1 0 (List.set l1 y1.toNat true).length true),.set 115 (.gl 1 1 0 (List.set l1 y1.toNat true).length true),.set 120 (.gl 1 1 0 (List.set l1 y1.toNat true).length true),rn 5,sI 97 (k7+ (1:Int)),rn 3] ⟨kk,trivial⟩
theorem aJK (p:Prog)(l1:List Bool)(k7 i6:Int)(y0:Node)(h0:0≤i6)(h1: ((p.nodes)[i6.toNat]?) =some y0)(h2:decide (k7< (y0.kids.length:Int)) =false)(h3: (IntKind.i64.wrap (i6+ (1:Int))) = (i6+ (1:Int))) :
  LeadsM PP 0 (kY p l1 k7 i6).as (kX p l1 (i6+ (1:Int))).as:=
 wW 2 [0,1] [qp h0,qg Node.av h1,ql aB y0.kids,qp h2,qp (congrArg (AV.int .i64) h3)] [rn 7,aI (Node.av y0),rn 2,aL y0.kids,rn 2,bf 95,rn 6,sI 78 (i6+ (1:Int)),rn 3] ⟨kk,trivial⟩
theorem aJL (p:Prog)(l1:List Bool)(i9:Int)(y0:Bool)(h0:decide (i9< (p.nodes.length:Int)) =true)(h1:0≤i9)(h2:i9< ((l1.length:Nat) :Int))(h3: ((l1)[i9.toNat]?) =some y0)(h4: (!y0) =true) :
  Ends PP 0 (mT p l1 i9).as (.ret (bV false)) (aA [] 0) :=
 wE 1 [] [qp h0,qp h1,qp h2,qh eH h3,qp h4] [rn 7,bt 125,rn 8,.ans (.ix),aI (eH y0),rn 2,bt 132,rn 6] trivial
theorem aJM (p:Prog)(l1:List Bool)(i9:Int)(y0:Bool)(h0:decide (i9< (p.nodes.length:Int)) =true)(h1:0≤i9)(h2:i9< ((l1.length:Nat) :Int))(h3: ((l1)[i9.toNat]?) =some y0)(h4: (!y0) =false)(h5: (IntKind.i64.wrap (i9+ (1:Int))) = (i9+ (1:Int))) :
  LeadsM PP 0 (mT p l1 i9).as (mT p l1 (i9+ (1:Int))).as:=
 wW 1 [0] [qp h0,qp h1,qp h2,qh eH h3,qp h4,qp (congrArg (AV.int .i64) h5)] [rn 7,bt 125,rn 8,.ans (.ix),aI (eH y0),rn 2,bf 132,rn 6,sI 127 (i9+ (1:Int)),rn 3] ⟨kk,trivial⟩
theorem aJN (p:Prog)(l1:List Bool)(i9:Int)(h0:decide (i9< (p.nodes.length:Int)) =false) :
  Ends PP 0 (mT p l1 i9).as (.ret (bV true)) (aA [] 0) :=
 wE 1 [] [qp h0] [rn 7,bf 125,rn 7] trivial
end Go.Hb
namespace Go.Hb
open Go.Proofs
def gG (c:Con) :Bool:=jK c.name&&dU c.args 0 3
def bI (l:List Con) :List aX:=l.map Con.name
def vT (l:List Con) :Bool:=l.all gG&&decide (l.length≤20) &&oM (bI l)
def cI (p:Prog)(op n:Int) :Bool:=
 if op=1 then dU n (-1000000000) 1000000000
 else if op=2 then dU n 0 1
 else if op=4 then dU n (0- (p.funs.length:Int)) 29
 else if op=24 then dU n 0 3
 else if op=14 then dU n 0 ((p.cons.length:Int) -1)
 else decide (n=0)
def fV (p:Prog)(x:Node) :Bool:=
 cI p x.op x.n&& (if x.op=15 then dU (x.pats.length:Int) 1 5 else decide (x.pats.length=0))
def gX (p:Prog)(x:Node) :Int:=if x.op=14∧dU x.n 0 ((p.cons.length:Int) -1) =true then fB p.cons x.n else 0
def iK (cons:List Con)(q:Pat) :Bool:=decide (dL q≤12) &&dM cons q
def bH (p:Prog)(x:Node) :Bool:=
 fV p x&&x.pats.all (iK p.cons) &&decide ((x.kids.length:Int) =dV x.op x.pats.length (gX p x))
theorem gI {α:Type}(l:List α) : ((l.length:Int) ==0) =decide (l= []) :=by cases l<;>simp;omega
theorem oS {p:Prop}(h:p:=by simp_all [fV,cI,gX,fB,gI]) :p:=h
set_option maxHeartbeats 2000000
theorem aUb (p:Prog)(x:Node)(hc:p.cons.length≤1000)(hf:p.funs.length≤1000)(b:Bool)(hk:∀ (i:Bool) (a:Int),i=fV p x→a=gX p x→Ends PP 0 (bQ p x i a 0).as (.ret (.bool b)) (aA [] 0)) :
  Ends PP 0 (start PP 67 [Prog.av p,Node.av x]).as (.ret (.bool b)) (aA [] 0) :=by
 cases hb1: (x.op== (1:Int))with
 | true=>
  cases hb2: (x.op== (15:Int))with
  | true=>
   cases hb3: (dU (x.n) (-1000000000) 1000000000)with
   | true=>
    exact LeadsM.ends (aPa p x  (dU (x.n) (-1000000000) 1000000000) (dU ((List.length x.pats:Nat) :Int) 1 5) hb1 (bC (x.n) (-1000000000) 1000000000) hb2 hb3 (bC ((List.length x.pats:Nat) :Int) 1 5)) (hk _ _ (by clear hk;exact oS) (by clear hk;exact oS))
   | false=>
    exact LeadsM.ends (aPb p x  (dU (x.n) (-1000000000) 1000000000) hb1 (bC (x.n) (-1000000000) 1000000000) hb2 hb3) (hk _ _ (by clear hk;exact oS) (by clear hk;exact oS))
  | false=>
   cases hb4: (dU (x.n) (-1000000000) 1000000000)with
   | true=>
    exact LeadsM.ends (aPc p x  (dU (x.n) (-1000000000) 1000000000) hb1 (bC (x.n) (-1000000000) 1000000000) hb2 hb4) (hk _ _ (by clear hk;exact oS) (by clear hk;exact oS))
   | false=>
    exact LeadsM.ends (aPd p x  (dU (x.n) (-1000000000) 1000000000) hb1 (bC (x.n) (-1000000000) 1000000000) hb2 hb4) (hk _ _ (by clear hk;exact oS) (by clear hk;exact oS))
 | false =>
  cases hb5: (x.op== (2:Int))with
  | true=>
   cases hb6: (x.op== (15:Int))with
   | true=>
    cases hb7: (dU (x.n) 0 1)with
    | true=>
     exact LeadsM.ends (aPe p x  (dU (x.n) 0 1) (dU ((List.length x.pats:Nat) :Int) 1 5) hb1 hb5 (bC (x.n) 0 1) hb6 hb7 (bC ((List.length x.pats:Nat) :Int) 1 5)) (hk _ _ (by clear hk;exact oS) (by clear hk;exact oS))
    | false=>
     exact LeadsM.ends (aPf p x  (dU (x.n) 0 1) hb1 hb5 (bC (x.n) 0 1) hb6 hb7) (hk _ _ (by clear hk;exact oS) (by clear hk;exact oS))
   | false=>
    cases hb8: (dU (x.n) 0 1)with
    | true=>
     exact LeadsM.ends (aPg p x  (dU (x.n) 0 1) hb1 hb5 (bC (x.n) 0 1) hb6 hb8) (hk _ _ (by clear hk;exact oS) (by clear hk;exact oS))
    | false=>
     exact LeadsM.ends (aPh p x  (dU (x.n) 0 1) hb1 hb5 (bC (x.n) 0 1) hb6 hb8) (hk _ _ (by clear hk;exact oS) (by clear hk;exact oS))
  | false=>
   cases hb9: (x.op== (4:Int))with
   | true=>
    cases hb10: (x.op== (15:Int))with
    | true=>
     cases hb11: (dU (x.n) (0- ((List.length p.funs:Nat) :Int)) 29)with
     | true=>
      exact LeadsM.ends (aPi p x  (dU (x.n) (0- ((List.length p.funs:Nat) :Int)) 29) (dU ((List.length x.pats:Nat) :Int) 1 5) hb1 hb5 hb9 sdI (bC (x.n) (0- ((List.length p.funs:Nat) :Int)) 29) hb10 hb11 (bC ((List.length x.pats:Nat) :Int) 1 5)) (hk _ _ (by clear hk;exact oS) (by clear hk;exact oS))
     | false=>
      exact LeadsM.ends (aPj p x  (dU (x.n) (0- ((List.length p.funs:Nat) :Int)) 29) hb1 hb5 hb9 sdI (bC (x.n) (0- ((List.length p.funs:Nat) :Int)) 29) hb10 hb11) (hk _ _ (by clear hk;exact oS) (by clear hk;exact oS))
    | false=>
     cases hb12: (dU (x.n) (0- ((List.length p.funs:Nat) :Int)) 29)with
     | true=>
      exact LeadsM.ends (aMs p x  (dU (x.n) (0- ((List.length p.funs:Nat) :Int)) 29) hb1 hb5 hb9 sdI (bC (x.n) (0- ((List.length p.funs:Nat) :Int)) 29) hb10 hb12) (hk _ _ (by clear hk;exact oS) (by clear hk;exact oS))
     | false=>
      exact LeadsM.ends (aMt p x  (dU (x.n) (0- ((List.length p.funs:Nat) :Int)) 29) hb1 hb5 hb9 sdI (bC (x.n) (0- ((List.length p.funs:Nat) :Int)) 29) hb10 hb12) (hk _ _ (by clear hk;exact oS) (by clear hk;exact oS))
   | false=>
    cases hb13: (x.op== (24:Int))with
    | true=>
     cases hb14: (x.op== (15:Int))with
     | true=>
      cases hb15: (dU (x.n) 0 3)with
      | true=>
       exact LeadsM.ends (aMu p x  (dU (x.n) 0 3) (dU ((List.length x.pats:Nat) :Int) 1 5) hb1 hb5 hb9 hb13 (bC (x.n) 0 3) hb14 hb15 (bC ((List.length x.pats:Nat) :Int) 1 5)) (hk _ _ (by clear hk;exact oS) (by clear hk;exact oS))
      | false=>
       exact LeadsM.ends (aMv p x  (dU (x.n) 0 3) hb1 hb5 hb9 hb13 (bC (x.n) 0 3) hb14 hb15) (hk _ _ (by clear hk;exact oS) (by clear hk;exact oS))
     | false=>
      cases hb16: (dU (x.n) 0 3)with
      | true=>
       exact LeadsM.ends (aMw p x  (dU (x.n) 0 3) hb1 hb5 hb9 hb13 (bC (x.n) 0 3) hb14 hb16) (hk _ _ (by clear hk;exact oS) (by clear hk;exact oS))
      | false=>
       exact LeadsM.ends (aMx p x  (dU (x.n) 0 3) hb1 hb5 hb9 hb13 (bC (x.n) 0 3) hb14 hb16) (hk _ _ (by clear hk;exact oS) (by clear hk;exact oS))
    | false=>
     cases hb17: (x.op== (14:Int))with
     | true=>
      cases hb18: (dU (x.n) 0 (((List.length p.cons:Nat) :Int) - (1:Int)))with
      | true=>
       obtain⟨y1,hx19⟩ :∃y,((p.cons)[x.n.toNat]?) =some y:=idT
       cases hb20: (x.op== (15:Int))with
       | true=>
        exact LeadsM.ends (aMy p x  (dU (x.n) 0 (((List.length p.cons:Nat) :Int) - (1:Int))) y1 (dU ((List.length x.pats:Nat) :Int) 1 5) hb1 hb5 hb9 hb13 hb17 sdI (bC (x.n) 0 (((List.length p.cons:Nat) :Int) - (1:Int))) hb18 sdI hx19 hb20 (bC ((List.length x.pats:Nat) :Int) 1 5)) (hk _ _ (by clear hk;exact oS) (by clear hk;exact oS))
       | false=>
        exact LeadsM.ends (aMz p x  (dU (x.n) 0 (((List.length p.cons:Nat) :Int) - (1:Int))) y1 hb1 hb5 hb9 hb13 hb17 sdI (bC (x.n) 0 (((List.length p.cons:Nat) :Int) - (1:Int))) hb18 sdI hx19 hb20) (hk _ _ (by clear hk;exact oS) (by clear hk;exact oS))
      | false=>
       cases hb21: (x.op== (15:Int))with
       | true=>
        exact LeadsM.ends (aMA p x  (dU (x.n) 0 (((List.length p.cons:Nat) :Int) - (1:Int))) hb1 hb5 hb9 hb13 hb17 sdI (bC (x.n) 0 (((List.length p.cons:Nat) :Int) - (1:Int))) hb18 hb21) (hk _ _ (by clear hk;exact oS) (by clear hk;exact oS))
       | false=>
        exact LeadsM.ends (aMB p x  (dU (x.n) 0 (((List.length p.cons:Nat) :Int) - (1:Int))) hb1 hb5 hb9 hb13 hb17 sdI (bC (x.n) 0 (((List.length p.cons:Nat) :Int) - (1:Int))) hb18 hb21) (hk _ _ (by clear hk;exact oS) (by clear hk;exact oS))
     | false=>
      cases hb22: (x.op== (15:Int))with
      | true=>
       cases hb23: (x.n== (0:Int))with
       | true=>
        exact LeadsM.ends (aMC p x  (dU ((List.length x.pats:Nat) :Int) 1 5) hb1 hb5 hb9 hb13 hb17 hb22 hb23 (bC ((List.length x.pats:Nat) :Int) 1 5)) (hk _ _ (by clear hk;exact oS) (by clear hk;exact oS))
       | false=>
        exact LeadsM.ends (aMD p x   hb1 hb5 hb9 hb13 hb17 hb22 hb23) (hk _ _ (by clear hk;exact oS) (by clear hk;exact oS))
      | false=>
       cases hb24: (x.n== (0:Int))with
       | true=>
        exact LeadsM.ends (aME p x   hb1 hb5 hb9 hb13 hb17 hb22 hb24) (hk _ _ (by clear hk;exact oS) (by clear hk;exact oS))
       | false=>
        exact LeadsM.ends (aMF p x   hb1 hb5 hb9 hb13 hb17 hb22 hb24) (hk _ _ (by clear hk;exact oS) (by clear hk;exact oS))
theorem zD (p:Prog)(x:Node)(hc:p.cons.length≤1000)(hl:x.pats.length≤10)(a:Int) :
  ∀ (t:List Pat) (i:Nat) (b:Bool),x.pats.drop i=t→Ends PP 0 (bQ p x b a (i:Int)).as (.ret (.bool (b&&t.all (iK p.cons) &&decide ((x.kids.length:Int) =dV x.op x.pats.length a)))) (aA [] 0)
 | [],i,b,h=>by
  have:=cD h
  cases b with
  |false=>exact Ends.eqv (aPo p x false a i sd rfl) (by simp)
  | true=>
   refine Ends.eqv (aPn p x true a i _ sd rfl (aMq x.op x.pats.length a (by omega) (by omega))) ?_
   simp only [List.all_nil,Bool.true_and,AV.bool.injEq];rfl
 | .mk f' n' s' ps'::t,i,b,h=>by
  obtain⟨g1,g2,g3⟩ :=cA h
  cases b with
  |false=>exact Ends.eqv (aPm p x false a i sd rfl) (by simp)
  | true=>
   have hw:=vO (.mk f' n' s' ps') 12 (by omega) (by omega)
   by_cases k:dL (.mk f' n' s' ps') ≤12
   · have hg:0≤mI (.mk f' n' s' ps') 12:= (xA (.mk f' n' s' ps') 12).2 (by omega)
     refine(aPk p x true a i f' n' s' ps' _ _ sd rfl sd sd hw (decide_eq_true hg) (aFW p.cons hc (.mk f' n' s' ps') (by omega)) sd).ends ?_
     exact Ends.eqv (zD p x hc hl a t (i+1) _ g2) (by simp [iK,k])
   · have hg:¬mI (.mk f' n' s' ps') 12≥0:=fun g=>k (by have:= (xA (.mk f' n' s' ps') 12).1 g;omega)
     refine(aPl p x true a i f' n' s' ps' _ sd rfl sd sd hw (decide_eq_false hg) sd).ends ?_
     exact Ends.eqv (zD p x hc hl a t (i+1) _ g2) (by simp [iK,k])
theorem aMG (p:Prog)(x:Node)(hc:p.cons.length≤1000)(hf:p.funs.length≤1000)(hl:x.pats.length≤10) :aE PP 67 [Prog.av p,Node.av x] (.bool (bH p x)) :=by
 refine bK (by kernel_rfl) rfl rfl (aUb p x hc hf _ fun i a hi ha=>?_)
 subst hi ha
 exact zD p x hc hl _ x.pats 0 _ rfl
theorem aD4 (l:List Con)(hl:l.length≤1000) :∀ (t:List Con) (i:Nat),l.drop i=t→Ends PP 0 (nQ l (i:Int) (bI (l.take i))).as (.ret (.bool (t.all gG&&decide (l.length≤20) &&oM (bI l)))) (aA [] 0)
 | [],i,h=>by
  have hi:=cD h
  have e:bI (l.take i) =bI l:=by rw [List.take_of_length_le hi]
  rw [e]
  by_cases k:l.length≤20
  ·exact Ends.eqv (aPt l i _ _ sd sd (aHz (bI l) (by simp [bI];omega))) (by simp [k])
  ·exact Ends.eqv (aPu l i _ sd sd) (by simp [k])
 | c ::t,i,h=>by
  obtain⟨g1,g2,g3⟩ :=cA h
  have hg:=aJk c.name
  cases k1:jK c.name with
  | false=>
   rw [k1]at hg
   exact Ends.eqv (aPq l i _ c false sd sd sd hg rfl) (by simp [gG,k1])
  | true=>
   rw [k1]at hg
   have hi:=bC c.args 0 3
   cases k2:dU c.args 0 3 with
   | false=>
    rw [k2]at hi
    exact Ends.eqv (aPr l i _ c true false sd sd sd hg rfl hi rfl) (by simp [gG,k1,k2])
   | true=>
    rw [k2]at hi
    have e:bI (l.take i) ++ [c.name] =bI (l.take (i+1)) :=by
     rw [List.take_add_one,g1];simp [bI]
    refine(aPs l i (bI (l.take i)) c true true sd sd sd hg rfl hi rfl (by simp [bI];omega) sd).ends ?_
    rw [e]
    exact Ends.eqv (aD4 l hl t (i+1) g2) (by simp [gG,k1,k2])
theorem aMH (l:List Con)(hl:l.length≤1000) :aE PP 66 [.ilst 2 (List.map Con.av l) false] (.bool (vT l)) :=
 bK (by kernel_rfl) rfl rfl ((aPp l).ends (aD4 l hl l 0 rfl))
def marks (lo n:Int) :List Int→List Bool→Option (List Bool)
 | [],u=>some u
 |k::ks,u=>if dU k lo (n-1) =true∧u[k.toNat]?=some false then marks lo n ks (u.set k.toNat true)else none
theorem gY {lo n:Int}:∀ {ks:List Int} {u v:List Bool},marks lo n ks u=some v→v.length=u.length
 | [],u,v,h=>by simp only [marks,Option.some.injEq]at h;rw [h]
 | k::ks,u,v,h=>by
  simp only [marks]at h
  split at h
  ·have:=gY h;simpa using this
  ·cases h
def bU (p:Prog) :Nat→List Node→List Bool→Option (List Bool)
 |_,[],u=>some u
 | i,x::t,u=>if bH p x=true then match marks ((i:Int) +1) (p.nodes.length:Int) x.kids u with
   |some v=>bU p (i+1) t v
   |none=>none
  else none
def allT :Option (List Bool) →Bool
 |some u=>u.all fun b=>b
 |none=>false
def dY (p:Prog) :Bool:=decide (p.nodes.length≤300) &&dU (p.funs.length:Int) 1 (p.nodes.length:Int) &&dU p.main 0 ((p.funs.length:Int) -1)
def bJ (p:Prog) :Bool:=
 dY p&&vT p.cons&& (match marks 0 (p.nodes.length:Int) p.funs (List.replicate p.nodes.length false)with
  |some u=>allT (bU p 0 p.nodes u)
  |none=>false)
theorem rF3 (p:Prog)(u:List Bool)(hn:p.nodes.length≤1000)(hu:u.length=p.nodes.length) :∀ (t:List Bool) (i:Nat),u.drop i=t→Ends PP 0 (mT p u (i:Int)).as (.ret (.bool (t.all fun b=>b))) (aA [] 0)
 | [],i,h=>by
  have:=cD h
  exact aJN p u i sd
 | b::t,i,h=>by
  obtain⟨g1,g2,g3⟩ :=cA h
  cases b with
  |false=>exact Ends.eqv (aJL p u i false sd sd sd sd rfl) (by simp)
  | true=>
   refine(aJM p u i true sd sd sd sd rfl sd).ends ?_
   exact Ends.eqv (rF3 p u hn hu t (i+1) g2) (by simp)
theorem aXi (p:Prog)(x:Node)(i:Nat)(hx:p.nodes[i]?=some x)(hn:p.nodes.length≤1000)(hk:x.kids.length≤1000)(K:List Bool→Bool)
  (hb:∀v:List Bool,v.length=p.nodes.length→Ends PP 0 (kX p v ((i:Int) +1)).as (.ret (.bool (K v))) (aA [] 0)) :
  ∀ (t:List Int) (k:Nat) (u:List Bool),u.length=p.nodes.length→x.kids.drop k=t→Ends PP 0 (kY p u (k:Int) (i:Int)).as (.ret (.bool (match marks ((i:Int) +1) p.nodes.length t u with|some v=>K v|none=>false))) (aA [] 0)
 | [],k,u,hu,h=>by
  have:=cD h
  have hi:= (List.getElem?_eq_some_iff.1 hx).1
  refine(aJK p u k i x sd sd sd sd).ends ?_
  exact hb u hu
 | y ::t,k,u,hu,h=>by
  obtain⟨g1,g2,g3⟩ :=cA h
  have hi:= (List.getElem?_eq_some_iff.1 hx).1
  have hin:=bC y ((i:Int) +1) ((p.nodes.length:Int) -1)
  cases k1:dU y ((i:Int) +1) ((p.nodes.length:Int) -1)with
  | false=>
   rw [k1]at hin
   exact Ends.eqv (aJH p u k i x y false sd sd sd sd sd sd sd hin rfl) (by simp [marks,k1])
  | true=>
   rw [k1]at hin
   have hy:=inB_iff.1 k1
   obtain⟨z,hz⟩ :∃z,u[y.toNat]?=some z:= ⟨_,List.getElem?_eq_getElem (by omega)⟩
   cases z with
   | true=>
    exact Ends.eqv (aJI p u k i x y true true sd sd sd sd sd sd sd hin rfl (by omega) (by omega) hz rfl) (by simp [marks,hz])
   | false=>
    refine(aJJ p u k i x y true false sd sd sd sd sd sd sd hin rfl (by omega) (by omega) hz rfl sd).ends ?_
    exact Ends.eqv (aXi p x i hx hn hk K hb t (k+1) (u.set y.toNat true) (by simpa using hu) g2) (by simp [marks,k1,hz])
theorem rF1 (p:Prog)(hp:aP p=true)(hn:p.nodes.length≤1000)(hc:p.cons.length≤1000)(hf:p.funs.length≤1000) :∀ (t:List Node) (i:Nat) (u:List Bool),u.length=p.nodes.length→p.nodes.drop i=t →
  Ends PP 0 (kX p u (i:Int)).as (.ret (.bool (allT (bU p i t u)))) (aA [] 0)
 | [],i,u,hu,h=>by
  have:=cD h
  refine(aJG p u i sd).ends ?_
  exact rF3 p u hn hu u 0 rfl
 | x::t,i,u,hu,h=>by
  obtain⟨g1,g2,g3⟩ :=cA h
  have hx:bA x=true:=by
   simp only [aP,Bool.and_eq_true]at hp
   exact List.all_eq_true.1 hp.2 x (List.mem_of_getElem? g1)
  simp only [bA,Bool.and_eq_true,decide_eq_true_eq]at hx
  have ho:=aMG p x hc hf hx.1.2
  cases k:bH p x with
  | false=>
   rw [k]at ho
   exact Ends.eqv (aJE p u i x false sd sd sd ho rfl) (by simp [bU,k,allT])
  | true=>
   rw [k]at ho
   refine(aJF p u i x true sd sd sd ho rfl).ends ?_
   refine Ends.eqv (aXi p x i g1 hn (by omega) (fun v=>allT (bU p (i+1) t v)) (fun v hv=>rF1 p hp hn hc hf t (i+1) v hv g2) x.kids 0 u hu rfl) ?_
   simp only [bU,k,if_true]
   cases marks ((i:Int) +1) (p.nodes.length:Int) x.kids u<;>rfl
theorem rF0 (p:Prog)(hp:aP p=true)(hn:p.nodes.length≤1000)(hc:p.cons.length≤1000)(hf:p.funs.length≤1000) :∀ (t:List Int) (i:Nat) (u:List Bool),u.length=p.nodes.length→p.funs.drop i=t →
  Ends PP 0 (kW p (i:Int) u).as (.ret (.bool (match marks 0 p.nodes.length t u with|some v=>allT (bU p 0 p.nodes v) |none=>false))) (aA [] 0)
 | [],i,u,hu,h=>by
  have:=cD h
  refine(aJD p i u sd).ends ?_
  exact rF1 p hp hn hc hf p.nodes 0 u hu rfl
 | y ::t,i,u,hu,h=>by
  obtain⟨g1,g2,g3⟩ :=cA h
  have hin:=bC y 0 ((p.nodes.length:Int) -1)
  cases k1:dU y 0 ((p.nodes.length:Int) -1)with
  | false=>
   rw [k1]at hin
   exact Ends.eqv (aJA p i u y false sd sd sd sd hin rfl) (by simp [marks,k1])
  | true=>
   rw [k1]at hin
   have hy:=inB_iff.1 k1
   obtain⟨z,hz⟩ :∃z,u[y.toNat]?=some z:= ⟨_,List.getElem?_eq_getElem (by omega)⟩
   cases z with
   | true=>
    exact Ends.eqv (aJB p i u y true true sd sd sd sd hin rfl (by omega) (by omega) hz rfl) (by simp [marks,hz])
   | false=>
    refine(aJC p i u y true false sd sd sd sd hin rfl (by omega) (by omega) hz rfl sd).ends ?_
    exact Ends.eqv (rF0 p hp hn hc hf t (i+1) (u.set y.toNat true) (by simpa using hu) g2) (by simp [marks,k1,hz])
theorem aAP (p:Prog)(hp:aP p=true) :aE PP 18 [Prog.av p] (.bool (bJ p)) :=by
 refine bK (by kernel_rfl) rfl rfl ?_
 have hs:=hp
 simp only [aP,Bool.and_eq_true,decide_eq_true_eq]at hs
 obtain⟨⟨⟨⟨s1,s2⟩,s3⟩,_⟩,_⟩ :=hs
 by_cases k0:p.nodes.length≤300
 · have hi1:=bC (p.funs.length:Int) 1 (p.nodes.length:Int)
   cases k1:dU (p.funs.length:Int) 1 (p.nodes.length:Int)with
   | false=>
    rw [k1]at hi1
    exact Ends.eqv (aJw p false sd hi1 rfl) (by simp [bJ,dY,k1])
   | true=>
    rw [k1]at hi1
    have hi2:=bC p.main 0 ((p.funs.length:Int) -1)
    cases k2:dU p.main 0 ((p.funs.length:Int) -1)with
    | false=>
     rw [k2]at hi2
     exact Ends.eqv (aJx p true false sd hi1 rfl sd hi2 rfl) (by simp [bJ,dY,k2])
    | true=>
     rw [k2]at hi2
     have hco:=aMH p.cons (by omega)
     cases k3:vT p.cons with
     | false=>
      rw [k3]at hco
      exact Ends.eqv (aJy p true true false sd hi1 rfl sd hi2 rfl hco rfl) (by simp [bJ,k3])
     | true=>
      rw [k3]at hco
      refine(aJz p true true true sd hi1 rfl sd hi2 rfl hco rfl (by omega)).ends ?_
      refine Ends.eqv (rF0 p hp (by omega) (by omega) (by omega) p.funs 0 _ (by simp) rfl) ?_
      have e:dY p=true:=by simp [dY,k0,k1,k2]
      simp only [bJ,e,k3,Bool.true_and]
 ·exact Ends.eqv (aJv p sd) (by simp [bJ,dY,k0])
def checkN (b:Bool) :Int:=if b=true then 0 else 2
end Go.Hb
