/- A machine on abstract values, its soundness, ways, plain laws. -/
import Derived.Test.YtfaikcecgpcimaaGreatHF
import Derived.Test.YtfaikcecgpcimaaGreatHG
import Derived.Test.YtfaikcecgpcimaaGreatHI
set_option linter.defProp false
set_option linter.unusedVariables false
set_option linter.unusedSimpArgs false
set_option linter.unusedSectionVars false
set_option maxRecDepth 100000
set_option maxHeartbeats 8000000
namespace Go.Hb
open Go.Proofs Tryz
noncomputable section
def pre (p:Prog) :Nat→Int→List Int
 |0,_=>[]
 | f+1,a=>match p.nodes[a.toNat]? with
  |some x=>a:: (x.kids.map (pre p f)).flatten
  |none=>[]
def yL :List Int→Int→List Int→List Int
 |l,_,[] =>l
 |l,n,b::bs=>yL (l.set b.toNat n) (n+1) bs
theorem aDw :∀ (xs l:List Int) (n:Int) (m:Nat),(∀x∈xs,x.toNat≠m) → (yL l n xs)[m]?=l[m]?
 | [],l,n,m,h=>rfl
 | x::xs,l,n,m,h=>by
  rw [yL,aDw xs _ _ m (fun y hy=>h y (List.mem_cons_of_mem _ hy))];exact List.getElem?_set_ne (h x (List.mem_cons_self ..))
theorem aE2 :∀ (xs l:List Int) (n:Int),xs.Nodup→ (∀x∈xs,0≤x∧x<l.length) →∀ (i:Nat) (b:Int),xs[i]?=some b→kF (yL l n xs) b=n+i
 | [],l,n,_,_,i,b,h=>by simp at h
 | x ::xs,l,n,hd,hr,i,b,h=>by
  have hd:=List.nodup_cons.1 hd;have hx:=hr x (List.mem_cons_self ..);cases i with
  | zero=>
   simp only [List.getElem?_cons_zero,Option.some.injEq]at h;subst h;unfold kF
   rw [yL,List.getD_eq_getElem?_getD,aDw xs _ _ x.toNat (fun y hy e=>hd.1 (by
    have:=hr y (List.mem_cons_of_mem _ hy);have:y=x:=by omega
    exact this ▸ hy)),List.getElem?_set_self (by omega)]
   simp
  | succ i=>
   simp only [List.getElem?_cons_succ]at h;rw [yL,aE2 xs (l.set x.toNat n) (n+1) hd.2 (fun y hy=>by rw [List.length_set];exact hr y (List.mem_cons_of_mem _ hy)) i b h];omega
section
variable {p :Prog}
theorem aQ3 (hp:FineP p){f:Nat}{a:Int}(ha:0≤a)(hn:a<p.nodes.length)(hf:p.nodes.length-a.toNat≤f) :∃x g,f=g+1∧p.nodes[a.toNat]?=some x∧pre p f a=a:: (x.kids.map (pre p g)).flatten:=by
 cases f with
 |zero=>omega
 | succ g=>
  obtain⟨x,hx⟩ :∃x,p.nodes[a.toNat]?=some x:= ⟨_,List.getElem?_eq_getElem (by omega)⟩;exact⟨x,g,rfl,hx,by rw [pre,hx]⟩
end
end
end Go.Hb
