import Derived.Test.YtekoaiendgjkdaaGreatHA
set_option linter.unusedVariables false
set_option linter.unusedSimpArgs false
set_option linter.unusedSectionVars false
set_option maxRecDepth 100000
set_option maxHeartbeats 4000000
namespace Go.S
open Go.Sx Go.Proofs
def kN(r:Row):Int:=match r with
 |v::_=>v.n
 | []=>0
structure SR(R:List Row):Prop where
 form:∀row∈R,∃a v,row=[⟨2,a,pJ⟩,v]
 pH:R.Pairwise (fun x y=>kN x<kN y)
structure At(R:List Row)(a:Int)(p:Nat):Prop where
 le:p<=R.length
 lo:∀i row,i<p->R[i]? =some row->kN row<a
 hi:∀i row,p<=i->R[i]? =some row->a<=kN row
def B0(R:List Row)(a:Int)(p:Nat):Bool:=match R[p]? with
 |some row=>decide (kN row=a)
 |none=>false
end Go.S
