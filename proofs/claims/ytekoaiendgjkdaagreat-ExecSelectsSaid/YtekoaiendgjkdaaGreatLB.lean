import Derived.Test.YtekoaiendgjkdaaGreatLA
import Derived.Test.YtekoaiendgjkdaaGreatGB
import Derived.Test.YtekoaiendgjkdaaGreatRd
set_option linter.unusedVariables false
set_option linter.unusedSimpArgs false
set_option linter.unusedSectionVars false
set_option maxRecDepth 100000
set_option maxHeartbeats 8000000
namespace Go.S
open Go.Sx Go.Proofs
def HU(H:List bZ):Prop:=∀(i j:Nat) (x y:bZ),H[i]? =some x->H[j]? =some y->x.s=y.s->x.table=y.table->i=j
def hK(d:DB):Prop:=∀w∈d.au,w.marks.length<=10/\∀m∈w.marks,∃n:Nat,m.at_=(n:Int)/\n<=w.log.length
def m5(H:List bZ)(a:Int)(w:bZ):List Int:=if w.s=a then(H.filter (fY w)).map (·.s)else []
end Go.S
