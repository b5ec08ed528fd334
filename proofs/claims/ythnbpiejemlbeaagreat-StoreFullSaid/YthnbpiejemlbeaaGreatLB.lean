import Derived.Test.YthnbpiejemlbeaaGreatLA
set_option linter.all false
set_option maxRecDepth 100000
set_option maxHeartbeats 8000000
namespace Go.S
open Go.Sx Go.Proofs
def HU(H:List bG):Prop:=∀(i j:Nat) (x y:bG),H[i]? =some x->H[j]? =some y->x.s=y.s->x.table=y.table->i=j
def dKm(d:DB):Prop:=∀w∈d.ah,w.marks.length<=10/\∀m∈w.marks,∃n:Nat,m.at_=(n:Int)/\n<=w.log.length
end Go.S
