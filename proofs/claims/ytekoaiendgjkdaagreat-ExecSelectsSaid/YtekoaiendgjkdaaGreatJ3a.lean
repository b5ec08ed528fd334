import Derived.Test.YtekoaiendgjkdaaGreatJ2
import Derived.Test.YtekoaiendgjkdaaGreatHA
import Derived.Test.YtekoaiendgjkdaaGreatEC
set_option linter.unusedVariables false
set_option linter.unusedSimpArgs false
set_option linter.unusedSectionVars false
set_option maxRecDepth 100000
set_option maxHeartbeats 8000000
namespace Go.S
open Go.Sx Go.Proofs
def Gr(h:ad)(C i:Nat)(R:List Row)(L:List dV)(M:List oy)(y:Value):Prop:=
 (i<=C/\M=[])\/(C<i/\∃(R0:List Row) (n:Nat) (l:List oy),M=⟨jU,(n:Int)⟩::l/\(∀x∈l,x.name=tN)/\l.length<=min (i-1-C) 2/\Bk R L R0 n/\SO R0/\Sl 59 aD h y R0)
end Go.S
