import Derived.Test.YtekoaiendgjkdaaGreatJ2
import Derived.Test.YtekoaiendgjkdaaGreatHA
import Derived.Test.YtekoaiendgjkdaaGreatEC
set_option linter.unusedVariables false
set_option linter.unusedSimpArgs false
set_option linter.unusedSectionVars false
set_option maxRecDepth 100000
set_option maxHeartbeats 8000000
namespace Go.S
open Go.Sx Go.Proofs
def r2(h:ad)(C i:Nat)(R:List Row)(L:List iX)(M:List Ns)(y:Value):Prop:=
 (i<=C/\M=[])\/(C<i/\∃(R0:List Row) (n:Nat) (l:List Ns),M=⟨YE,(n:Int)⟩::l/\(∀x∈l,x.name=Tl)/\l.length<=min (i-1-C) 2/\Bk R L R0 n/\SO R0/\Sl 59 aL h y R0)
end Go.S
