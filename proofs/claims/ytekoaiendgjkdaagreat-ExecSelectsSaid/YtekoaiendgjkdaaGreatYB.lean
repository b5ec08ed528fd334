import Derived.Test.YtekoaiendgjkdaaGreatYA
import Derived.Test.YtekoaiendgjkdaaGreatHA
import Derived.Test.YtekoaiendgjkdaaGreatLA
import Derived.Test.YtekoaiendgjkdaaGreatNA
import Derived.Test.YtekoaiendgjkdaaGreatQC
import Derived.Test.YtekoaiendgjkdaaGreatQA
import Derived.Test.YtekoaiendgjkdaaGreatGA
import Derived.Test.YtekoaiendgjkdaaGreatQD
import Derived.Test.YtekoaiendgjkdaaGreatSxC
import Derived.Test.YtekoaiendgjkdaaGreatQE
import Derived.Test.YtekoaiendgjkdaaGreatEC
set_option linter.unusedVariables false
set_option linter.unusedSimpArgs false
set_option linter.unusedSectionVars false
set_option maxRecDepth 100000
set_option maxHeartbeats 8000000
namespace Go.S
open Go.Sx Go.Proofs
def qm(a b:dg):Bool:=decide (ch a b<0)
structure kc(v:dg):Prop where
 s:v.k≠3->v.s=pJ
 n:v.k=3->v.n=0
 z:v.s.size<=2^60
end Go.S
