import Derived.Test.YtekoaiendgjkdaaGreatH3a
import Derived.Test.YtekoaiendgjkdaaGreatEC
import Derived.Test.YtekoaiendgjkdaaGreatH2
set_option linter.unusedVariables false
set_option linter.unusedSimpArgs false
set_option linter.unusedSectionVars false
set_option maxRecDepth 100000
set_option maxHeartbeats 16000000
namespace Go.S
open Go.Sx Go.Proofs
abbrev NX.cells(v:NX):List Value:=[.slice v.b1 v.n1 v.c1,.slice v.b2 v.n2 v.c2,.slice v.b3 v.n3 v.c3,.slice v.b4 v.n4 v.c4]
abbrev NX.val(v:NX):Value:=.agg #[.slice v.b1 v.n1 v.c1,.slice v.b2 v.n2 v.c2,.slice v.b3 v.n3 v.c3,.slice v.b4 v.n4 v.c4]
def w0:NX:=⟨none,0,0,none,0,0,none,0,0,none,0,0⟩
def cmD(R:List Row):DB:=⟨[⟨bN 0,R⟩,cI 1,cI 2],[],[],[]⟩
def drD:DB:=⟨[cI 1,cI 2],[],[],[]⟩
end Go.S
