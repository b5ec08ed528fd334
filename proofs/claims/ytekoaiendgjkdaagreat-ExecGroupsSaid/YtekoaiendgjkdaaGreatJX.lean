import Derived.Test.YtekoaiendgjkdaaGreatI1
import Derived.Test.YtekoaiendgjkdaaGreatGB
import Derived.Test.YtekoaiendgjkdaaGreatI2a
import Derived.Test.YtekoaiendgjkdaaGreatHA
set_option linter.unusedVariables false
set_option linter.unusedSimpArgs false
set_option linter.unusedSectionVars false
set_option maxRecDepth 100000
set_option maxHeartbeats 8000000
namespace Go.S
open Go.Sx Go.Proofs
set_option maxHeartbeats 4000000
def tT(R:List Row):List cW:=[⟨aF 0,R⟩,dZ 1,dZ 2]
structure SO(R:List Row):Prop where
 sr:SR R
 ok:∀row∈R,fK row
 le:R.length<=200
theorem SO.nil:SO []:=⟨SR.nil,by simp,by simp⟩
structure Bk(R:List Row)(L:List dV)(R0:List Row)(n:Nat):Prop where
 le:n<=L.length
 un:eV (tT R) (L.drop n)=tT R0
def hR:cg:=⟨0,oF,false⟩
end Go.S
