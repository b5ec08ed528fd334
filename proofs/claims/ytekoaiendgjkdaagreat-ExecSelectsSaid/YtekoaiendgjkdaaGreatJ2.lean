import Derived.Test.YtekoaiendgjkdaaGreatJ1
import Derived.Test.YtekoaiendgjkdaaGreatGB
import Derived.Test.YtekoaiendgjkdaaGreatI2a
import Derived.Test.YtekoaiendgjkdaaGreatHA
set_option linter.unusedVariables false
set_option linter.unusedSimpArgs false
set_option linter.unusedSectionVars false
set_option maxRecDepth 100000
set_option maxHeartbeats 4000000
namespace Go.S
open Go.Sx Go.Proofs
def tT(R:List Row):List cE:=[⟨aT 0,R⟩,cL 1,cL 2]
structure SO(R:List Row):Prop where
 sr:SR R
 ok:∀row∈R,lN row
 le:R.length<=200
structure Bk(R:List Row)(L:List iX)(R0:List Row)(n:Nat):Prop where
 le:n<=L.length
 un:fS (tT R) (L.drop n)=tT R0
def hR:bZ:=⟨0,MG,false⟩
def HH(H:List bZ):Prop:=H=[]\/H=[hX 0]\/H=[hR]
def YE:ByteArray:=⟨#[104,101,114,101]⟩
def Tl:ByteArray:=⟨#[108,97,116,101,114]⟩
end Go.S
