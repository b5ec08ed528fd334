import Derived.Test.YtekoaiendgjkdaaGreatJ1
import Derived.Test.YtekoaiendgjkdaaGreatGB
import Derived.Test.YtekoaiendgjkdaaGreatI2a
import Derived.Test.YtekoaiendgjkdaaGreatH4
set_option linter.unusedVariables false
set_option linter.unusedSimpArgs false
set_option linter.unusedSectionVars false
set_option maxRecDepth 100000
set_option maxHeartbeats 4000000
namespace Go.S
open Go.Sx Go.Proofs
def tT(R:List Row):List cg:=[⟨cV 0,R⟩,dR 1,dR 2]
structure SO(R:List Row):Prop where
 sr:SR R
 ok:∀row∈R,fc row
 le:R.length<=200
theorem SO.nil:SO []:=⟨SR.nil,by simp,by simp⟩
structure Bk(R:List Row)(L:List lG)(R0:List Row)(n:Nat):Prop where
 le:n<=L.length
 un:fx (tT R) (L.drop n)=tT R0
def hR:bP:=⟨0,KD,false⟩
def HH(H:List bP):Prop:=H=[]\/H=[hX 0]\/H=[hR]
def Vx:ByteArray:=⟨#[104,101,114,101]⟩
def QK:ByteArray:=⟨#[108,97,116,101,114]⟩
end Go.S
