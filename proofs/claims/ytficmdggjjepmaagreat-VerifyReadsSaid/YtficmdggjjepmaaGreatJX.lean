import Derived.Test.YtficmdggjjepmaaGreatI2a
set_option linter.all false
set_option maxRecDepth 100000
set_option maxHeartbeats 8000000
namespace Go.S
open Go.Sx Go.Proofs
set_option maxHeartbeats 4000000
def tT(R:List Row):List bM:=[⟨aB 0,R⟩,ij 1,ij 2]
structure SO(R:List Row):Prop where
 sr:SR R
 ok:∀row∈R,iJ row
 le:R.length<=200
structure Bk(R:List Row)(L:List cW)(R0:List Row)(n:Nat):Prop where
 le:n<=L.length
 un:ic (tT R) (L.drop n)=tT R0
def hR:bJ:=⟨0,kz,false⟩
end Go.S
