import Derived.Test.YtficmdggjjepmaaGreatJ3a
set_option linter.all false
set_option maxRecDepth 100000
set_option maxHeartbeats 8000000
namespace Go.S
open Go.Sx Go.Proofs
set_option maxHeartbeats 4000000
def tJ(F:Nat->List Row)(t:Nat)(R:List Row):Nat->List Row:=λj=>if j=t then R else F j
end Go.S
