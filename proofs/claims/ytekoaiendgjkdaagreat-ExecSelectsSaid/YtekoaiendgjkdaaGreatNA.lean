import Derived.Test.YtekoaiendgjkdaaGreatMB
set_option linter.unusedVariables false
set_option linter.unusedSimpArgs false
set_option linter.unusedSectionVars false
set_option maxRecDepth 100000
set_option maxHeartbeats 8000000
namespace Go.S
open Go.Sx Go.Proofs
def Mo(d:DB):Prop:=∀w∈d.au,w.marks.Pairwise (fun a b=>a.at_<=b.at_)
structure SJ(n:Nat)(d:DB):Prop where
 sc:SC d
 mo:Mo d
 hn:d.holds.length<=n
 wn:d.waits.length<=n
end Go.S
