import Derived.Test.YtekoaiendgjkdaaGreatF4
import Derived.Test.YtekoaiendgjkdaaGreatWB
import Derived.Deep.Slices
set_option linter.unusedVariables false
set_option linter.unusedSimpArgs false
set_option linter.unusedSectionVars false
set_option maxRecDepth 100000
set_option maxHeartbeats 8000000
namespace Go.S
open Go.Sx Go.Proofs Go.ChangeShapes Go.WideShapes Go.ChangeAt Go.RowKit
instance:Inhabited AG:=⟨⟨0,0,0,0⟩⟩
end Go.S
