import Derived.Test.YtekoaiendgjkdaaGreatF4
import Derived.Test.YtekoaiendgjkdaaGreatJSA
import Derived.Test.YtekoaiendgjkdaaGreatJSB
import Derived.Test.YtekoaiendgjkdaaGreatJSC
import Derived.Test.YtekoaiendgjkdaaGreatJSD
set_option linter.unusedVariables false
set_option linter.unusedSimpArgs false
set_option linter.unusedSectionVars false
set_option maxRecDepth 100000
set_option maxHeartbeats 8000000
namespace Go.Proofs.YtekoaiendgjkdaaGreat.execSelects
open Go.ChangeShapes Go.WideShapes Go.ChangeAt Go.RowKit Go.Sx Go.S
end Go.Proofs.YtekoaiendgjkdaaGreat.execSelects
