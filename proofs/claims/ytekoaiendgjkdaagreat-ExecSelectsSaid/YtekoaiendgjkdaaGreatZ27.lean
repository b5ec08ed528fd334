/-
  x
-/
import Derived.Test.YtekoaiendgjkdaaGreatWD
import Derived.Test.YtekoaiendgjkdaaGreatJS
import Derived.Test.YtekoaiendgjkdaaGreatF4b
import Derived.SizedLaws
set_option linter.unusedVariables false
set_option linter.unusedSimpArgs false
set_option linter.unusedSectionVars false
set_option maxRecDepth 100000
namespace Go.Proofs.YtekoaiendgjkdaaGreat.execSelects
open Go.ChangeShapes Go.WideShapes Go.ChangeAt Go.RowKit Go.Sx Go.S
end Go.Proofs.YtekoaiendgjkdaaGreat.execSelects
