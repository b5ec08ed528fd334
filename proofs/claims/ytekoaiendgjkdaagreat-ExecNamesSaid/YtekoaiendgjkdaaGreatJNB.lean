import Derived.SizedLaws
import Derived.Test.YtekoaiendgjkdaaGreatRows
set_option linter.unusedVariables false
set_option linter.unusedSimpArgs false
set_option linter.unusedSectionVars false
set_option maxRecDepth 100000
namespace Go.Proofs.YtekoaiendgjkdaaGreat.execNames
open Go.ChangeShapes Go.WideShapes
theorem jf9:(fun(P:Program) (f:FuncId) (fn:Func) (s:ChangeSpec) (c:OpenClaim)=>((c.inPlace==P.inPlace f):Bool)) Tryz.pinned.checked.prog 12 Tryz.f12 Rows.execNamesSpec Rows.execNamesRow=true:=by kernel_rfl
theorem jf10:(fun(P:Program) (f:FuncId) (fn:Func) (s:ChangeSpec) (c:OpenClaim)=>((c.unfollowed==P.unfollowed f):Bool)) Tryz.pinned.checked.prog 12 Tryz.f12 Rows.execNamesSpec Rows.execNamesRow=true:=by kernel_rfl
end Go.Proofs.YtekoaiendgjkdaaGreat.execNames
