import Derived.SizedLaws
import Derived.Test.YtekoaiendgjkdaaGreatRows
set_option linter.unusedVariables false
set_option linter.unusedSimpArgs false
set_option linter.unusedSectionVars false
set_option maxRecDepth 100000
namespace Go.Proofs.YtekoaiendgjkdaaGreat.execGroups
open Go.ChangeShapes Go.WideShapes
theorem hKK:(fun(P:Program) (f:FuncId) (fn:Func) (s:ChangeSpec) (c:OpenClaim)=>((c.recurses==P.recurses f):Bool)) Tryz.pinned.checked.prog 10 Tryz.f10 Rows.execGroupsSpec Rows.execGroupsRow=true:=by kernel_rfl
theorem hKI:(fun(P:Program) (f:FuncId) (fn:Func) (s:ChangeSpec) (c:OpenClaim)=>((c.named==P.varsNamed f):Bool)) Tryz.pinned.checked.prog 10 Tryz.f10 Rows.execGroupsSpec Rows.execGroupsRow=true:=by kernel_rfl
end Go.Proofs.YtekoaiendgjkdaaGreat.execGroups
