import Derived.SizedLaws
import Derived.Test.YtekoaiendgjkdaaGreatRows
set_option linter.unusedVariables false
set_option linter.unusedSimpArgs false
set_option linter.unusedSectionVars false
set_option maxRecDepth 100000
namespace Go.Proofs.YtekoaiendgjkdaaGreat.execGroups
open Go.ChangeShapes Go.WideShapes
theorem kZP:(fun(P:Program) (f:FuncId) (fn:Func) (s:ChangeSpec) (c:OpenClaim)=>((c.inPlace==P.inPlace f):Bool)) Tryz.pinned.checked.prog 10 Tryz.f10 Rows.execGroupsSpec Rows.execGroupsRow=true:=by kernel_rfl
theorem hKL:(fun(P:Program) (f:FuncId) (fn:Func) (s:ChangeSpec) (c:OpenClaim)=>((c.unfollowed==P.unfollowed f):Bool)) Tryz.pinned.checked.prog 10 Tryz.f10 Rows.execGroupsSpec Rows.execGroupsRow=true:=by kernel_rfl
end Go.Proofs.YtekoaiendgjkdaaGreat.execGroups
