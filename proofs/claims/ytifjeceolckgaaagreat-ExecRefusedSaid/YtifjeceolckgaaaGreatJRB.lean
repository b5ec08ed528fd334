import Derived.SizedLaws
import Derived.Test.YtifjeceolckgaaaGreatRows
set_option linter.all false
set_option maxRecDepth 100000
namespace Go.Proofs.YtifjeceolckgaaaGreat.execRefused
open Go.ChangeShapes Go.WideShapes
theorem kZP:(λ(P:Program) (f:FuncId) (fn:Func) (s:ChangeSpec) (c:OpenClaim)=>((c.inPlace==P.inPlace f):Bool)) Tryz.pinned.checked.prog 3 Tryz.f3 Rows.execRefusedSpec Rows.execRefusedRow=true:=by kernel_rfl
theorem hKL:(λ(P:Program) (f:FuncId) (fn:Func) (s:ChangeSpec) (c:OpenClaim)=>((c.unfollowed==P.unfollowed f):Bool)) Tryz.pinned.checked.prog 3 Tryz.f3 Rows.execRefusedSpec Rows.execRefusedRow=true:=by kernel_rfl
end Go.Proofs.YtifjeceolckgaaaGreat.execRefused
