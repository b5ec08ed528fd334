import Derived.SizedLaws
import Derived.Test.YthnbpiejemlbeaaGreatRows
set_option linter.all false
set_option maxRecDepth 100000
namespace Go.Proofs.YthnbpiejemlbeaaGreat.storeAgain
open Go.ChangeShapes Go.WideShapes
theorem iKs:(λ(P:Program) (f:FuncId) (fn:Func) (s:ChangeSpec) (c:OpenClaim)=>((c.inPlace==P.inPlace f):Bool)) Tryz.pinned.checked.prog 8 Tryz.f8 Rows.storeAgainSpec Rows.storeAgainRow=true:=by kernel_rfl
theorem gZh:(λ(P:Program) (f:FuncId) (fn:Func) (s:ChangeSpec) (c:OpenClaim)=>((c.unfollowed==P.unfollowed f):Bool)) Tryz.pinned.checked.prog 8 Tryz.f8 Rows.storeAgainSpec Rows.storeAgainRow=true:=by kernel_rfl
end Go.Proofs.YthnbpiejemlbeaaGreat.storeAgain
