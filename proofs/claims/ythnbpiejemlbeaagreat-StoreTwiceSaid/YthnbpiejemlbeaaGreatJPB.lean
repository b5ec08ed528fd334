import Derived.SizedLaws
import Derived.Test.YthnbpiejemlbeaaGreatRows
set_option linter.all false
set_option maxRecDepth 100000
namespace Go.Proofs.YthnbpiejemlbeaaGreat.storeTwice
open Go.ChangeShapes Go.WideShapes
theorem iZK:(λ(P:Program) (f:FuncId) (fn:Func) (s:ChangeSpec) (c:OpenClaim)=>((c.inPlace==P.inPlace f):Bool)) Tryz.pinned.checked.prog 7 Tryz.f7 Rows.storeTwiceSpec Rows.storeTwiceRow=true:=by kernel_rfl
theorem gQz:(λ(P:Program) (f:FuncId) (fn:Func) (s:ChangeSpec) (c:OpenClaim)=>((c.unfollowed==P.unfollowed f):Bool)) Tryz.pinned.checked.prog 7 Tryz.f7 Rows.storeTwiceSpec Rows.storeTwiceRow=true:=by kernel_rfl
end Go.Proofs.YthnbpiejemlbeaaGreat.storeTwice
