import Derived.SizedLaws
import Derived.Test.YtifjeceolckgaaaGreatRows
set_option linter.all false
set_option maxRecDepth 100000
namespace Go.Proofs.YtifjeceolckgaaaGreat.execSaves
open Go.ChangeShapes Go.WideShapes
theorem hKK:(λ(P:Program) (f:FuncId) (fn:Func) (s:ChangeSpec) (c:OpenClaim)=>((c.recurses==P.recurses f):Bool)) Tryz.pinned.checked.prog 4 Tryz.f4 Rows.execSavesSpec Rows.execSavesRow=true:=by kernel_rfl
theorem hKI:(λ(P:Program) (f:FuncId) (fn:Func) (s:ChangeSpec) (c:OpenClaim)=>((c.named==P.varsNamed f):Bool)) Tryz.pinned.checked.prog 4 Tryz.f4 Rows.execSavesSpec Rows.execSavesRow=true:=by kernel_rfl
end Go.Proofs.YtifjeceolckgaaaGreat.execSaves
