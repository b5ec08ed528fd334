import Derived.SizedLaws
import Derived.Test.YthnbpiejemlbeaaGreatRows
set_option linter.all false
set_option maxRecDepth 100000
namespace Go.Proofs.YthnbpiejemlbeaaGreat.storeAgain
open Go.ChangeShapes Go.WideShapes
theorem gZe:(λ(P:Program) (f:FuncId) (fn:Func) (s:ChangeSpec) (c:OpenClaim)=>((c.maps==(fn.params.toList++s.plain.varTypes P).any (P.mapsRec ·)):Bool)) Tryz.pinned.checked.prog 8 Tryz.f8 Rows.storeAgainSpec Rows.storeAgainRow=true:=by kernel_rfl
theorem gZd:(λ(P:Program) (f:FuncId) (fn:Func) (s:ChangeSpec) (c:OpenClaim)=>((c.ifaces==(fn.params.toList++s.plain.varTypes P).any (P.ifacesRec ·)):Bool)) Tryz.pinned.checked.prog 8 Tryz.f8 Rows.storeAgainSpec Rows.storeAgainRow=true:=by kernel_rfl
theorem gZc:(λ(P:Program) (f:FuncId) (fn:Func) (s:ChangeSpec) (c:OpenClaim)=>((c.mapsOut==P.mapsAmong fn.resultTypes.toList):Bool)) Tryz.pinned.checked.prog 8 Tryz.f8 Rows.storeAgainSpec Rows.storeAgainRow=true:=by kernel_rfl
theorem gZb:(λ(P:Program) (f:FuncId) (fn:Func) (s:ChangeSpec) (c:OpenClaim)=>((c.loops==(fn.params.toList++s.plain.varTypes P).any (P.loopsFrom ·)):Bool)) Tryz.pinned.checked.prog 8 Tryz.f8 Rows.storeAgainSpec Rows.storeAgainRow=true:=by kernel_rfl
theorem gZa:(λ(P:Program) (f:FuncId) (fn:Func) (s:ChangeSpec) (c:OpenClaim)=>((c.wideKeys==(fn.params.toList++s.plain.varTypes P++fn.resultTypes.toList).any (P.wideKeysFrom ·)):Bool)) Tryz.pinned.checked.prog 8 Tryz.f8 Rows.storeAgainSpec Rows.storeAgainRow=true:=by kernel_rfl
theorem gXZ:(λ(P:Program) (f:FuncId) (fn:Func) (s:ChangeSpec) (c:OpenClaim)=>(s.vars.all (P.varReadable ·):Bool)) Tryz.pinned.checked.prog 8 Tryz.f8 Rows.storeAgainSpec Rows.storeAgainRow=true:=by kernel_rfl
theorem gXY:(λ(P:Program) (f:FuncId) (fn:Func) (s:ChangeSpec) (c:OpenClaim)=>(fn.resultTypes.all (λt=>P.readableRec t&&decide (t<P.types.size)):Bool)) Tryz.pinned.checked.prog 8 Tryz.f8 Rows.storeAgainSpec Rows.storeAgainRow=true:=by kernel_rfl
theorem gXX:(λ(P:Program) (f:FuncId) (fn:Func) (s:ChangeSpec) (c:OpenClaim)=>((c.ifacesOut==fn.resultTypes.toList.any (P.ifacesRec ·)):Bool)) Tryz.pinned.checked.prog 8 Tryz.f8 Rows.storeAgainSpec Rows.storeAgainRow=true:=by kernel_rfl
theorem gXW:(λ(P:Program) (f:FuncId) (fn:Func) (s:ChangeSpec) (c:OpenClaim)=>((c.loopsOut==fn.resultTypes.toList.any (P.loopsFrom ·)):Bool)) Tryz.pinned.checked.prog 8 Tryz.f8 Rows.storeAgainSpec Rows.storeAgainRow=true:=by kernel_rfl
theorem gXV:(λ(P:Program) (f:FuncId) (fn:Func) (s:ChangeSpec) (c:OpenClaim)=>((c.plainKeys==P.plainKeys):Bool)) Tryz.pinned.checked.prog 8 Tryz.f8 Rows.storeAgainSpec Rows.storeAgainRow=true:=by kernel_rfl
theorem gXU:(λ(P:Program) (f:FuncId) (fn:Func) (s:ChangeSpec) (c:OpenClaim)=>(c.shortTexts.isNone:Bool)) Tryz.pinned.checked.prog 8 Tryz.f8 Rows.storeAgainSpec Rows.storeAgainRow=true:=by kernel_rfl
theorem gXT:(λ(P:Program) (f:FuncId) (fn:Func) (s:ChangeSpec) (c:OpenClaim)=>(P.stopsHeard:Bool)) Tryz.pinned.checked.prog 8 Tryz.f8 Rows.storeAgainSpec Rows.storeAgainRow=true:=by kernel_rfl
theorem gXS:(λ(P:Program) (f:FuncId) (fn:Func) (s:ChangeSpec) (c:OpenClaim)=>(P.mayEnter:Bool)) Tryz.pinned.checked.prog 8 Tryz.f8 Rows.storeAgainSpec Rows.storeAgainRow=true:=by kernel_rfl
theorem gXR:(λ(P:Program) (f:FuncId) (fn:Func) (s:ChangeSpec) (c:OpenClaim)=>((c.lifted==P.liftsFinal):Bool)) Tryz.pinned.checked.prog 8 Tryz.f8 Rows.storeAgainSpec Rows.storeAgainRow=true:=by kernel_rfl
theorem gXQ:(λ(P:Program) (f:FuncId) (fn:Func) (s:ChangeSpec) (c:OpenClaim)=>((P.make==some c.make):Bool)) Tryz.pinned.checked.prog 8 Tryz.f8 Rows.storeAgainSpec Rows.storeAgainRow=true:=by kernel_rfl
theorem gXP:(λ(P:Program) (f:FuncId) (fn:Func) (s:ChangeSpec) (c:OpenClaim)=>((c.kinds==(if c.domain.isEmpty then []else fn.params.toList.map λt=>match P.underlying t with|some (.int k)=>some k|_=>none)):Bool)) Tryz.pinned.checked.prog 8 Tryz.f8 Rows.storeAgainSpec Rows.storeAgainRow=true:=by kernel_rfl
theorem gXO:(λ(P:Program) (f:FuncId) (fn:Func) (s:ChangeSpec) (c:OpenClaim)=>((c.pinned==c.pinnedBy):Bool)) Tryz.pinned.checked.prog 8 Tryz.f8 Rows.storeAgainSpec Rows.storeAgainRow=true:=by kernel_rfl
theorem gXN:(λ(P:Program) (f:FuncId) (fn:Func) (s:ChangeSpec) (c:OpenClaim)=>((c.veiled==(fn.params.toList++s.plain.varTypes P++fn.resultTypes.toList).any (P.veiledRec ·)):Bool)) Tryz.pinned.checked.prog 8 Tryz.f8 Rows.storeAgainSpec Rows.storeAgainRow=true:=by kernel_rfl
theorem gXM:(λ(P:Program) (f:FuncId) (fn:Func) (s:ChangeSpec) (c:OpenClaim)=>(c.veiledFits P fn.params.toList (fn.params.toList++s.plain.varTypes P++fn.resultTypes.toList):Bool)) Tryz.pinned.checked.prog 8 Tryz.f8 Rows.storeAgainSpec Rows.storeAgainRow=true:=by kernel_rfl
end Go.Proofs.YthnbpiejemlbeaaGreat.storeAgain
