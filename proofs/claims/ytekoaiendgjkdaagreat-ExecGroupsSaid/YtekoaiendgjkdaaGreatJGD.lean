import Derived.SizedLaws
import Derived.Test.YtekoaiendgjkdaaGreatRows
set_option linter.unusedVariables false
set_option linter.unusedSimpArgs false
set_option linter.unusedSectionVars false
set_option maxRecDepth 100000
namespace Go.Proofs.YtekoaiendgjkdaaGreat.execGroups
open Go.ChangeShapes Go.WideShapes
theorem hKH:(fun(P:Program) (f:FuncId) (fn:Func) (s:ChangeSpec) (c:OpenClaim)=>((c.maps==(fn.params.toList++s.plain.varTypes P).any (P.mapsRec ·)):Bool)) Tryz.pinned.checked.prog 10 Tryz.f10 Rows.execGroupsSpec Rows.execGroupsRow=true:=by kernel_rfl
theorem hKG:(fun(P:Program) (f:FuncId) (fn:Func) (s:ChangeSpec) (c:OpenClaim)=>((c.ifaces==(fn.params.toList++s.plain.varTypes P).any (P.ifacesRec ·)):Bool)) Tryz.pinned.checked.prog 10 Tryz.f10 Rows.execGroupsSpec Rows.execGroupsRow=true:=by kernel_rfl
theorem hKF:(fun(P:Program) (f:FuncId) (fn:Func) (s:ChangeSpec) (c:OpenClaim)=>((c.mapsOut==P.mapsAmong fn.resultTypes.toList):Bool)) Tryz.pinned.checked.prog 10 Tryz.f10 Rows.execGroupsSpec Rows.execGroupsRow=true:=by kernel_rfl
theorem hKE:(fun(P:Program) (f:FuncId) (fn:Func) (s:ChangeSpec) (c:OpenClaim)=>((c.loops==(fn.params.toList++s.plain.varTypes P).any (P.loopsFrom ·)):Bool)) Tryz.pinned.checked.prog 10 Tryz.f10 Rows.execGroupsSpec Rows.execGroupsRow=true:=by kernel_rfl
theorem hKD:(fun(P:Program) (f:FuncId) (fn:Func) (s:ChangeSpec) (c:OpenClaim)=>((c.wideKeys==(fn.params.toList++s.plain.varTypes P++fn.resultTypes.toList).any (P.wideKeysFrom ·)):Bool)) Tryz.pinned.checked.prog 10 Tryz.f10 Rows.execGroupsSpec Rows.execGroupsRow=true:=by kernel_rfl
theorem hKC:(fun(P:Program) (f:FuncId) (fn:Func) (s:ChangeSpec) (c:OpenClaim)=>(s.vars.all (P.varReadable ·):Bool)) Tryz.pinned.checked.prog 10 Tryz.f10 Rows.execGroupsSpec Rows.execGroupsRow=true:=by kernel_rfl
theorem hKB:(fun(P:Program) (f:FuncId) (fn:Func) (s:ChangeSpec) (c:OpenClaim)=>(fn.resultTypes.all (fun t=>P.readableRec t&&decide (t<P.types.size)):Bool)) Tryz.pinned.checked.prog 10 Tryz.f10 Rows.execGroupsSpec Rows.execGroupsRow=true:=by kernel_rfl
theorem hKA:(fun(P:Program) (f:FuncId) (fn:Func) (s:ChangeSpec) (c:OpenClaim)=>((c.ifacesOut==fn.resultTypes.toList.any (P.ifacesRec ·)):Bool)) Tryz.pinned.checked.prog 10 Tryz.f10 Rows.execGroupsSpec Rows.execGroupsRow=true:=by kernel_rfl
theorem hKz:(fun(P:Program) (f:FuncId) (fn:Func) (s:ChangeSpec) (c:OpenClaim)=>((c.loopsOut==fn.resultTypes.toList.any (P.loopsFrom ·)):Bool)) Tryz.pinned.checked.prog 10 Tryz.f10 Rows.execGroupsSpec Rows.execGroupsRow=true:=by kernel_rfl
theorem hKy:(fun(P:Program) (f:FuncId) (fn:Func) (s:ChangeSpec) (c:OpenClaim)=>((c.plainKeys==P.plainKeys):Bool)) Tryz.pinned.checked.prog 10 Tryz.f10 Rows.execGroupsSpec Rows.execGroupsRow=true:=by kernel_rfl
theorem hKx:(fun(P:Program) (f:FuncId) (fn:Func) (s:ChangeSpec) (c:OpenClaim)=>(c.shortTexts.isNone:Bool)) Tryz.pinned.checked.prog 10 Tryz.f10 Rows.execGroupsSpec Rows.execGroupsRow=true:=by kernel_rfl
theorem hKw:(fun(P:Program) (f:FuncId) (fn:Func) (s:ChangeSpec) (c:OpenClaim)=>(P.stopsHeard:Bool)) Tryz.pinned.checked.prog 10 Tryz.f10 Rows.execGroupsSpec Rows.execGroupsRow=true:=by kernel_rfl
theorem hKv:(fun(P:Program) (f:FuncId) (fn:Func) (s:ChangeSpec) (c:OpenClaim)=>(P.mayEnter:Bool)) Tryz.pinned.checked.prog 10 Tryz.f10 Rows.execGroupsSpec Rows.execGroupsRow=true:=by kernel_rfl
theorem hKu:(fun(P:Program) (f:FuncId) (fn:Func) (s:ChangeSpec) (c:OpenClaim)=>((c.lifted==P.liftsFinal):Bool)) Tryz.pinned.checked.prog 10 Tryz.f10 Rows.execGroupsSpec Rows.execGroupsRow=true:=by kernel_rfl
theorem hKt:(fun(P:Program) (f:FuncId) (fn:Func) (s:ChangeSpec) (c:OpenClaim)=>((P.make==some c.make):Bool)) Tryz.pinned.checked.prog 10 Tryz.f10 Rows.execGroupsSpec Rows.execGroupsRow=true:=by kernel_rfl
theorem hKs:(fun(P:Program) (f:FuncId) (fn:Func) (s:ChangeSpec) (c:OpenClaim)=>((c.kinds==(if c.domain.isEmpty then []else fn.params.toList.map fun t=>match P.underlying t with|some (.int k)=>some k|_=>none)):Bool)) Tryz.pinned.checked.prog 10 Tryz.f10 Rows.execGroupsSpec Rows.execGroupsRow=true:=by kernel_rfl
theorem hKr:(fun(P:Program) (f:FuncId) (fn:Func) (s:ChangeSpec) (c:OpenClaim)=>((c.pinned==c.pinnedBy):Bool)) Tryz.pinned.checked.prog 10 Tryz.f10 Rows.execGroupsSpec Rows.execGroupsRow=true:=by kernel_rfl
theorem hKq:(fun(P:Program) (f:FuncId) (fn:Func) (s:ChangeSpec) (c:OpenClaim)=>((c.veiled==(fn.params.toList++s.plain.varTypes P++fn.resultTypes.toList).any (P.veiledRec ·)):Bool)) Tryz.pinned.checked.prog 10 Tryz.f10 Rows.execGroupsSpec Rows.execGroupsRow=true:=by kernel_rfl
theorem hKo:(fun(P:Program) (f:FuncId) (fn:Func) (s:ChangeSpec) (c:OpenClaim)=>(c.veiledFits P fn.params.toList (fn.params.toList++s.plain.varTypes P++fn.resultTypes.toList):Bool)) Tryz.pinned.checked.prog 10 Tryz.f10 Rows.execGroupsSpec Rows.execGroupsRow=true:=by kernel_rfl
end Go.Proofs.YtekoaiendgjkdaaGreat.execGroups
