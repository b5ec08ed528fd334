import Derived.SizedLaws
import Derived.Test.YtekoaiendgjkdaaGreatRows
set_option linter.unusedVariables false
set_option linter.unusedSimpArgs false
set_option linter.unusedSectionVars false
set_option maxRecDepth 100000
namespace Go.Proofs.YtekoaiendgjkdaaGreat.execUpdates
open Go.ChangeShapes Go.WideShapes
theorem Ug:(fun(P:Program) (f:FuncId) (fn:Func) (s:ChangeSpec) (c:OpenClaim)=>((c.maps==(fn.params.toList++s.plain.varTypes P).any (P.mapsRec ·)):Bool)) Tryz.pinned.checked.prog 7 Tryz.f7 Rows.execUpdatesSpec Rows.execUpdatesRow=true:=by kernel_rfl
theorem Uf:(fun(P:Program) (f:FuncId) (fn:Func) (s:ChangeSpec) (c:OpenClaim)=>((c.ifaces==(fn.params.toList++s.plain.varTypes P).any (P.ifacesRec ·)):Bool)) Tryz.pinned.checked.prog 7 Tryz.f7 Rows.execUpdatesSpec Rows.execUpdatesRow=true:=by kernel_rfl
theorem Ue:(fun(P:Program) (f:FuncId) (fn:Func) (s:ChangeSpec) (c:OpenClaim)=>((c.mapsOut==P.mapsAmong fn.resultTypes.toList):Bool)) Tryz.pinned.checked.prog 7 Tryz.f7 Rows.execUpdatesSpec Rows.execUpdatesRow=true:=by kernel_rfl
theorem Ud:(fun(P:Program) (f:FuncId) (fn:Func) (s:ChangeSpec) (c:OpenClaim)=>((c.loops==(fn.params.toList++s.plain.varTypes P).any (P.loopsFrom ·)):Bool)) Tryz.pinned.checked.prog 7 Tryz.f7 Rows.execUpdatesSpec Rows.execUpdatesRow=true:=by kernel_rfl
theorem Uc:(fun(P:Program) (f:FuncId) (fn:Func) (s:ChangeSpec) (c:OpenClaim)=>((c.wideKeys==(fn.params.toList++s.plain.varTypes P++fn.resultTypes.toList).any (P.wideKeysFrom ·)):Bool)) Tryz.pinned.checked.prog 7 Tryz.f7 Rows.execUpdatesSpec Rows.execUpdatesRow=true:=by kernel_rfl
theorem Ub:(fun(P:Program) (f:FuncId) (fn:Func) (s:ChangeSpec) (c:OpenClaim)=>(s.vars.all (P.varReadable ·):Bool)) Tryz.pinned.checked.prog 7 Tryz.f7 Rows.execUpdatesSpec Rows.execUpdatesRow=true:=by kernel_rfl
theorem Ua:(fun(P:Program) (f:FuncId) (fn:Func) (s:ChangeSpec) (c:OpenClaim)=>(fn.resultTypes.all (fun t=>P.readableRec t&&decide (t<P.types.size)):Bool)) Tryz.pinned.checked.prog 7 Tryz.f7 Rows.execUpdatesSpec Rows.execUpdatesRow=true:=by kernel_rfl
theorem TZ:(fun(P:Program) (f:FuncId) (fn:Func) (s:ChangeSpec) (c:OpenClaim)=>((c.ifacesOut==fn.resultTypes.toList.any (P.ifacesRec ·)):Bool)) Tryz.pinned.checked.prog 7 Tryz.f7 Rows.execUpdatesSpec Rows.execUpdatesRow=true:=by kernel_rfl
theorem TY:(fun(P:Program) (f:FuncId) (fn:Func) (s:ChangeSpec) (c:OpenClaim)=>((c.loopsOut==fn.resultTypes.toList.any (P.loopsFrom ·)):Bool)) Tryz.pinned.checked.prog 7 Tryz.f7 Rows.execUpdatesSpec Rows.execUpdatesRow=true:=by kernel_rfl
theorem TX:(fun(P:Program) (f:FuncId) (fn:Func) (s:ChangeSpec) (c:OpenClaim)=>((c.plainKeys==P.plainKeys):Bool)) Tryz.pinned.checked.prog 7 Tryz.f7 Rows.execUpdatesSpec Rows.execUpdatesRow=true:=by kernel_rfl
theorem TV:(fun(P:Program) (f:FuncId) (fn:Func) (s:ChangeSpec) (c:OpenClaim)=>(c.shortTexts.isNone:Bool)) Tryz.pinned.checked.prog 7 Tryz.f7 Rows.execUpdatesSpec Rows.execUpdatesRow=true:=by kernel_rfl
theorem TU:(fun(P:Program) (f:FuncId) (fn:Func) (s:ChangeSpec) (c:OpenClaim)=>(P.stopsHeard:Bool)) Tryz.pinned.checked.prog 7 Tryz.f7 Rows.execUpdatesSpec Rows.execUpdatesRow=true:=by kernel_rfl
theorem TS:(fun(P:Program) (f:FuncId) (fn:Func) (s:ChangeSpec) (c:OpenClaim)=>(P.mayEnter:Bool)) Tryz.pinned.checked.prog 7 Tryz.f7 Rows.execUpdatesSpec Rows.execUpdatesRow=true:=by kernel_rfl
theorem TR:(fun(P:Program) (f:FuncId) (fn:Func) (s:ChangeSpec) (c:OpenClaim)=>((c.lifted==P.liftsFinal):Bool)) Tryz.pinned.checked.prog 7 Tryz.f7 Rows.execUpdatesSpec Rows.execUpdatesRow=true:=by kernel_rfl
theorem TQ:(fun(P:Program) (f:FuncId) (fn:Func) (s:ChangeSpec) (c:OpenClaim)=>((P.make==some c.make):Bool)) Tryz.pinned.checked.prog 7 Tryz.f7 Rows.execUpdatesSpec Rows.execUpdatesRow=true:=by kernel_rfl
theorem TP:(fun(P:Program) (f:FuncId) (fn:Func) (s:ChangeSpec) (c:OpenClaim)=>((c.kinds==(if c.domain.isEmpty then []else fn.params.toList.map fun t=>match P.underlying t with|some (.int k)=>some k|_=>none)):Bool)) Tryz.pinned.checked.prog 7 Tryz.f7 Rows.execUpdatesSpec Rows.execUpdatesRow=true:=by kernel_rfl
theorem TO:(fun(P:Program) (f:FuncId) (fn:Func) (s:ChangeSpec) (c:OpenClaim)=>((c.pinned==c.pinnedBy):Bool)) Tryz.pinned.checked.prog 7 Tryz.f7 Rows.execUpdatesSpec Rows.execUpdatesRow=true:=by kernel_rfl
theorem TN:(fun(P:Program) (f:FuncId) (fn:Func) (s:ChangeSpec) (c:OpenClaim)=>((c.veiled==(fn.params.toList++s.plain.varTypes P++fn.resultTypes.toList).any (P.veiledRec ·)):Bool)) Tryz.pinned.checked.prog 7 Tryz.f7 Rows.execUpdatesSpec Rows.execUpdatesRow=true:=by kernel_rfl
theorem TM:(fun(P:Program) (f:FuncId) (fn:Func) (s:ChangeSpec) (c:OpenClaim)=>(c.veiledFits P fn.params.toList (fn.params.toList++s.plain.varTypes P++fn.resultTypes.toList):Bool)) Tryz.pinned.checked.prog 7 Tryz.f7 Rows.execUpdatesSpec Rows.execUpdatesRow=true:=by kernel_rfl
end Go.Proofs.YtekoaiendgjkdaaGreat.execUpdates
