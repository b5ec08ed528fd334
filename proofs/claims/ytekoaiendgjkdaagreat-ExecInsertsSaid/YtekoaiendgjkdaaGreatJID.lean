import Derived.SizedLaws
import Derived.Test.YtekoaiendgjkdaaGreatRows
set_option linter.unusedVariables false
set_option linter.unusedSimpArgs false
set_option linter.unusedSectionVars false
set_option maxRecDepth 100000
namespace Go.Proofs.YtekoaiendgjkdaaGreat.execInserts
open Go.ChangeShapes Go.WideShapes
theorem jf13:(fun(P:Program) (f:FuncId) (fn:Func) (s:ChangeSpec) (c:OpenClaim)=>((c.maps==(fn.params.toList++s.plain.varTypes P).any (P.mapsRec ·)):Bool)) Tryz.pinned.checked.prog 8 Tryz.f8 Rows.execInsertsSpec Rows.execInsertsRow=true:=by kernel_rfl
theorem jf14:(fun(P:Program) (f:FuncId) (fn:Func) (s:ChangeSpec) (c:OpenClaim)=>((c.ifaces==(fn.params.toList++s.plain.varTypes P).any (P.ifacesRec ·)):Bool)) Tryz.pinned.checked.prog 8 Tryz.f8 Rows.execInsertsSpec Rows.execInsertsRow=true:=by kernel_rfl
theorem jf15:(fun(P:Program) (f:FuncId) (fn:Func) (s:ChangeSpec) (c:OpenClaim)=>((c.mapsOut==P.mapsAmong fn.resultTypes.toList):Bool)) Tryz.pinned.checked.prog 8 Tryz.f8 Rows.execInsertsSpec Rows.execInsertsRow=true:=by kernel_rfl
theorem jf16:(fun(P:Program) (f:FuncId) (fn:Func) (s:ChangeSpec) (c:OpenClaim)=>((c.loops==(fn.params.toList++s.plain.varTypes P).any (P.loopsFrom ·)):Bool)) Tryz.pinned.checked.prog 8 Tryz.f8 Rows.execInsertsSpec Rows.execInsertsRow=true:=by kernel_rfl
theorem jf17:(fun(P:Program) (f:FuncId) (fn:Func) (s:ChangeSpec) (c:OpenClaim)=>((c.wideKeys==(fn.params.toList++s.plain.varTypes P++fn.resultTypes.toList).any (P.wideKeysFrom ·)):Bool)) Tryz.pinned.checked.prog 8 Tryz.f8 Rows.execInsertsSpec Rows.execInsertsRow=true:=by kernel_rfl
theorem jf18:(fun(P:Program) (f:FuncId) (fn:Func) (s:ChangeSpec) (c:OpenClaim)=>(s.vars.all (P.varReadable ·):Bool)) Tryz.pinned.checked.prog 8 Tryz.f8 Rows.execInsertsSpec Rows.execInsertsRow=true:=by kernel_rfl
theorem jf19:(fun(P:Program) (f:FuncId) (fn:Func) (s:ChangeSpec) (c:OpenClaim)=>(fn.resultTypes.all (fun t=>P.readableRec t&&decide (t<P.types.size)):Bool)) Tryz.pinned.checked.prog 8 Tryz.f8 Rows.execInsertsSpec Rows.execInsertsRow=true:=by kernel_rfl
theorem jf20:(fun(P:Program) (f:FuncId) (fn:Func) (s:ChangeSpec) (c:OpenClaim)=>((c.ifacesOut==fn.resultTypes.toList.any (P.ifacesRec ·)):Bool)) Tryz.pinned.checked.prog 8 Tryz.f8 Rows.execInsertsSpec Rows.execInsertsRow=true:=by kernel_rfl
theorem jf21:(fun(P:Program) (f:FuncId) (fn:Func) (s:ChangeSpec) (c:OpenClaim)=>((c.loopsOut==fn.resultTypes.toList.any (P.loopsFrom ·)):Bool)) Tryz.pinned.checked.prog 8 Tryz.f8 Rows.execInsertsSpec Rows.execInsertsRow=true:=by kernel_rfl
theorem jf22:(fun(P:Program) (f:FuncId) (fn:Func) (s:ChangeSpec) (c:OpenClaim)=>((c.plainKeys==P.plainKeys):Bool)) Tryz.pinned.checked.prog 8 Tryz.f8 Rows.execInsertsSpec Rows.execInsertsRow=true:=by kernel_rfl
theorem jf23:(fun(P:Program) (f:FuncId) (fn:Func) (s:ChangeSpec) (c:OpenClaim)=>(c.shortTexts.isNone:Bool)) Tryz.pinned.checked.prog 8 Tryz.f8 Rows.execInsertsSpec Rows.execInsertsRow=true:=by kernel_rfl
theorem jf24:(fun(P:Program) (f:FuncId) (fn:Func) (s:ChangeSpec) (c:OpenClaim)=>(P.stopsHeard:Bool)) Tryz.pinned.checked.prog 8 Tryz.f8 Rows.execInsertsSpec Rows.execInsertsRow=true:=by kernel_rfl
theorem jf25:(fun(P:Program) (f:FuncId) (fn:Func) (s:ChangeSpec) (c:OpenClaim)=>(P.mayEnter:Bool)) Tryz.pinned.checked.prog 8 Tryz.f8 Rows.execInsertsSpec Rows.execInsertsRow=true:=by kernel_rfl
theorem jf26:(fun(P:Program) (f:FuncId) (fn:Func) (s:ChangeSpec) (c:OpenClaim)=>((c.lifted==P.liftsFinal):Bool)) Tryz.pinned.checked.prog 8 Tryz.f8 Rows.execInsertsSpec Rows.execInsertsRow=true:=by kernel_rfl
theorem jf27:(fun(P:Program) (f:FuncId) (fn:Func) (s:ChangeSpec) (c:OpenClaim)=>((P.make==some c.make):Bool)) Tryz.pinned.checked.prog 8 Tryz.f8 Rows.execInsertsSpec Rows.execInsertsRow=true:=by kernel_rfl
theorem jf28:(fun(P:Program) (f:FuncId) (fn:Func) (s:ChangeSpec) (c:OpenClaim)=>((c.kinds==(if c.domain.isEmpty then []else fn.params.toList.map fun t=>match P.underlying t with|some (.int k)=>some k|_=>none)):Bool)) Tryz.pinned.checked.prog 8 Tryz.f8 Rows.execInsertsSpec Rows.execInsertsRow=true:=by kernel_rfl
theorem jf29:(fun(P:Program) (f:FuncId) (fn:Func) (s:ChangeSpec) (c:OpenClaim)=>((c.pinned==c.pinnedBy):Bool)) Tryz.pinned.checked.prog 8 Tryz.f8 Rows.execInsertsSpec Rows.execInsertsRow=true:=by kernel_rfl
theorem jf30:(fun(P:Program) (f:FuncId) (fn:Func) (s:ChangeSpec) (c:OpenClaim)=>((c.veiled==(fn.params.toList++s.plain.varTypes P++fn.resultTypes.toList).any (P.veiledRec ·)):Bool)) Tryz.pinned.checked.prog 8 Tryz.f8 Rows.execInsertsSpec Rows.execInsertsRow=true:=by kernel_rfl
theorem jf31:(fun(P:Program) (f:FuncId) (fn:Func) (s:ChangeSpec) (c:OpenClaim)=>(c.veiledFits P fn.params.toList (fn.params.toList++s.plain.varTypes P++fn.resultTypes.toList):Bool)) Tryz.pinned.checked.prog 8 Tryz.f8 Rows.execInsertsSpec Rows.execInsertsRow=true:=by kernel_rfl
end Go.Proofs.YtekoaiendgjkdaaGreat.execInserts
