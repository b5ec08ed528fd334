import Derived.SizedLaws
import Derived.Test.YtekoaiendgjkdaaGreatRows
set_option linter.unusedVariables false
set_option linter.unusedSimpArgs false
set_option linter.unusedSectionVars false
set_option maxRecDepth 100000
namespace Go.Proofs.YtekoaiendgjkdaaGreat.execGroups
open Go.ChangeShapes Go.WideShapes
theorem kZY:(fun(P:Program) (f:FuncId) (fn:Func) (s:ChangeSpec) (c:OpenClaim)=>(c.wf (OpenSpec.ofChange s):Bool)) Tryz.pinned.checked.prog 10 Tryz.f10 Rows.execGroupsSpec Rows.execGroupsRow=true:=by kernel_rfl
theorem kZX:(fun(P:Program) (f:FuncId) (fn:Func) (s:ChangeSpec) (c:OpenClaim)=>(laidOutB P:Bool)) Tryz.pinned.checked.prog 10 Tryz.f10 Rows.execGroupsSpec Rows.execGroupsRow=true:=by kernel_rfl
theorem kZW:(fun(P:Program) (f:FuncId) (fn:Func) (s:ChangeSpec) (c:OpenClaim)=>(mapsRowed P:Bool)) Tryz.pinned.checked.prog 10 Tryz.f10 Rows.execGroupsSpec Rows.execGroupsRow=true:=by kernel_rfl
theorem kZV:(fun(P:Program) (f:FuncId) (fn:Func) (s:ChangeSpec) (c:OpenClaim)=>(fn.params.all (P.readableRec ·):Bool)) Tryz.pinned.checked.prog 10 Tryz.f10 Rows.execGroupsSpec Rows.execGroupsRow=true:=by kernel_rfl
theorem kZU:(fun(P:Program) (f:FuncId) (fn:Func) (s:ChangeSpec) (c:OpenClaim)=>(namedTie P c.named s.vars:Bool)) Tryz.pinned.checked.prog 10 Tryz.f10 Rows.execGroupsSpec Rows.execGroupsRow=true:=by kernel_rfl
theorem kZT:(fun(P:Program) (f:FuncId) (fn:Func) (s:ChangeSpec) (c:OpenClaim)=>((c.stops==[]):Bool)) Tryz.pinned.checked.prog 10 Tryz.f10 Rows.execGroupsSpec Rows.execGroupsRow=true:=by kernel_rfl
theorem kZS:(fun(P:Program) (f:FuncId) (fn:Func) (s:ChangeSpec) (c:OpenClaim)=>((P.stops==[]):Bool)) Tryz.pinned.checked.prog 10 Tryz.f10 Rows.execGroupsSpec Rows.execGroupsRow=true:=by kernel_rfl
theorem kZR:(fun(P:Program) (f:FuncId) (fn:Func) (s:ChangeSpec) (c:OpenClaim)=>((c.knobs==[]):Bool)) Tryz.pinned.checked.prog 10 Tryz.f10 Rows.execGroupsSpec Rows.execGroupsRow=true:=by kernel_rfl
theorem kZQ:(fun(P:Program) (f:FuncId) (fn:Func) (s:ChangeSpec) (c:OpenClaim)=>((P.stopKnobs==[]):Bool)) Tryz.pinned.checked.prog 10 Tryz.f10 Rows.execGroupsSpec Rows.execGroupsRow=true:=by kernel_rfl
end Go.Proofs.YtekoaiendgjkdaaGreat.execGroups
