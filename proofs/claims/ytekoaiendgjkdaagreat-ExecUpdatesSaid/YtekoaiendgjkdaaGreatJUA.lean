import Derived.SizedLaws
import Derived.Test.YtekoaiendgjkdaaGreatRows
set_option linter.unusedVariables false
set_option linter.unusedSimpArgs false
set_option linter.unusedSectionVars false
set_option maxRecDepth 100000
namespace Go.Proofs.YtekoaiendgjkdaaGreat.execUpdates
open Go.ChangeShapes Go.WideShapes
theorem jf0:(fun(P:Program) (f:FuncId) (fn:Func) (s:ChangeSpec) (c:OpenClaim)=>(c.wf (OpenSpec.ofChange s):Bool)) Tryz.pinned.checked.prog 7 Tryz.f7 Rows.execUpdatesSpec Rows.execUpdatesRow=true:=by kernel_rfl
theorem jf1:(fun(P:Program) (f:FuncId) (fn:Func) (s:ChangeSpec) (c:OpenClaim)=>(laidOutB P:Bool)) Tryz.pinned.checked.prog 7 Tryz.f7 Rows.execUpdatesSpec Rows.execUpdatesRow=true:=by kernel_rfl
theorem jf2:(fun(P:Program) (f:FuncId) (fn:Func) (s:ChangeSpec) (c:OpenClaim)=>(mapsRowed P:Bool)) Tryz.pinned.checked.prog 7 Tryz.f7 Rows.execUpdatesSpec Rows.execUpdatesRow=true:=by kernel_rfl
theorem jf3:(fun(P:Program) (f:FuncId) (fn:Func) (s:ChangeSpec) (c:OpenClaim)=>(fn.params.all (P.readableRec ·):Bool)) Tryz.pinned.checked.prog 7 Tryz.f7 Rows.execUpdatesSpec Rows.execUpdatesRow=true:=by kernel_rfl
theorem jf4:(fun(P:Program) (f:FuncId) (fn:Func) (s:ChangeSpec) (c:OpenClaim)=>(namedTie P c.named s.vars:Bool)) Tryz.pinned.checked.prog 7 Tryz.f7 Rows.execUpdatesSpec Rows.execUpdatesRow=true:=by kernel_rfl
theorem jf5:(fun(P:Program) (f:FuncId) (fn:Func) (s:ChangeSpec) (c:OpenClaim)=>((c.stops==[]):Bool)) Tryz.pinned.checked.prog 7 Tryz.f7 Rows.execUpdatesSpec Rows.execUpdatesRow=true:=by kernel_rfl
theorem jf6:(fun(P:Program) (f:FuncId) (fn:Func) (s:ChangeSpec) (c:OpenClaim)=>((P.stops==[]):Bool)) Tryz.pinned.checked.prog 7 Tryz.f7 Rows.execUpdatesSpec Rows.execUpdatesRow=true:=by kernel_rfl
theorem jf7:(fun(P:Program) (f:FuncId) (fn:Func) (s:ChangeSpec) (c:OpenClaim)=>((c.knobs==[]):Bool)) Tryz.pinned.checked.prog 7 Tryz.f7 Rows.execUpdatesSpec Rows.execUpdatesRow=true:=by kernel_rfl
theorem jf8:(fun(P:Program) (f:FuncId) (fn:Func) (s:ChangeSpec) (c:OpenClaim)=>((P.stopKnobs==[]):Bool)) Tryz.pinned.checked.prog 7 Tryz.f7 Rows.execUpdatesSpec Rows.execUpdatesRow=true:=by kernel_rfl
end Go.Proofs.YtekoaiendgjkdaaGreat.execUpdates
