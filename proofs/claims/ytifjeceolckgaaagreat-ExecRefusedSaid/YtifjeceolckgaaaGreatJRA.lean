import Derived.SizedLaws
import Derived.Test.YtifjeceolckgaaaGreatRows
set_option linter.all false
set_option maxRecDepth 100000
namespace Go.Proofs.YtifjeceolckgaaaGreat.execRefused
open Go.ChangeShapes Go.WideShapes
theorem kZY:(λ(P:Program) (f:FuncId) (fn:Func) (s:ChangeSpec) (c:OpenClaim)=>(c.wf (OpenSpec.ofChange s):Bool)) Tryz.pinned.checked.prog 3 Tryz.f3 Rows.execRefusedSpec Rows.execRefusedRow=true:=by kernel_rfl
theorem kZX:(λ(P:Program) (f:FuncId) (fn:Func) (s:ChangeSpec) (c:OpenClaim)=>(laidOutB P:Bool)) Tryz.pinned.checked.prog 3 Tryz.f3 Rows.execRefusedSpec Rows.execRefusedRow=true:=by kernel_rfl
theorem kZW:(λ(P:Program) (f:FuncId) (fn:Func) (s:ChangeSpec) (c:OpenClaim)=>(mapsRowed P:Bool)) Tryz.pinned.checked.prog 3 Tryz.f3 Rows.execRefusedSpec Rows.execRefusedRow=true:=by kernel_rfl
theorem kZV:(λ(P:Program) (f:FuncId) (fn:Func) (s:ChangeSpec) (c:OpenClaim)=>(fn.params.all (P.readableRec ·):Bool)) Tryz.pinned.checked.prog 3 Tryz.f3 Rows.execRefusedSpec Rows.execRefusedRow=true:=by kernel_rfl
theorem kZU:(λ(P:Program) (f:FuncId) (fn:Func) (s:ChangeSpec) (c:OpenClaim)=>(namedTie P c.named s.vars:Bool)) Tryz.pinned.checked.prog 3 Tryz.f3 Rows.execRefusedSpec Rows.execRefusedRow=true:=by kernel_rfl
theorem kZT:(λ(P:Program) (f:FuncId) (fn:Func) (s:ChangeSpec) (c:OpenClaim)=>((c.stops==[]):Bool)) Tryz.pinned.checked.prog 3 Tryz.f3 Rows.execRefusedSpec Rows.execRefusedRow=true:=by kernel_rfl
theorem kZS:(λ(P:Program) (f:FuncId) (fn:Func) (s:ChangeSpec) (c:OpenClaim)=>((P.stops==[]):Bool)) Tryz.pinned.checked.prog 3 Tryz.f3 Rows.execRefusedSpec Rows.execRefusedRow=true:=by kernel_rfl
theorem kZR:(λ(P:Program) (f:FuncId) (fn:Func) (s:ChangeSpec) (c:OpenClaim)=>((c.knobs==[]):Bool)) Tryz.pinned.checked.prog 3 Tryz.f3 Rows.execRefusedSpec Rows.execRefusedRow=true:=by kernel_rfl
theorem kZQ:(λ(P:Program) (f:FuncId) (fn:Func) (s:ChangeSpec) (c:OpenClaim)=>((P.stopKnobs==[]):Bool)) Tryz.pinned.checked.prog 3 Tryz.f3 Rows.execRefusedSpec Rows.execRefusedRow=true:=by kernel_rfl
end Go.Proofs.YtifjeceolckgaaaGreat.execRefused
