import Derived.SizedLaws
import Derived.Test.YthnbpiejemlbeaaGreatRows
set_option linter.all false
set_option maxRecDepth 100000
namespace Go.Proofs.YthnbpiejemlbeaaGreat.storeTwice
open Go.ChangeShapes Go.WideShapes
theorem iZT:(λ(P:Program) (f:FuncId) (fn:Func) (s:ChangeSpec) (c:OpenClaim)=>(c.wf (OpenSpec.ofChange s):Bool)) Tryz.pinned.checked.prog 7 Tryz.f7 Rows.storeTwiceSpec Rows.storeTwiceRow=true:=by kernel_rfl
theorem iZS:(λ(P:Program) (f:FuncId) (fn:Func) (s:ChangeSpec) (c:OpenClaim)=>(laidOutB P:Bool)) Tryz.pinned.checked.prog 7 Tryz.f7 Rows.storeTwiceSpec Rows.storeTwiceRow=true:=by kernel_rfl
theorem iZR:(λ(P:Program) (f:FuncId) (fn:Func) (s:ChangeSpec) (c:OpenClaim)=>(mapsRowed P:Bool)) Tryz.pinned.checked.prog 7 Tryz.f7 Rows.storeTwiceSpec Rows.storeTwiceRow=true:=by kernel_rfl
theorem iZQ:(λ(P:Program) (f:FuncId) (fn:Func) (s:ChangeSpec) (c:OpenClaim)=>(fn.params.all (P.readableRec ·):Bool)) Tryz.pinned.checked.prog 7 Tryz.f7 Rows.storeTwiceSpec Rows.storeTwiceRow=true:=by kernel_rfl
theorem iZP:(λ(P:Program) (f:FuncId) (fn:Func) (s:ChangeSpec) (c:OpenClaim)=>(namedTie P c.named s.vars:Bool)) Tryz.pinned.checked.prog 7 Tryz.f7 Rows.storeTwiceSpec Rows.storeTwiceRow=true:=by kernel_rfl
theorem iZO:(λ(P:Program) (f:FuncId) (fn:Func) (s:ChangeSpec) (c:OpenClaim)=>((c.stops==[]):Bool)) Tryz.pinned.checked.prog 7 Tryz.f7 Rows.storeTwiceSpec Rows.storeTwiceRow=true:=by kernel_rfl
theorem iZN:(λ(P:Program) (f:FuncId) (fn:Func) (s:ChangeSpec) (c:OpenClaim)=>((P.stops==[]):Bool)) Tryz.pinned.checked.prog 7 Tryz.f7 Rows.storeTwiceSpec Rows.storeTwiceRow=true:=by kernel_rfl
theorem iZM:(λ(P:Program) (f:FuncId) (fn:Func) (s:ChangeSpec) (c:OpenClaim)=>((c.knobs==[]):Bool)) Tryz.pinned.checked.prog 7 Tryz.f7 Rows.storeTwiceSpec Rows.storeTwiceRow=true:=by kernel_rfl
theorem iZL:(λ(P:Program) (f:FuncId) (fn:Func) (s:ChangeSpec) (c:OpenClaim)=>((P.stopKnobs==[]):Bool)) Tryz.pinned.checked.prog 7 Tryz.f7 Rows.storeTwiceSpec Rows.storeTwiceRow=true:=by kernel_rfl
end Go.Proofs.YthnbpiejemlbeaaGreat.storeTwice
