import Derived.SizedLaws
import Derived.Test.YthnbpiejemlbeaaGreatRows
set_option linter.all false
set_option maxRecDepth 100000
namespace Go.Proofs.YthnbpiejemlbeaaGreat.storeAgain
open Go.ChangeShapes Go.WideShapes
theorem iKB:(λ(P:Program) (f:FuncId) (fn:Func) (s:ChangeSpec) (c:OpenClaim)=>(c.wf (OpenSpec.ofChange s):Bool)) Tryz.pinned.checked.prog 8 Tryz.f8 Rows.storeAgainSpec Rows.storeAgainRow=true:=by kernel_rfl
theorem iKA:(λ(P:Program) (f:FuncId) (fn:Func) (s:ChangeSpec) (c:OpenClaim)=>(laidOutB P:Bool)) Tryz.pinned.checked.prog 8 Tryz.f8 Rows.storeAgainSpec Rows.storeAgainRow=true:=by kernel_rfl
theorem iKz:(λ(P:Program) (f:FuncId) (fn:Func) (s:ChangeSpec) (c:OpenClaim)=>(mapsRowed P:Bool)) Tryz.pinned.checked.prog 8 Tryz.f8 Rows.storeAgainSpec Rows.storeAgainRow=true:=by kernel_rfl
theorem iKy:(λ(P:Program) (f:FuncId) (fn:Func) (s:ChangeSpec) (c:OpenClaim)=>(fn.params.all (P.readableRec ·):Bool)) Tryz.pinned.checked.prog 8 Tryz.f8 Rows.storeAgainSpec Rows.storeAgainRow=true:=by kernel_rfl
theorem iKx:(λ(P:Program) (f:FuncId) (fn:Func) (s:ChangeSpec) (c:OpenClaim)=>(namedTie P c.named s.vars:Bool)) Tryz.pinned.checked.prog 8 Tryz.f8 Rows.storeAgainSpec Rows.storeAgainRow=true:=by kernel_rfl
theorem iKw:(λ(P:Program) (f:FuncId) (fn:Func) (s:ChangeSpec) (c:OpenClaim)=>((c.stops==[]):Bool)) Tryz.pinned.checked.prog 8 Tryz.f8 Rows.storeAgainSpec Rows.storeAgainRow=true:=by kernel_rfl
theorem iKv:(λ(P:Program) (f:FuncId) (fn:Func) (s:ChangeSpec) (c:OpenClaim)=>((P.stops==[]):Bool)) Tryz.pinned.checked.prog 8 Tryz.f8 Rows.storeAgainSpec Rows.storeAgainRow=true:=by kernel_rfl
theorem iKu:(λ(P:Program) (f:FuncId) (fn:Func) (s:ChangeSpec) (c:OpenClaim)=>((c.knobs==[]):Bool)) Tryz.pinned.checked.prog 8 Tryz.f8 Rows.storeAgainSpec Rows.storeAgainRow=true:=by kernel_rfl
theorem iKt:(λ(P:Program) (f:FuncId) (fn:Func) (s:ChangeSpec) (c:OpenClaim)=>((P.stopKnobs==[]):Bool)) Tryz.pinned.checked.prog 8 Tryz.f8 Rows.storeAgainSpec Rows.storeAgainRow=true:=by kernel_rfl
end Go.Proofs.YthnbpiejemlbeaaGreat.storeAgain
