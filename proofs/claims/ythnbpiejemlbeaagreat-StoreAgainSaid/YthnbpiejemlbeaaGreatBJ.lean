import Derived.Test.YthnbpiejemlbeaaGreatBI
import Derived.Stop.BytesEq
set_option linter.all false
set_option maxRecDepth 100000
set_option maxHeartbeats 4000000
namespace Go.S
open Go.Sx Go.Proofs
set_option maxHeartbeats 1000000
set_option maxHeartbeats 2000000
theorem qC:Tryz.prog.underlying 100=some (.array 32 5):=by kernel_rfl
theorem Fg:Tryz.prog.underlying 5=some (.int .u8):=by kernel_rfl
theorem NA:Tryz.prog.eqGuardType Tryz.prog.depth 100=false:=by kernel_rfl
theorem AK(w:World):(Go.sizeOf 5).run Tryz.prog w=.ok 1 w:=by rfl
end Go.S
