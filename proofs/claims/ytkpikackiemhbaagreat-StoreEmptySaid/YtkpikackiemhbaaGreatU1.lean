import Derived.Test.YtkpikackiemhbaaGreatTA
set_option linter.all false
set_option maxRecDepth 1000000
set_option maxHeartbeats 8000000
namespace Go.C
open Go.Sx Go.Cx Go.Proofs
theorem storeEmptyR3_0 : runTrue look lookD 1000 4 [.mod 4 3, .mod 1 0] = true := by kernel_rfl
end Go.C
