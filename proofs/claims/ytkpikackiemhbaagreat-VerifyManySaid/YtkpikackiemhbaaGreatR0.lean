import Derived.Test.YtkpikackiemhbaaGreatTA
set_option linter.all false
set_option maxRecDepth 1000000
set_option maxHeartbeats 8000000
namespace Go.C
open Go.Sx Go.Cx Go.Proofs
theorem verifyManyR0 : runTrue look lookD 1000 3 [.mod 12 0] = true := by kernel_rfl
theorem verifyManyR1 : runTrue look lookD 1000 3 [.mod 12 1] = true := by kernel_rfl
theorem verifyManyR2 : runTrue look lookD 1000 3 [.mod 12 2] = true := by kernel_rfl
end Go.C
