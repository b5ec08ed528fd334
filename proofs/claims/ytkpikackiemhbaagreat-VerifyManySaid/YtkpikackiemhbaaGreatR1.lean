import Derived.Test.YtkpikackiemhbaaGreatTA
set_option linter.all false
set_option maxRecDepth 1000000
set_option maxHeartbeats 8000000
namespace Go.C
open Go.Sx Go.Cx Go.Proofs
theorem verifyManyR3 : runTrue look lookD 1000 3 [.mod 12 3] = true := by kernel_rfl
theorem verifyManyR4 : runTrue look lookD 1000 3 [.mod 12 4] = true := by kernel_rfl
theorem verifyManyR5 : runTrue look lookD 1000 3 [.mod 12 5] = true := by kernel_rfl
end Go.C
