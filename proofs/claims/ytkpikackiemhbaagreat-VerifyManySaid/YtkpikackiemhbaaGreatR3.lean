import Derived.Test.YtkpikackiemhbaaGreatTA
set_option linter.all false
set_option maxRecDepth 1000000
set_option maxHeartbeats 8000000
namespace Go.C
open Go.Sx Go.Cx Go.Proofs
theorem verifyManyR9 : runTrue look lookD 1000 3 [.mod 12 9] = true := by kernel_rfl
theorem verifyManyR10 : runTrue look lookD 1000 3 [.mod 12 10] = true := by kernel_rfl
theorem verifyManyR11 : runTrue look lookD 1000 3 [.mod 12 11] = true := by kernel_rfl
end Go.C
