import Derived.Test.YtkpikackiemhbaaGreatTA
set_option linter.all false
set_option maxRecDepth 1000000
set_option maxHeartbeats 8000000
namespace Go.C
open Go.Sx Go.Cx Go.Proofs
theorem verifyManyR6 : runTrue look lookD 1000 3 [.mod 12 6] = true := by kernel_rfl
theorem verifyManyR7 : runTrue look lookD 1000 3 [.mod 12 7] = true := by kernel_rfl
theorem verifyManyR8 : runTrue look lookD 1000 3 [.mod 12 8] = true := by kernel_rfl
end Go.C
