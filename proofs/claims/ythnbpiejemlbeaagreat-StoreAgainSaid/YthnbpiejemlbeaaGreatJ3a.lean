import Derived.Test.YthnbpiejemlbeaaGreatJX
set_option linter.all false
set_option maxRecDepth 100000
set_option maxHeartbeats 8000000
namespace Go.S
open Go.Sx Go.Proofs
end Go.S
