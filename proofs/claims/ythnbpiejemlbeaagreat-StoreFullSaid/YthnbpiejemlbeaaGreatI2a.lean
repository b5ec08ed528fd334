import Derived.Test.YthnbpiejemlbeaaGreatP1
import Derived.Test.YthnbpiejemlbeaaGreatI1
set_option linter.all false
set_option maxRecDepth 100000
set_option maxHeartbeats 4000000
namespace Go.Sx
end Go.Sx
namespace Go.S
open Go.Sx Go.Proofs
structure dKw where
 k:Int
 s:Int
 t:Int
 n:Int
 x:Bool
structure gKB(a:dKw):Prop where
 k:-2^63<=a.k/\a.k<2^63
 s:-2^63<=a.s/\a.s<2^63
 t:-2^63<=a.t/\a.t<2^63
 n:-2^63<=a.n/\a.n<2^63
end Go.S
