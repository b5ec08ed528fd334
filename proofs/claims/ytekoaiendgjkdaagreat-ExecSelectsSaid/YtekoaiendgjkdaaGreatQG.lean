import Derived.Test.YtekoaiendgjkdaaGreatQE
import Derived.Test.YtekoaiendgjkdaaGreatQB
import Derived.Test.YtekoaiendgjkdaaGreatRd
import Derived.Test.YtekoaiendgjkdaaGreatGB
import Derived.Test.YtekoaiendgjkdaaGreatGC
import Derived.Test.YtekoaiendgjkdaaGreatEB
import Derived.Test.YtekoaiendgjkdaaGreatEC
set_option linter.unusedVariables false
set_option linter.unusedSimpArgs false
set_option linter.unusedSectionVars false
set_option maxRecDepth 100000
set_option maxHeartbeats 8000000
namespace Go.S
open Go.Sx Go.Proofs
abbrev Nv(h:ad)(D:DB×List Row×Int)(k:Value->ad->Prop):Prop:=
 ∀h' x1 m1 d1 x2 m2 d2 x3 m3 d3 x4 m4 d4 b n c,Le h h'->gj h' (.agg #[.slice x1 m1 d1,.slice x2 m2 d2,.slice x3 m3 d3,.slice x4 m4 d4]) D.1->Sl 59 aL h' (.slice b n c) D.2.1->k (.tuple #[.agg #[.slice x1 m1 d1,.slice x2 m2 d2,.slice x3 m3 d3,.slice x4 m4 d4],.slice b n c,.int .i64 D.2.2]) h'
end Go.S
