import Derived.Test.YtekoaiendgjkdaaGreatH2a
import Derived.Test.YtekoaiendgjkdaaGreatEC
set_option linter.unusedVariables false
set_option linter.unusedSimpArgs false
set_option linter.unusedSectionVars false
set_option maxRecDepth 100000
set_option maxHeartbeats 16000000
namespace Go.S
open Go.Sx Go.Proofs
theorem gA.MK{h:ad}{d:DB}{b1 b2 b3 b4:Option Addr}{n1 c1 n2 c2 n3 c3 n4 c4:Nat}(q:gA h (.agg #[.slice b1 n1 c1,.slice b2 n2 c2,.slice b3 n3 c3,.slice b4 n4 c4]) d):Sl 51 cJ h (.slice b1 n1 c1) d.aB:=by obtain⟨_,_,_,_,_,_,_,_,_,_,_,_,ws,he,qt,_⟩:=q.out;cases he;exact qt
end Go.S
