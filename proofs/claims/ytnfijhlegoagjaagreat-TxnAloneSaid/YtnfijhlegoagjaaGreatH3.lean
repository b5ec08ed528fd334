import Derived.Test.YtnfijhlegoagjaaGreatH3a
import Derived.Test.YtnfijhlegoagjaaGreatEC
import Derived.Test.YtnfijhlegoagjaaGreatH2
set_option linter.unusedVariables false
set_option linter.unusedSimpArgs false
set_option linter.unusedSectionVars false
set_option maxRecDepth 100000
set_option maxHeartbeats 16000000
set_option linter.unusedVariables false
set_option linter.unusedSimpArgs false
namespace Go.S
open Go.Sx Go.Proofs

abbrev W12.cells (v : W12) : List Value := [.slice v.b1 v.n1 v.c1, .slice v.b2 v.n2 v.c2, .slice v.b3 v.n3 v.c3, .slice v.b4 v.n4 v.c4]
abbrev W12.val (v : W12) : Value := .agg #[.slice v.b1 v.n1 v.c1, .slice v.b2 v.n2 v.c2, .slice v.b3 v.n3 v.c3, .slice v.b4 v.n4 v.c4]
def w0 : W12 := ⟨none, 0, 0, none, 0, 0, none, 0, 0, none, 0, 0⟩
def cmD (R : List Row) : DB := ⟨[⟨shapeS 0, R⟩, tblS 1, tblS 2], [], [], []⟩
def drD : DB := ⟨[tblS 1, tblS 2], [], [], []⟩
end Go.S

