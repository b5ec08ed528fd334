import Derived.Test.YtnfijhlegoagjaaGreatGC
import Derived.Test.YtnfijhlegoagjaaGreatEC
set_option linter.unusedVariables false
set_option linter.unusedSimpArgs false
set_option linter.unusedSectionVars false
set_option maxRecDepth 100000
set_option maxHeartbeats 16000000
set_option linter.unusedVariables false
set_option linter.unusedSimpArgs false
namespace Go.S
open Go.Sx Go.Proofs

def nTa : ByteArray := ⟨#[116, 97]⟩
def nM : ByteArray := ⟨#[109]⟩
/-- The three tables, and one session at work. -/
def dbW (s : Int) : DB := ⟨startE.tabs, [⟨s, [], []⟩], [], []⟩

end Go.S

