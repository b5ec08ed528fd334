import Derived.Test.YtnfijhlegoagjaaGreatH3
import Derived.Test.YtnfijhlegoagjaaGreatEC
set_option linter.unusedVariables false
set_option linter.unusedSimpArgs false
set_option linter.unusedSectionVars false
set_option maxRecDepth 100000
set_option maxHeartbeats 16000000
set_option linter.unusedVariables false
set_option linter.unusedSimpArgs false
namespace Go.S
open Go.Sx Go.Proofs

def rowN (j : Int) : Row := [⟨2, j, noS⟩, ⟨0, 0, noS⟩]
def rowsN (m : Nat) : List Row := (List.range m).map fun j : Nat => rowN (j : Int)
def logN (m : Nat) : List Chg := (List.range m).map fun j : Nat => ⟨nTa, 1, rowN (j : Int)⟩
def mkH (i : Nat) : List Hld := if i = 0 then [] else [hX 0]
def mkD (i : Nat) : DB := mnD 0 (rowsN (min i 60)) (logN (min i 60)) [] (mkH i)
def svD (p j : Nat) : DB := mnD 0 (rowsN p) (logN p) (List.replicate (min j 10) ⟨nM, (p : Int)⟩) [hX 0]
end Go.S

