import Derived.Test.YtekoaiendgjkdaaGreatH3
import Derived.Test.YtekoaiendgjkdaaGreatEC
set_option linter.unusedVariables false
set_option linter.unusedSimpArgs false
set_option linter.unusedSectionVars false
set_option maxRecDepth 100000
set_option maxHeartbeats 16000000
namespace Go.S
open Go.Sx Go.Proofs
def UW(j:Int):Row:=[⟨2,j,kh⟩,⟨0,0,kh⟩]
def Oz(m:Nat):List Row:=(List.range m).map fun j:Nat=>UW (j:Int)
def VE(m:Nat):List lG:=(List.range m).map fun j:Nat=>⟨KD,1,UW (j:Int)⟩
def mkH(i:Nat):List bP:=if i=0 then []else [hX 0]
def mkD(i:Nat):DB:=mnD 0 (Oz (min i 60)) (VE (min i 60)) [] (mkH i)
def svD(p j:Nat):DB:=mnD 0 (Oz p) (VE p) (List.replicate (min j 10) ⟨nM,(p:Int)⟩) [hX 0]
end Go.S
