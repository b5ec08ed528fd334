import Derived.Test.YtekoaiendgjkdaaGreatH3
import Derived.Test.YtekoaiendgjkdaaGreatEC
set_option linter.unusedVariables false
set_option linter.unusedSimpArgs false
set_option linter.unusedSectionVars false
set_option maxRecDepth 100000
set_option maxHeartbeats 16000000
namespace Go.S
open Go.Sx Go.Proofs
def Sy(j:Int):Row:=[⟨2,j,oy⟩,⟨0,0,oy⟩]
def MO(m:Nat):List Row:=(List.range m).map fun j:Nat=>Sy (j:Int)
def S3(m:Nat):List lD:=(List.range m).map fun j:Nat=>⟨Jb,1,Sy (j:Int)⟩
def mkH(i:Nat):List bK:=if i=0 then []else [hX 0]
def mkD(i:Nat):DB:=mnD 0 (MO (min i 60)) (S3 (min i 60)) [] (mkH i)
def svD(p j:Nat):DB:=mnD 0 (MO p) (S3 p) (List.replicate (min j 10) ⟨nM,(p:Int)⟩) [hX 0]
end Go.S
