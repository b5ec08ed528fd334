import Derived.Test.YtekoaiendgjkdaaGreatGC
import Derived.Test.YtekoaiendgjkdaaGreatEC
set_option linter.unusedVariables false
set_option linter.unusedSimpArgs false
set_option linter.unusedSectionVars false
set_option maxRecDepth 100000
set_option maxHeartbeats 16000000
namespace Go.S
open Go.Sx Go.Proofs
def Jb:ByteArray:=⟨#[116,97]⟩
def nM:ByteArray:=⟨#[109]⟩
def dbW(s:Int):DB:=⟨dY.aB,[⟨s,[],[]⟩],[],[]⟩
end Go.S
