import Derived.Test.YtifjeceolckgaaaGreatJ3a
set_option linter.all false
set_option maxRecDepth 100000
set_option maxHeartbeats 8000000
namespace Go.S
open Go.Sx Go.Proofs
set_option maxHeartbeats 4000000
def TG(F:Nat->List Row):List cW:=[⟨aF 0,F 0⟩,⟨aF 1,F 1⟩,⟨aF 2,F 2⟩]
def Bz(F:Nat->List Row)(t:Nat)(R:List Row):Nat->List Row:=λj=>if j=t then R else F j
def G0(F:Nat->List Row):DB:=⟨TG F,[],[],[]⟩
end Go.S
