import Derived.Test.YthnbpiejemlbeaaGreatJ3a
set_option linter.all false
set_option maxRecDepth 100000
set_option maxHeartbeats 8000000
namespace Go.S
open Go.Sx Go.Proofs
set_option maxHeartbeats 4000000
def TG(F:Nat->List Row):List ca:=[⟨aP 0,F 0⟩,⟨aP 1,F 1⟩,⟨aP 2,F 2⟩]
def vh(F:Nat->List Row)(t:Nat)(R:List Row):Nat->List Row:=λj=>if j=t then R else F j
theorem three{t:Nat}(h:t<3):t=0\/t=1\/t=2:=by omega
def G0(F:Nat->List Row):DB:=⟨TG F,[],[],[]⟩
end Go.S
