import Derived.Test.YtekoaiendgjkdaaGreatJ1
import Derived.Test.YtekoaiendgjkdaaGreatHA
import Derived.Test.YtekoaiendgjkdaaGreatJ3a
set_option linter.unusedVariables false
set_option linter.unusedSimpArgs false
set_option linter.unusedSectionVars false
set_option maxRecDepth 100000
set_option maxHeartbeats 8000000
namespace Go.S
open Go.Sx Go.Proofs
set_option maxHeartbeats 4000000
def TG(F:Nat->List Row):List cW:=[⟨aF 0,F 0⟩,⟨aF 1,F 1⟩,⟨aF 2,F 2⟩]
def Bz(F:Nat->List Row)(t:Nat)(R:List Row):Nat->List Row:=fun j=>if j=t then R else F j
def GD(s:Int)(F:Nat->List Row)(L:List dV)(M:List oy)(H:List cg):DB:=⟨TG F,[⟨s,L,M⟩],H,[]⟩
def wJ(s:Int)(H:List cg):Prop:=∀x∈H,x.s=s
def bXX(F:Nat->List Row):Prop:=∀j,j<3->SO (F j)
def cJe(F:Nat->List Row)(L:List dV)(F':Nat->List Row)(L':List dV):Prop:=(L'=L/\F'=F)\/∃x,L'=L++[x]/\gC (TG F') x=TG F
def G0(F:Nat->List Row):DB:=⟨TG F,[],[],[]⟩
end Go.S
