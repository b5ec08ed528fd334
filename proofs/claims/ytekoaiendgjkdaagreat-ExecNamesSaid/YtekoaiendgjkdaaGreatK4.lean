import Derived.Test.YtekoaiendgjkdaaGreatK3
import Derived.Test.YtekoaiendgjkdaaGreatJ3a
set_option linter.unusedVariables false
set_option linter.unusedSimpArgs false
set_option linter.unusedSectionVars false
set_option maxRecDepth 100000
set_option maxHeartbeats 4000000
namespace Go.S
open Go.Sx Go.Proofs
def TG(F:Nat->List Row):List cg:=[⟨cV 0,F 0⟩,⟨cV 1,F 1⟩,⟨cV 2,F 2⟩]
def GY(F:Nat->List Row)(t:Nat)(R:List Row):Nat->List Row:=fun j=>if j=t then R else F j
def GD(s:Int)(F:Nat->List Row)(L:List lG)(M:List Ll)(H:List bP):DB:=⟨TG F,[⟨s,L,M⟩],H,[]⟩
def AllS(s:Int)(H:List bP):Prop:=∀x∈H,x.s=s
def SOF(F:Nat->List Row):Prop:=∀j,j<3->SO (F j)
def Stp(F:Nat->List Row)(L:List lG)(F':Nat->List Row)(L':List lG):Prop:=(L'=L/\F'=F)\/∃x,L'=L++[x]/\iM (TG F') x=TG F
def G0(F:Nat->List Row):DB:=⟨TG F,[],[],[]⟩
end Go.S
