import Derived.Test.YtekoaiendgjkdaaGreatH2a
set_option linter.unusedVariables false
set_option linter.unusedSimpArgs false
set_option linter.unusedSectionVars false
set_option maxRecDepth 100000
set_option maxHeartbeats 4000000
namespace Go.S
open Go.Sx Go.Proofs
def hX(s:Int):bK:=⟨s,Jb,true⟩
def mnD(s:Int)(R:List Row)(L:List lD)(M:List Jz)(H:List bK):DB:=⟨[⟨bN 0,R⟩,cI 1,cI 2],[⟨s,L,M⟩],H,[]⟩
def MV{α:Type}(e:Int)(n:Nat)(a b c:α):α:=if(decide (e≠19)&&decide ((n:Int)>=60))=true then a else if decide (e=0)=true then b else c
def putR(R:List Row)(L:List lD)(r:Row):List Row×List lD×Int:=
 MV (bI ⟨bN 0,R⟩ r).2 L.length (R,L,4) ((bI ⟨bN 0,R⟩ r).1.rows,L++[⟨Jb,1,r⟩],0) (R,L,(bI ⟨bN 0,R⟩ r).2)
def takeR(R:List Row)(L:List lD)(k:cR):List Row×List lD×Int:=
 MV (cu ⟨bN 0,R⟩ k).2.2 L.length (R,L,4) ((cu ⟨bN 0,R⟩ k).1.rows,L++[⟨Jb,2,(cu ⟨bN 0,R⟩ k).2.1⟩],0) (R,L,(cu ⟨bN 0,R⟩ k).2.2)
theorem ph(t:cA)(r:Row):(bI t r).1.S=t.S:=by
 unfold bI;repeat' split
 all_goals rfl
theorem vI(t:cA)(k:cR):(cu t k).1.S=t.S:=by unfold cu;split<;>rfl
end Go.S
namespace Go.Sx
end Go.Sx
