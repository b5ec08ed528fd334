import Derived.Test.YtekoaiendgjkdaaGreatH2a
set_option linter.unusedVariables false
set_option linter.unusedSimpArgs false
set_option linter.unusedSectionVars false
set_option maxRecDepth 100000
set_option maxHeartbeats 4000000
namespace Go.S
open Go.Sx Go.Proofs
def hX(s:Int):bP:=⟨s,KD,true⟩
def mnD(s:Int)(R:List Row)(L:List lG)(M:List Ll)(H:List bP):DB:=⟨[⟨cV 0,R⟩,dR 1,dR 2],[⟨s,L,M⟩],H,[]⟩
def OG{α:Type}(e:Int)(n:Nat)(a b c:α):α:=if(decide (e≠19)&&decide ((n:Int)>=60))=true then a else if decide (e=0)=true then b else c
def putR(R:List Row)(L:List lG)(r:Row):List Row×List lG×Int:=
 OG (cd ⟨cV 0,R⟩ r).2 L.length (R,L,4) ((cd ⟨cV 0,R⟩ r).1.rows,L++[⟨KD,1,r⟩],0) (R,L,(cd ⟨cV 0,R⟩ r).2)
def takeR(R:List Row)(L:List lG)(k:dc):List Row×List lG×Int:=
 OG (bt ⟨cV 0,R⟩ k).2.2 L.length (R,L,4) ((bt ⟨cV 0,R⟩ k).1.rows,L++[⟨KD,2,(bt ⟨cV 0,R⟩ k).2.1⟩],0) (R,L,(bt ⟨cV 0,R⟩ k).2.2)
theorem pW(t:cg)(r:Row):(cd t r).1.S=t.S:=by
 unfold cd;repeat' split
 all_goals rfl
theorem oD(t:cg)(k:dc):(bt t k).1.S=t.S:=by unfold bt;split<;>rfl
end Go.S
namespace Go.Sx
end Go.Sx
