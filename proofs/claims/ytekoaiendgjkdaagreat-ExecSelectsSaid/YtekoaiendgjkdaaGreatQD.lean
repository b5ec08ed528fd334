import Derived.Test.YtekoaiendgjkdaaGreatQC
import Derived.Test.YtekoaiendgjkdaaGreatEA
set_option linter.unusedVariables false
set_option linter.unusedSimpArgs false
set_option linter.unusedSectionVars false
set_option maxRecDepth 100000
set_option maxHeartbeats 8000000
namespace Go.S
open Go.Sx Go.Proofs
structure uy(B h:ad)(ob:Nat)(nb:Option Nat)(l:List Row):Prop where
 out:∃b n c,h ob=some (.cells #[.slice b n c] 34 (0,0))/\Bx 59 aL B h nb (.slice b n c) l
 le:Le B h
 no:B ob=none
def nF(x:az)(a2:List bT)(a b:Row)(out:List Row):List Row×Int:=match dL x.on a2 (a++b)with
 | (on,e)=>if e≠0 then(out,e)else if on=false then(out,0)else match dL x.bM a2 (a++b)with
  | (is,e)=>if e≠0 then(out,e)else(if is=true then out++[a++b]else out,0)
def Fr(h:ad)(nb mV:Option Nat):Prop:=∀j o,mV=some j->h j=some o->nb=some j
def Eu(n:Nat):dg:=⟨2,n,b0⟩
end Go.S
