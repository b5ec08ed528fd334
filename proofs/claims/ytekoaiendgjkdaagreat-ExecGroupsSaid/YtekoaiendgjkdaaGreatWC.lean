import Derived.Test.YtekoaiendgjkdaaGreatWB
import Derived.Test.YtekoaiendgjkdaaGreatQC
set_option linter.unusedVariables false
set_option linter.unusedSimpArgs false
set_option linter.unusedSectionVars false
set_option maxRecDepth 100000
set_option maxHeartbeats 8000000
namespace Go.S
open Go.Sx
def cA:Nd:=iP (aM [97])
def cB:Nd:=iP (aM [98])
theorem cH.fJy(n:Nat)(hn:n<2^62):cH (dk n) [ur n]:=by have:=cH.cXV n hn (t:=[]) rfl cH.nil;rw[mQF]at this;exact this
def dXy(r:Row):cO:=(r[1]?).getD v0
theorem AL.sr{m:Nat}{R:Nat->List Row}{log:List dV}{d:DB}(q:AL m R log d){t:Nat}(ht:t<3):SR (R t):=by have hg:=(q.aj.dXw ht).2;have:=(q.ej.sj.sc.tw.ok _ (GD hg)).2.2.1;exact this.sr
open Go.Sx Go.Proofs
end Go.S
