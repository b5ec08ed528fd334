import Derived.Test.YtekoaiendgjkdaaGreatQE
import Derived.Test.YtekoaiendgjkdaaGreatDB
import Derived.Test.YtekoaiendgjkdaaGreatEB
import Derived.Test.YtekoaiendgjkdaaGreatQD
import Derived.Test.YtekoaiendgjkdaaGreatQC
set_option linter.unusedVariables false
set_option linter.unusedSimpArgs false
set_option linter.unusedSectionVars false
set_option maxRecDepth 100000
set_option maxHeartbeats 8000000
namespace Go.S
open Go.Sx Go.Proofs
structure cJh(B h:ad)(ob:Nat)(l:List Int):Prop where
 out:∃b n c,h ob=some (.cells #[.slice b n c] 240 (0,0))/\cF 3 dE B h (.slice b n c) l
 le:Le B h
 no:B ob=none
theorem cKU{x:aJ}{y:Qy}(hg:y.group<0)(DF:∀i∈x.items,i.fn=1):Rp x y:=fun{h0 h qp cols} q hx hc {rows} hr mF hf hw {rb rn rc} l0 qr {k} hk=>cXy q hx hg DF qr.sl (fun h' b n c l s=>hk h' b n c (l0.trans l) s)
theorem Hf{d:DB}{s:Int}{st:aJ}(hj:st.join=b0)(h:cJf d s st):cJg d s st:=fun{h2 pb} q hx {n} ej jm jx {k} hk=>hZE q hx hj ej jm jx h hk
end Go.S
