import Derived.Test.YtekoaiendgjkdaaGreatQE
import Derived.Test.YtekoaiendgjkdaaGreatDB
import Derived.Test.YtekoaiendgjkdaaGreatEB
import Derived.Test.YtekoaiendgjkdaaGreatQD
import Derived.Test.YtekoaiendgjkdaaGreatQC
set_option linter.unusedVariables false
set_option linter.unusedSimpArgs false
set_option linter.unusedSectionVars false
set_option maxRecDepth 100000
set_option maxHeartbeats 8000000
namespace Go.S
open Go.Sx Go.Proofs
structure OutI(B h:ad)(ob:Nat)(l:List Int):Prop where
 out:∃b n c,h ob=some (.cells #[.slice b n c] 240 (0,0))/\cS 3 ef B h (.slice b n c) l
 le:Le B h
 no:B ob=none
def updE(d:DB)(s:Int)(x:aA)(T:cA):DB×Int:=
 if CE T x≠0 then(d,CE T x)else match nU x.bT (cj T) (HS T x) T.rows ([],[])with
  | (p,e)=>if e≠0 then(d,e)else match wY s x.table p.1 d with
   | (d,e)=>if e≠0 then(d,e)else MT s x.table p.2 d
theorem UT{x:aA}{y:Qy}(hg:y.group<0)(Nz:∀i∈x.items,i.fn=1):MG x y:=fun{h qp cols} q hx hc {rows} hr Ni {rb rn rc} qr {k} hk=>LJ q hx hg Nz qr hk
theorem Ol{d:DB}{s:Int}{st:aA}(hj:st.join=b0)(h:SelP d s st):Rm d s st:=fun{h2 pb} q hx {n} ej kT nN {k} hk=>selE q hx hj ej kT nN h hk
end Go.S
