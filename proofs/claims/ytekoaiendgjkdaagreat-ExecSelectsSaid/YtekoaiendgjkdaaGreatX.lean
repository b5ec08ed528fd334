import Derived.Test.YtekoaiendgjkdaaGreatQG
import Derived.Test.YtekoaiendgjkdaaGreatVB
import Derived.Test.YtekoaiendgjkdaaGreatNA
import Derived.Test.YtekoaiendgjkdaaGreatEC
import Derived.Test.YtekoaiendgjkdaaGreatQF
import Derived.Test.YtekoaiendgjkdaaGreatEB
set_option linter.unusedVariables false
set_option linter.unusedSimpArgs false
set_option linter.unusedSectionVars false
set_option maxRecDepth 100000
set_option maxHeartbeats 8000000
namespace Go.S
open Go.Sx Go.Proofs
def Qe(s:ByteArray):Bool:=s.data.toList.all fun c=>decide (c.toNat<128)
def YA(s:ByteArray):Bool:=Qe s&&decide (s.size<=2^40)
def Xa(n:Nd):Bool:=YA n.name&&m6 n.v.n
def m8(x:az):Bool:=x.on.all Xa&&x.bM.all Xa&&x.exprs.all (fun e=>e.all Xa)&&x.items.all (fun i=>i.e.all Xa)&&decide (x.exprs.length<=2^20)&&(!decide (x.kind=4)||decide (x.exprs.length=x.names.length))&&YA x.group&&YA x.order&&decide (x.items.length<=2^20)&&decide (x.names.length<=2^20)
def qL(d:DB):Bool:=d.aE.all (fun t=>Qe t.S.name&&decide (t.S.name.size<=2^30)&&t.rows.all (fun r=>r.all fun v=>m6 v.n))&&d.au.all (fun w=>w.log.all fun c=>c.row.all fun v=>m6 v.n)
def nt:ByteArray:=(ax [115,101,108,101,99,116,32,99,111,117,110,116,40,42,41,32,102,114,111,109,32,116,97])
def ui:az:=(dk ao nt).1
def Xj:DB:=(ey ed 1).1
def qx(d:DB)(s:Int)(st:az):Bool:= !decide (st.kind=6)||(match dm st (dA (dc s (bC st) d).1 st)with
 | (y,e)=>decide (e≠0)||(decide (y.order<0)&&(!y.jK||(decide (y.group<0)&&st.items.all fun i=>decide (i.fn=1)))))
end Go.S
