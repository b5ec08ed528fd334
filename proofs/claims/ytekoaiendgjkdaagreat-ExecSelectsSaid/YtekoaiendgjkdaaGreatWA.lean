import Derived.Test.YtekoaiendgjkdaaGreatUA
import Derived.Test.YtekoaiendgjkdaaGreatDB
import Derived.Test.YtekoaiendgjkdaaGreatQC
import Derived.Test.YtekoaiendgjkdaaGreatQA
import Derived.Test.YtekoaiendgjkdaaGreatEC
import Derived.Test.YtekoaiendgjkdaaGreatHA
import Derived.Test.YtekoaiendgjkdaaGreatRd
import Derived.Test.YtekoaiendgjkdaaGreatTab
import Derived.Test.YtekoaiendgjkdaaGreatDA
import Derived.Test.YtekoaiendgjkdaaGreatVB
import Derived.Laws.BytesArg
import Derived.Test.YtekoaiendgjkdaaGreatX
set_option linter.unusedVariables false
set_option linter.unusedSimpArgs false
set_option linter.unusedSectionVars false
namespace Go.S
def rG(f:UInt8->Bool):By->Bool
 | []=>true
 |c::_=> !f c
def dv:Int->By->Int
 |n,[]=>n
 |n,c::t=>dv (10*n+((c.toNat:Int)-48)) t
def sq:By->By
 | []=>[]
 |c::t=>if c.toNat=39 then 39::39::sq t else c::sq t
def Oz(c:UInt8):Bool:=decide (c.toNat=39)
def cN(t:By)(ws:List Wd):Prop:=∀(fuel:Nat) (l:List Wd),t.length<fuel->qz fuel t l=(l++(ws++[⟨0,0,ax []⟩]),0)
def nC(ok:ByteArray->Bool)(w:List Wd):az×Int:=
 let r:=PS.stmt ok ⟨w,0,[]⟩;let p:PS:=r.2;let p:PS:=match p.ws with
  |w::_=>if p.err=0/\w.k≠0 then p.fail 6 else p
  | []=>p
 if p.err=0/\r.1.1.kind=1 then
  match fK r.1.1.mS.a2 r.1.2 0 with
  |some k=>({ r.1.1 with mS:={ r.1.1.mS with key:=(k:Int) } },(0:Int))
  |none=>({},(2:Int))
 else if p.err≠0 then({},p.err)else(r.1.1,0)
def cj(n:Nat):By:=if 10<=n then cj (n / 10)++[UInt8.ofNat (48+n % 10)]else [UInt8.ofNat (48+n % 10)]
 termination_by n
 decreasing_by omega
set_option maxRecDepth 100000
set_option maxHeartbeats 8000000
open Go.Sx
def sN:By:=[105,110,115,101,114,116,32,105,110,116,111,32,116,97,32,118,97,108,117,101,115,32,40]
def wd(l:By):Wd:=⟨1,0,ax l⟩
def ud(c:UInt8):Wd:=⟨4,0,ax [c]⟩
def sE(n:Int):Wd:=⟨2,n,ax []⟩
def R9(x:By):Wd:=⟨3,0,ax x⟩
def oH(ws:List Wd):List Wd:=wd [105,110,115,101,114,116]::wd [105,110,116,111]::wd [116,97]::wd [118,97,108,117,101,115]::ud 40::ws
def Ws:List Wd:=[ud 41]
def iy(es:List (List Nd)):az:={ kind:=3,table:=ax [116,97],exprs:=es }
def iN(a:Int):dg:=⟨2,a,b0⟩
def iT(x:By):dg:=⟨3,0,ax x⟩
def mG:Wd:=⟨0,0,ax []⟩
def eM:ByteArray:=ax [116,97]
def ru:DB:=(ey ed 0).1
def gO:DB:=(ay ru ⟨0,eM,true⟩).1
def lH:DB:=(ay gO ⟨0,eM,true⟩).1
def nG(r:Row):DB:=⟨lH.aE.set 0 (uW (cL 0) 0 r),lH.au.set 0 ⟨0,[]++[⟨eM,1,r⟩],[]⟩,lH.holds,lH.waits⟩
def eI(r:Row):DB:=(ay (nG r) ⟨0,eM,true⟩).1
open Go.Sx Go.Proofs
def sM(x:By):By:=39::(sq x++[39])
def OH(i:Nat)(x:By):List By:=[cj i++([44,32]++sM x),cj i,cj i++([44,32]++(sM x++[44,32,49])),sM x++([44,32]++sM x),[110,117,108,108,44,32]++sM x,cj i++[32,43,32,49,32,42,32,50,44,32,110,117,108,108],cj i++[44,32,97]]
def YY:List Int:=[0,1,1,3,13,0,2]
def xz(k i:Nat)(x:By):Row:=if k=5 then [iN ((i:Int)+2),v0]else [iN i,iT x]
structure j3(i:Nat)(x X:By)(k:Nat)(w:Int):Prop where
 all:∃es D1,dk ao (ax (sN++(X++[41])))=(iy es,0)/\ek (ax (sN++(X++[41])))=true/\eG (iy es)/\jD ru 0 (iy es)=(D1,[],w)/\(w≠0->D1=gO)/\(w=0->D1=nG (xz k i x)/\(jD D1 0 (iy es)).2.2=7)
def MA(d:DB):Prop:=∀i x k X w,i<1000->x.length<=40->(OH i x)[k]? =some X->YY[k]? =some w->∃st D1,dk ao (ax (sN++(X++[41])))=(st,0)/\ek (ax (sN++(X++[41])))=true/\eG st/\st.kind=3/\jD d 0 st=(D1,[],w)/\
 (w≠0->∃t T,D1.aE=t::T/\t.rows=[])/\(w=0->∃t T n,D1.aE=t::T/\t.rows=[xz k i x]/\EJ n D1/\n+700<2^18/\(jD D1 0 st).2.2=7)
end Go.S
