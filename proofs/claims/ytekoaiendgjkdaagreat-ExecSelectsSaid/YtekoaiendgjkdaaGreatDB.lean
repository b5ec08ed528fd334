import Derived.Test.YtekoaiendgjkdaaGreatDA
import Derived.Test.YtekoaiendgjkdaaGreatRd
set_option linter.unusedVariables false
set_option linter.unusedSimpArgs false
set_option linter.unusedSectionVars false
set_option maxRecDepth 100000
namespace Go.S
open Go.Sx Go.Proofs
def fW(s:ByteArray)(i:Nat):Int:=((s.data.getD i 0).toNat:Int)
def vA(z:Int):Bool:= !((decide (z<97)||decide (z>122))&&(decide (z<48)||decide (z>57))&&(z !=95))
def tF(s:ByteArray):Bool:= !(decide ((s.size:Int)<1)||decide ((s.size:Int)>12)||decide (fW s 0<97)||decide (fW s 0>122))
def re(s:ByteArray):Bool:=(List.range s.size).all fun i=>vA (fW s i)
def ng(s:ByteArray):Bool:=eZ.any fun w=>decide (w=s)
def ao(s:ByteArray):Bool:=tF s&&re s&& !ng s
structure q7(h:ad)(sp:Nat):Prop where
 out:(h sp=some (.cells #[.int .u32 0,.int .i32 0,.int .u32 0,.map none] 250 (0,0)))\/
  ∃m,h sp=some (.cells #[.int .u32 1,.int .i32 0,.int .u32 0,.map (some m)] 250 (0,0))/\Mp h m .string (sD eZ)/\m≠sp
set_option maxHeartbeats 2000000 in
def dQ(a2:List bT)(i:Nat)(c:bT):Int:=
 if(!ao c.name||(a2.take i).any fun x=>decide (x.name=c.name))=true then 12 else if(decide (c.kind<1)||decide (c.kind>3))=true then 3 else 0
def gV(a2:List bT):Int:=((a2.zipIdx.map fun(c,i)=>dQ a2 i c).find? (fun z=>z !=0)).getD 0
def gJ(s:AU):Int:=
 if(!ao s.name)=true then 12
 else if(decide ((s.a2.length:Int)<1)||decide ((s.a2.length:Int)>6))=true then 4
 else if gV s.a2≠0 then gV s.a2
 else if(decide (s.key<0)||decide (s.key>=(s.a2.length:Int)))=true then 1
 else if((s.a2[s.key.toNat]?).map (·.null)).getD false=true then 13 else 0
set_option maxHeartbeats 2000000 in
def oh(d:DB)(w:List dO):DB:={ d with au:=w }
def ij(d:DB)(lp:Int)(i:Nat)(is:Bool):DB×Int:=
 if(decide (lp<0)||decide (lp>=8))=true then(d,1)
 else if is=true then(d,7)
 else(oh d (d.au.take i++[⟨lp,[],[]⟩]++d.au.drop i),0)
def lD(d:DB)(t:List cE):DB:={ d with aE:=t }
def iV(d:DB)(s:AU)(is:Bool):Int:=
 if gJ s≠0 then gJ s
 else if is=true then 7
 else if decide (d.aE.length>=8)=true then 4
 else if decide (d.au.length>0)=true then 18 else 0
def jE(d:DB)(s:AU)(i:Nat)(is:Bool):DB×Int:=
 if iV d s is=0 then(lD d (d.aE.take i++[⟨s,[]⟩]++d.aE.drop i),0)else(d,iV d s is)
end Go.S
