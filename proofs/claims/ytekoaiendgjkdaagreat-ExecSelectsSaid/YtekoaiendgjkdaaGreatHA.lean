import Derived.Test.YtekoaiendgjkdaaGreatGC
import Derived.Test.YtekoaiendgjkdaaGreatEC
set_option linter.unusedVariables false
set_option linter.unusedSimpArgs false
set_option linter.unusedSectionVars false
set_option maxRecDepth 100000
set_option maxHeartbeats 16000000
namespace Go.S
open Go.Sx Go.Proofs
def MG:ByteArray:=⟨#[116,97]⟩
def nM:ByteArray:=⟨#[109]⟩
def qD(s:Int):DB:=⟨ed.aE,[⟨s,[],[]⟩],[],[]⟩
set_option maxHeartbeats 4000000
def lN(r:Row):Prop:=∃a v,r=[⟨2,a,pJ⟩,v]/\(v=⟨0,0,pJ⟩\/∃s,v=⟨3,0,s⟩/\s.size<=60)
def Xb:ByteArray:=⟨#[116,99]⟩
def h7(r:Row):DB:=⟨[cL 0,cL 1,⟨aT 2,[r]⟩],[⟨0,[⟨Xb,1,r⟩],[]⟩],[⟨0,Xb,true⟩],[]⟩
def h6(r:Row):DB:=⟨[⟨aT 0,[r]⟩,cL 1,⟨aT 2,[r]⟩],[⟨0,[⟨Xb,1,r⟩,⟨MG,1,r⟩],[]⟩],[⟨0,Xb,true⟩,⟨0,MG,true⟩],[]⟩
def h5(r:Row):DB:=⟨[⟨aT 0,[]⟩,cL 1,⟨aT 2,[r]⟩],[⟨0,[⟨Xb,1,r⟩,⟨MG,1,r⟩,⟨MG,2,r⟩],[]⟩],[⟨0,Xb,true⟩,⟨0,MG,true⟩],[]⟩
def hX(s:Int):bZ:=⟨s,MG,true⟩
def h8(s:Int)(R:List Row)(L:List iX)(M:List Ns)(H:List bZ):DB:=⟨[⟨aT 0,R⟩,cL 1,cL 2],[⟨s,L,M⟩],H,[]⟩
def QJ{α:Type}(e:Int)(n:Nat)(a b c:α):α:=if(decide (e≠19)&&decide ((n:Int)>=60))=true then a else if decide (e=0)=true then b else c
def nc(R:List Row)(L:List iX)(r:Row):List Row×List iX×Int:=
 QJ (bI ⟨aT 0,R⟩ r).2 L.length (R,L,4) ((bI ⟨aT 0,R⟩ r).1.rows,L++[⟨MG,1,r⟩],0) (R,L,(bI ⟨aT 0,R⟩ r).2)
def hS(R:List Row)(L:List iX)(k:dg):List Row×List iX×Int:=
 QJ (cK ⟨aT 0,R⟩ k).2.2 L.length (R,L,4) ((cK ⟨aT 0,R⟩ k).1.rows,L++[⟨MG,2,(cK ⟨aT 0,R⟩ k).2.1⟩],0) (R,L,(cK ⟨aT 0,R⟩ k).2.2)
end Go.S
namespace Go.Sx
end Go.Sx
namespace Go.S
open Go.Sx Go.Proofs
abbrev R3.cells(v:R3):List Value:=[.slice v.b1 v.n1 v.c1,.slice v.b2 v.n2 v.c2,.slice v.b3 v.n3 v.c3,.slice v.b4 v.n4 v.c4]
abbrev R3.val(v:R3):Value:=.agg #[.slice v.b1 v.n1 v.c1,.slice v.b2 v.n2 v.c2,.slice v.b3 v.n3 v.c3,.slice v.b4 v.n4 v.c4]
def w0:R3:=⟨none,0,0,none,0,0,none,0,0,none,0,0⟩
def qW(R:List Row):DB:=⟨[⟨aT 0,R⟩,cL 1,cL 2],[],[],[]⟩
def qw:DB:=⟨[cL 1,cL 2],[],[],[]⟩
def Ye(j:Int):Row:=[⟨2,j,pJ⟩,⟨0,0,pJ⟩]
def QD(m:Nat):List Row:=(List.range m).map fun j:Nat=>Ye (j:Int)
def YK(m:Nat):List iX:=(List.range m).map fun j:Nat=>⟨MG,1,Ye (j:Int)⟩
def nn(i:Nat):List bZ:=if i=0 then []else [hX 0]
def qi(i:Nat):DB:=h8 0 (QD (min i 60)) (YK (min i 60)) [] (nn i)
def qa(p j:Nat):DB:=h8 0 (QD p) (YK p) (List.replicate (min j 10) ⟨nM,(p:Int)⟩) [hX 0]
end Go.S
