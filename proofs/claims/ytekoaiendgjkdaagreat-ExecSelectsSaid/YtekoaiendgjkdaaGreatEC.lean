import Derived.Test.YtekoaiendgjkdaaGreatEB
import Derived.Test.YtekoaiendgjkdaaGreatRd
set_option linter.unusedVariables false
set_option linter.unusedSimpArgs false
set_option linter.unusedSectionVars false
set_option maxRecDepth 100000
set_option maxHeartbeats 8000000
namespace Go.S
open Go.Sx Go.Proofs
def cA(W:List dO)(s:Int):List Int:=W.map fun x=>IntKind.i64.wrap (x.s-s)
def Dv(d:DB)(hd:bZ):Bool:=lK (cA d.au hd.s)&&lK (aR d.aE hd.table)
def vN(d:DB)(hd:bZ):DB×Int:=
 if Dv d hd=true then(⟨d.aE,d.au,cd d.holds hd,cV d.holds d.waits hd⟩,if bF d.holds hd=true then 0 else 16)else(d,2)
def Calm(d:DB)(hd:bZ):Prop:=bF d.holds hd=false->(dt (cI (cd d.holds hd) (cV d.holds d.waits hd)) hd.s).2=false
def FN(d:DB)(hd:bZ)(act:cE->cE×iX×Int):DB×Int:=
 if decide ((vN d hd).2≠0)=true then vN d hd
 else match d.aE[dr (aR d.aE hd.table)]?,d.au[dr (cA d.au hd.s)]? with
  |some t,some w=>
   if decide ((act t).2.2≠19)&&decide ((w.log.length:Int)>=60)then((vN d hd).1,4)
   else if decide ((act t).2.2=0)=true then
    (⟨d.aE.set (dr (aR d.aE hd.table)) (act t).1,d.au.set (dr (cA d.au hd.s)) ⟨w.s,w.log++[⟨hd.table,(act t).2.1.op,(act t).2.1.row⟩],w.marks⟩,(vN d hd).1.holds,(vN d hd).1.waits⟩,0)
   else((vN d hd).1,(act t).2.2)
  |_,_=>vN d hd
structure Small(d:DB):Prop where
 aE:d.aE.length<=2^37
 au:d.au.length<=2^37
 rows:∀t∈d.aE,t.rows.length<=2^37
 holds:d.holds.length<2^18
 waits:d.waits.length<2^18
def Yo(d:DB)(s:Int)(name:ByteArray)(r:Row):DB×Int:=FN d ⟨s,name,true⟩ (cJ r)
def hU(d:DB)(s:Int)(name:ByteArray)(k:dg):DB×Int:=FN d ⟨s,name,true⟩ (LG k)
def rW(d:DB)(s:AU):DB×Int:=jE d s (dr (aR d.aE s.name)) (lK (aR d.aE s.name))
def ey(d:DB)(s:Int):DB×Int:=ij d s (dr (cA d.au s)) (lK (cA d.au s))
abbrev W4(h:ad)(d':DB)(e:Int)(k:Value->ad->Prop):Prop:=
 ∀h' b1 n1 c1 b2 n2 c2 b3 n3 c3 b4 n4 c4,Le h h'->gj h' (.agg #[.slice b1 n1 c1,.slice b2 n2 c2,.slice b3 n3 c3,.slice b4 n4 c4]) d'->k (.tuple #[.agg #[.slice b1 n1 c1,.slice b2 n2 c2,.slice b3 n3 c3,.slice b4 n4 c4],.int .i64 e]) h'
def oo:DB:=⟨[],[],[],[]⟩
def nX:ByteArray:=⟨#[120]⟩
def nA:ByteArray:=⟨#[97]⟩
def kS:AU:=⟨nX,[⟨nA,2,false⟩],0,false⟩
def n0:DB:=(rW oo kS).1
def nS:DB:=(ey n0 1).1
def nw:DB:=(ey nS 2).1
def nv:DB:=(Yo nw 1 nX [⟨2,5,jX⟩]).1
def qs:DB:=(Yo nv 2 nX [⟨2,6,jX⟩]).1
def hA(d:DB):Bool:=decide (d.aE.length<=1000)&&decide (d.au.length<=1000)&&d.aE.all (fun t=>decide (t.rows.length<=1000))&&decide (d.holds.length<=1000)&&decide (d.waits.length<=1000)
def jf(d:DB)(hd:bZ):Bool:=bF d.holds hd|| !(dt (cI (cd d.holds hd) (cV d.holds d.waits hd)) hd.s).2
def zB:List ByteArray:=[⟨#[116,97]⟩,⟨#[116,98]⟩,⟨#[116,99]⟩]
def bB:List bT:=[⟨nA,2,false⟩,⟨⟨#[98]⟩,3,true⟩]
def aT(t:Nat):AU:=⟨(zB[t]?).getD jX,bB,0,decide (t=2)⟩
def Sv:Sh dO where
 n:=3
 R h cs t:=∃b1 n1 c1 b2 n2 c2,cs=[.int .i64 t.s,.slice b1 n1 c1,.slice b2 n2 c2]/\Sl 148 gM h (.slice b1 n1 c1) t.log/\Sl 162 gF h (.slice b2 n2 c2) t.marks
 len:=by rintro h cs x ⟨_,_,_,_,_,_,rfl,-⟩;rfl
 one:=by rintro h cs x ⟨_,_,_,_,_,_,rfl,-⟩;rfl
 a5:=[148,61,162]
 mono:=by rintro h h' cs x hl ⟨b1,n1,c1,b2,n2,c2,rfl,q1,q2⟩;exact⟨b1,n1,c1,b2,n2,c2,rfl,q1.mono (hl.sub (by decide)),q2.mono (hl.sub (by decide))⟩
structure RP(h:ad)(b1:Option Addr)(n1 c1:Nat)(b2:Option Addr)(n2 c2:Nat)(b3:Option Addr)(n3 c3:Nat)(b4:Option Addr)(n4 c4:Nat)(d:DB):Prop where
 aE:Sl 156 cY h (.slice b1 n1 c1) d.aE
 au:Sl 145 Sv h (.slice b2 n2 c2) d.au
 holds:Sl 235 bL h (.slice b3 n3 c3) d.holds
 waits:Sl 235 bL h (.slice b4 n4 c4) d.waits
def oq(T:List cE)(nm:ByteArray):Nat:=(T.takeWhile fun t=>decide (eX t.S.name nm<0)).length
def my(d:DB)(s:AU):DB×Int:=
 if decide (gJ s≠0)=true then(d,gJ s)
 else if d.aE.any (fun t=>decide (t.S.name=s.name))=true then(d,7)
 else if decide ((d.aE.length:Int)>=8)=true then(d,4)
 else if decide ((d.au.length:Int)>0)=true then(d,18)
 else(lD d (d.aE.take (oq d.aE s.name)++[⟨s,[]⟩]++d.aE.drop (oq d.aE s.name)),0)
abbrev RK(h:ad)(d':DB)(e:Int)(k:Value->ad->Prop):Prop:=
 ∀h' b1 n1 c1 b2 n2 c2 b3 n3 c3 b4 n4 c4,Le h h'->RP h' b1 n1 c1 b2 n2 c2 b3 n3 c3 b4 n4 c4 d'->k (.tuple #[.agg #[.slice b1 n1 c1,.slice b2 n2 c2,.slice b3 n3 c3,.slice b4 n4 c4],.int .i64 e]) h'
def jT:Nat->DB
 |0=>⟨[],[],[],[]⟩
 |i+1=>(rW (jT i) (aT i)).1
def jj:Nat->DB
 |0=>⟨[],[],[],[]⟩
 |i+1=>(my (jj i) (aT i)).1
def cL(i:Nat):cE:=⟨aT i,[]⟩
def ed:DB:=⟨[cL 0,cL 1,cL 2],[],[],[]⟩
structure R3 where
 b1:Option Addr
 n1:Nat
 c1:Nat
 b2:Option Addr
 n2:Nat
 c2:Nat
 b3:Option Addr
 n3:Nat
 c3:Nat
 b4:Option Addr
 n4:Nat
 c4:Nat
def pJ:ByteArray:=⟨#[]⟩
def V2(i:Nat)(a:Int):Int:=(a.tdiv (1+3*(i:Int))) % 40-5
def V3:ByteArray:=⟨#[97,98,99,100,101,102,103,104,105,106,107,108,109,110,111,112,113,114,115,116,117,118,119,120,121,122]⟩
def hF(c:bT)(i:Nat)(a:Int):dg:=
 if c.null=true/\a % 5=0 then⟨0,0,pJ⟩else if c.kind=1 then⟨c.kind,V2 i a % 2,pJ⟩else if c.kind=2 then⟨c.kind,V2 i a,pJ⟩else if c.kind=3 then⟨c.kind,0,V3.extract 0 (V2 i a % 9).toNat⟩else⟨c.kind,0,pJ⟩
def om(a2:List bT)(a:Int)(m:Nat):List dg:=(List.range m).map fun i=>hF (a2.getD i ⟨pJ,0,false⟩) i a
end Go.S
