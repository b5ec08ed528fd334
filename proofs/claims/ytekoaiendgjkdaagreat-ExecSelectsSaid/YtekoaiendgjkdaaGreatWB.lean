import Derived.Test.YtekoaiendgjkdaaGreatWA
import Derived.Test.YtekoaiendgjkdaaGreatQA
import Derived.Test.YtekoaiendgjkdaaGreatI2a
import Derived.Test.YtekoaiendgjkdaaGreatGB
import Derived.Test.YtekoaiendgjkdaaGreatQF
set_option linter.unusedVariables false
set_option linter.unusedSimpArgs false
set_option linter.unusedSectionVars false
set_option maxRecDepth 100000
set_option maxHeartbeats 8000000
namespace Go.S
open Go.Sx Go.Proofs
def Ja(t:Nat):UInt8:=UInt8.ofNat (97+t)
def oI(t:Nat):By:=[105,110,115,101,114,116,32,105,110,116,111,32,116]++(Ja t::[32,118,97,108,117,101,115,32,40])
def pT(n x y t:Nat):By:=oI t++(if n<3 then cj x++([44,32,39,118]++(cj y++[39,41]))else cj x++([32,43,32]++(cj y++[44,32,110,117,108,108,41])))
def NL:List ByteArray:=[ax [116,97],ax [116,98],ax [116,99]]
def So:List ByteArray:=[ax [116,98],ax [116,99],ax [116,97]]
open Go.Sx
structure AG where
 s:Int
 n:Int
 a:Int
 b:Int
def lR:Sh AG where
 n:=4
 R _ cs v:=cs=[.int .i64 v.s,.int .i64 v.n,.int .i64 v.a,.int .i64 v.b]
 len:=by rintro h cs x rfl;rfl
 one:=by rintro h cs x rfl;rfl
 a5:=[]
 mono:=fun _ q=>q
def iB(t:Nat):ByteArray:=ax [116,Ja t]
def sU(t:Nat)(ws:List Wd):List Wd:=wd [105,110,115,101,114,116]::wd [105,110,116,111]::wd [116,Ja t]::wd [118,97,108,117,101,115]::ud 40::ws
def lU(t:Nat)(es:List (List Nd)):az:={ kind:=3,table:=iB t,exprs:=es }
def lY(n x y:Nat):Row:=if n<3 then [iN x,iT (118::cj y)]else [iN ((x:Int)+y),v0]
structure AJ(R:Nat->List Row)(log:List iX)(d:DB):Prop where
 aE:d.aE=[⟨aT 0,R 0⟩,⟨aT 1,R 1⟩,⟨aT 2,R 2⟩]
 au:d.au=[⟨0,log,[]⟩]
 holds:∀h∈d.holds,h.s=0
 waits:d.waits=[]
def Sw(R:Nat->List Row)(t:Nat)(X:List Row):Nat->List Row:=fun j=>if j=t then X else R j
def CJ(r:Row):Prop:=∃(a:Int) (v:dg),r=[iN a,v]/\0<=a/\a<2000/\(v=v0\/∃x,v=iT x/\x.length<=10)
structure AL(m:Nat)(R:Nat->List Row)(log:List iX)(d:DB):Prop where
 aj:AJ R log d
 ej:EJ (2*m) d
 rp:∀t,t<3->∀r∈R t,CJ r
 ln:(R 0).length+(R 1).length+(R 2).length=log.length
 le:log.length<=m
structure j1 where
 b1:Option Addr
 n1:Nat
 c1:Nat
 b2:Option Addr
 n2:Nat
 c2:Nat
 b3:Option Addr
 n3:Nat
 c3:Nat
 b4:Option Addr
 n4:Nat
 c4:Nat
def j1.v(g:j1):Value:=.agg #[.slice g.b1 g.n1 g.c1,.slice g.b2 g.n2 g.c2,.slice g.b3 g.n3 g.c3,.slice g.b4 g.n4 g.c4]
def qn:List ByteArray:=[⟨#[115,101,108,101,99,116,32,42,32,102,114,111,109,32,116,97,32,119,104,101,114,101,32,97]⟩,⟨#[115,101,108,101,99,116,32,97,32,43,32,98,32,102,114,111,109,32,116,97]⟩,⟨#[117,112,100,97,116,101,32,116,97,32,115,101,116,32,97,32,61,32,98]⟩,⟨#[117,112,100,97,116,101,32,116,97,32,115,101,116,32,98,32,61,32,49]⟩,⟨#[115,101,108,101,99,116,32,115,117,109,40,98,41,32,102,114,111,109,32,116,97]⟩,⟨#[115,101,108,101,99,116,32,97,44,32,99,111,117,110,116,40,42,41,32,102,114,111,109,32,116,97]⟩,⟨#[115,101,108,101,99,116,32,97,32,102,114,111,109,32,116,97,32,103,114,111,117,112,32,98,121,32,98]⟩,⟨#[115,101,108,101,99,116,32,42,32,102,114,111,109,32,116,97,32,103,114,111,117,112,32,98,121,32,98]⟩,⟨#[115,101,108,101,99,116,32,98,44,32,99,111,117,110,116,40,42,41,32,102,114,111,109,32,116,97,32,103,114,111,117,112,32,98,121,32,98,32,111,114,100,101,114,32,98,121,32,97]⟩,⟨#[115,101,108,101,99,116,32,42,32,102,114,111,109,32,116,97,32,106,111,105,110,32,116,98,32,111,110,32,116,97,46,97]⟩,⟨#[100,101,108,101,116,101,32,102,114,111,109,32,116,97,32,119,104,101,114,101,32,97,32,43,32,49]⟩,⟨#[115,101,108,101,99,116,32,110,111,116,32,97,32,102,114,111,109,32,116,97]⟩]
def dN:List bT:=aJ (cL 0)
def fc:List bT:=aJ (cL 1)
def qo(t:ByteArray):Bool:=ek t&&m8 (dk ao t).1&&decide ((dk ao t).1.table=iB 0)&&
 ((decide ((dk ao t).1.kind=6)&&decide ((dk ao t).1.join=b0)&&decide ((dm (dk ao t).1 dN).2=3))||
 (decide ((dk ao t).1.kind=6)&&decide ((dk ao t).1.join=iB 1)&&decide ((dm (dk ao t).1 (dN++fc)).2=3))||
 (decide ((dk ao t).1.kind=4)&&decide (jL (cL 0) (dk ao t).1=3))||
 (decide ((dk ao t).1.kind=5)&&decide (aF (dk ao t).1.bM dN=3)))
theorem LQ(t:Nat)(X:List Row):aJ ⟨aT t,X⟩=aJ (cL t):=rfl
theorem yK(t:Nat)(X:List Row)(st:az):jL ⟨aT t,X⟩ st=jL (cL t) st:=rfl
def qt:ByteArray:=⟨#[115,101,108,101,99,116,32,42,32,102,114,111,109,32,116,97,32,106,111,105,110,32,116,98,32,111,110,32,116,97,46,97,32,60,61,32,116,98,46,97]⟩
def qH:az:={ kind:=6,table:=iB 0,join:=iB 1,on:=[eJ (ax [116,97,46,97]),eJ (ax [116,98,46,97]),bin 11 0 1],fw:=-1 }
def aN(r:Row):Int:=(r.headD v0).n
def jn(a:Row)(bs:List Row):List Row:=(bs.filter fun b=>decide (aN a<=aN b)).map (a++·)
def CN(l bs:List Row):List Row:=l.flatMap fun a=>jn a bs
end Go.S
