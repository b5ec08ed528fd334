import Derived.Test.YtekoaiendgjkdaaGreatWB
import Derived.Test.YtekoaiendgjkdaaGreatQC
set_option linter.unusedVariables false
set_option linter.unusedSimpArgs false
set_option linter.unusedSectionVars false
set_option maxRecDepth 100000
set_option maxHeartbeats 8000000
namespace Go.S
open Go.Sx
def a9(k n:Nat):By:=match k with
 |0=>[97,32,60,32]++cj n
 |1=>[97,32,61,32]++cj n
 |2=>[98,32,105,115,32,110,117,108,108]
 |3=>[110,111,116,32,98,32,105,115,32,110,117,108,108,32,97,110,100,32,97,32,62,32]++cj n
 |_=>[98,32,61,32,110,117,108,108]
def o8(k n:Nat):List Wd:=match k with
 |0=>[wd [97],ud 60,sE n]
 |1=>[wd [97],ud 61,sE n]
 |2=>[wd [98],wd [105,115],wd [110,117,108,108]]
 |3=>[wd [110,111,116],wd [98],wd [105,115],wd [110,117,108,108],wd [97,110,100],wd [97],ud 62,sE n]
 |_=>[wd [98],ud 61,wd [110,117,108,108]]
def mj:Nd:=eJ (ax [97])
def qy:Nd:=eJ (ax [98])
def hQ(k n:Nat):List Nd:=match k with
 |0=>[mj,lit (iN n),bin 10 0 1]
 |1=>[mj,lit (iN n),bin 8 0 1]
 |2=>[qy,un 5 0]
 |3=>[qy,un 5 0,un 3 1,mj,lit (iN n),bin 12 3 4,bin 7 2 5]
 |_=>[qy,lit v0,bin 8 0 1]
def hC:By:=[115,101,108,101,99,116,32,97,32,102,114,111,109,32,116,97,32,119,104,101,114,101,32]
def hH:By:=[100,101,108,101,116,101,32,102,114,111,109,32,116,97,32,119,104,101,114,101,32]
def hY(ws:List Wd):List Wd:=wd [115,101,108,101,99,116]::wd [97]::wd [102,114,111,109]::wd [116,97]::wd [119,104,101,114,101]::ws
def im(ws:List Wd):List Wd:=wd [100,101,108,101,116,101]::wd [102,114,111,109]::wd [116,97]::wd [119,104,101,114,101]::ws
def hZ(k n:Nat):az:={ kind:=6,table:=iB 0,items:=[⟨0,[mj]⟩],bM:=hQ k n,fw:=-1 }
def iv(k n:Nat):az:={ kind:=5,table:=iB 0,bM:=hQ k n }
def mc(k n:Nat)(a:Int)(v:dg):Bool:=match k with
 |0=>decide (a<n)
 |1=>decide (a=n)
 |2=>decide (v.k=0)
 |3=>decide (v.k≠0)&&decide (a>n)
 |_=>false
def ba(r:Row):dg:=(r[1]?).getD v0
def o9(k n:Nat)(r:Row):Bool:=mc k n (aN r) (ba r)
open Go.Sx Go.Proofs
def pc(n:Nat):List By:=[a9 0 n,a9 1 n,a9 2 n,a9 3 n,a9 4 n]
def na:Sh Bool where
 n:=1
 R _ cs v:=cs=[.bool v]
 len:=by rintro h cs x rfl;rfl
 one:=by rintro h cs x rfl;rfl
 a5:=[]
 mono:=fun _ q=>q
def mb(n:Nat)(a:Int)(v:dg):List Bool:=[decide (a<n),decide (a=n),decide (v.k=0),decide (v.k≠0)&&decide (a>n),false]
end Go.S
