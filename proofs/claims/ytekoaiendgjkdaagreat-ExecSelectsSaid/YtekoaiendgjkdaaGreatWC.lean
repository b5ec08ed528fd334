import Derived.Test.YtekoaiendgjkdaaGreatWB
import Derived.Test.YtekoaiendgjkdaaGreatQC
set_option linter.unusedVariables false
set_option linter.unusedSimpArgs false
set_option linter.unusedSectionVars false
set_option maxRecDepth 100000
set_option maxHeartbeats 8000000
namespace Go.S
open Go.Sx
def Gu(k n:Nat):By:=match k with
 |0=>[97,32,60,32]++dk n
 |1=>[97,32,61,32]++dk n
 |2=>[98,32,105,115,32,110,117,108,108]
 |3=>[110,111,116,32,98,32,105,115,32,110,117,108,108,32,97,110,100,32,97,32,62,32]++dk n
 |_=>[98,32,61,32,110,117,108,108]
def eJn(k n:Nat):List Wd:=match k with
 |0=>[wd [97],Ax 60,ur n]
 |1=>[wd [97],Ax 61,ur n]
 |2=>[wd [98],wd [105,115],wd [110,117,108,108]]
 |3=>[wd [110,111,116],wd [98],wd [105,115],wd [110,117,108,108],wd [97,110,100],wd [97],Ax 62,ur n]
 |_=>[wd [98],Ax 61,wd [110,117,108,108]]
def cA:Nd:=iP (aM [97])
def cB:Nd:=iP (aM [98])
def Gv(k n:Nat):List Nd:=match k with
 |0=>[cA,lit (iN n),bin 10 0 1]
 |1=>[cA,lit (iN n),bin 8 0 1]
 |2=>[cB,un 5 0]
 |3=>[cB,un 5 0,un 3 1,cA,lit (iN n),bin 12 3 4,bin 7 2 5]
 |_=>[cB,lit v0,bin 8 0 1]
def xE:By:=[115,101,108,101,99,116,32,97,32,102,114,111,109,32,116,97,32,119,104,101,114,101,32]
def yu:By:=[100,101,108,101,116,101,32,102,114,111,109,32,116,97,32,119,104,101,114,101,32]
def aZa(ws:List Wd):List Wd:=wd [115,101,108,101,99,116]::wd [97]::wd [102,114,111,109]::wd [116,97]::wd [119,104,101,114,101]::ws
def bQP(ws:List Wd):List Wd:=wd [100,101,108,101,116,101]::wd [102,114,111,109]::wd [116,97]::wd [119,104,101,114,101]::ws
def kO(k n:Nat):aJ:={ kind:=6,table:=gN 0,items:=[⟨0,[cA]⟩],bV:=Gv k n,eG:=-1 }
def Au(k n:Nat):aJ:={ kind:=5,table:=gN 0,bV:=Gv k n }
def eJo(k n:Nat)(a:Int)(v:cO):Bool:=match k with
 |0=>decide (a<n)
 |1=>decide (a=n)
 |2=>decide (v.k=0)
 |3=>decide (v.k≠0)&&decide (a>n)
 |_=>false
def dXy(r:Row):cO:=(r[1]?).getD v0
def Az(k n:Nat)(r:Row):Bool:=eJo k n (aN r) (dXy r)
theorem QO(a:Int)(v:cO):bS [[cA]] aZ [iN a,v]=([iN a],0):=by kernel_rfl
theorem AL.sr{m:Nat}{R:Nat->List Row}{log:List dV}{d:DB}(q:AL m R log d){t:Nat}(ht:t<3):SR (R t):=by have hg:=(q.aj.dXw ht).2;have:=(q.ej.sj.sc.tw.ok _ (List.mem_of_getElem? hg)).2.2.1;exact this.sr
open Go.Sx Go.Proofs
def hZd(n:Nat):List By:=[Gu 0 n,Gu 1 n,Gu 2 n,Gu 3 n,Gu 4 n]
def bJZ:Sh Bool where
 n:=1
 R _ cs v:=cs=[.bool v]
 len:=by rintro h cs x rfl;rfl
 one:=by rintro h cs x rfl;rfl
 tys:=[]
 mono:=fun _ q=>q
def dQU(n:Nat)(a:Int)(v:cO):List Bool:=[decide (a<n),decide (a=n),decide (v.k=0),decide (v.k≠0)&&decide (a>n),false]
theorem LQ{α:Type}{A:Ar}[hA:bM A]{e:Nat}{s:Sh α}{h:ad}{b:Option Addr}{n c:Nat}{xs:List α}(q:Sl e s h (.slice b n c) xs){z:Int}{i:Nat}(hi:i<=n){m c':Nat}(hm:m=i)(hc:i<=c'):
 Sl e s h (.slice (A .cut b 0 z s.n) m c') (xs.take i):=by
 obtain⟨b',cap,h1,h2,h3,h4⟩:=q.out;cases h1;subst hm;have hl:(xs.take m).length=m:=by rw[List.length_take];omega
 refine⟨_,_,by rw[hl],by rw[hl];exact hc,by rw[hl];omega,?_⟩;rcases h4 with rfl| ⟨oB,off,cc,fr,rfl,g2,g3⟩
 ·simp
 ·right;refine⟨oB,off,cc,fr,?_,g2,g3.take _⟩;simp only[hA.cut];split
  ·rfl
  ·simp[dF]
end Go.S
