import Derived.Test.YtekoaiendgjkdaaGreatMA
set_option linter.unusedVariables false
set_option linter.unusedSimpArgs false
set_option linter.unusedSectionVars false
set_option maxRecDepth 100000
set_option maxHeartbeats 8000000
namespace Go.S
open Go.Sx Go.Proofs
structure SC(d:DB):Prop where
 tw:TW d.aE
 pH:d.au.Pairwise (fun a b=>a.s<b.s)
 so:∀w∈d.au,0<=w.s/\w.s<8
 log:∀w∈d.au,(∀x∈w.log,AF d.aE x)/\w.log.length<=60
 QN:hK d
 hu:HU d.holds
 hw:∀x∈d.holds,∃w∈d.au,w.s=x.s
 hc:∀x∈d.holds,∀y∈d.holds,fY x y=false
 lg:∀w∈d.au,∀c∈w.log,∃x∈d.holds,x.s=w.s/\x.table=c.table/\x.x=true
structure G4 where
 b1:Option Addr
 n1:Nat
 c1:Nat
 b2:Option Addr
 n2:Nat
 c2:Nat
 b3:Option Addr
 n3:Nat
 c3:Nat
 b4:Option Addr
 n4:Nat
 c4:Nat
structure r3(n:Nat)(hd:bZ)(D:DB×Int)(m f:Nat)(d0:DB):Prop where
 sc:SC d0
 hb:d0.holds.length<=n
 wb:(bQ d0.waits hd.s).length<=n
 wc:d0.waits.length<=n+1
 wk:∃w∈d0.au,w.s=hd.s
 eq:gH f d0 hd=D
 fl:d0.holds.length<f
 ms:m=d0.holds.length
structure uO(n:Nat)(hd:bZ)(d1:DB)(i:Nat)(w:dO)(j:Nat)(t:cE):Prop where
 sc:SC d1
 ok:wX (n+1) d1
 wi:d1.au[i]? =some w
 ws:w.s=hd.s
 bi:dr (cA d1.au hd.s)=i
 tj:d1.aE[j]? =some t
 tn:t.S.name=hd.table
 bj:dr (aR d1.aE hd.table)=j
 hl:∃x∈d1.holds,x.s=hd.s/\x.table=hd.table/\(x.x|| !hd.x)=true
end Go.S
