import Derived.Test.YtficmdggjjepmaaGreatMA
set_option linter.all false
set_option maxRecDepth 100000
set_option maxHeartbeats 8000000
namespace Go.S
open Go.Sx Go.Proofs
structure SC(d:DB):Prop where
 tw:TW d.al
 jd:d.aj.Pairwise (λa b=>a.s<b.s)
 sa:∀w∈d.aj,0<=w.s/\w.s<8
 log:∀w∈d.aj,(∀x∈w.log,HO d.al x)/\w.log.length<=60
 aXC:fQz d
 hu:HU d.holds
 hw:∀x∈d.holds,∃w∈d.aj,w.s=x.s
 hc:∀x∈d.holds,∀y∈d.holds,fS x y=false
 lg:∀w∈d.aj,∀c∈w.log,∃x∈d.holds,x.s=w.s/\x.table=c.table/\x.x=true
structure G4 where
 b1:Option Addr
 n1:Nat
 c1:Nat
 b2:Option Addr
 n2:Nat
 c2:Nat
 b3:Option Addr
 n3:Nat
 c3:Nat
 b4:Option Addr
 n4:Nat
 c4:Nat
structure gQt(n:Nat)(hd:bJ)(D:DB×Int)(m f:Nat)(d0:DB):Prop where
 sc:SC d0
 hb:d0.holds.length<=n
 wb:(bO d0.waits hd.s).length<=n
 wc:d0.waits.length<=n+1
 wk:∃w∈d0.aj,w.s=hd.s
 eq:kC f d0 hd=D
 fl:d0.holds.length<f
 ms:m=d0.holds.length
structure zg(n:Nat)(hd:bJ)(d1:DB)(i:Nat)(w:eG)(j:Nat)(t:bM):Prop where
 sc:SC d1
 ok:vW (n+1) d1
 wi:d1.aj[i]? =some w
 ws:w.s=hd.s
 bi:dE (cG d1.aj hd.s)=i
 tj:d1.al[j]? =some t
 tn:t.S.name=hd.table
 bj:dE (aF d1.al hd.table)=j
 hl:∃x∈d1.holds,x.s=hd.s/\x.table=hd.table/\(x.x|| !hd.x)=true
end Go.S
