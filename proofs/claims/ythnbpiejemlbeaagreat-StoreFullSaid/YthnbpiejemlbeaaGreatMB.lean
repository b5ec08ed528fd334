import Derived.Test.YthnbpiejemlbeaaGreatMA
set_option linter.all false
set_option maxRecDepth 100000
set_option maxHeartbeats 8000000
namespace Go.S
open Go.Sx Go.Proofs
structure SC(d:DB):Prop where
 tw:TW d.aj
 gz:d.ah.Pairwise (λa b=>a.s<b.s)
 oE:∀w∈d.ah,0<=w.s/\w.s<8
 log:∀w∈d.ah,(∀x∈w.log,De d.aj x)/\w.log.length<=60
 aKt:dKm d
 hu:HU d.holds
 hw:∀x∈d.holds,∃w∈d.ah,w.s=x.s
 hc:∀x∈d.holds,∀y∈d.holds,dm x y=false
 lg:∀w∈d.ah,∀c∈w.log,∃x∈d.holds,x.s=w.s/\x.table=c.table/\x.x=true
structure G4 where
 b1:Option Addr
 n1:Nat
 c1:Nat
 b2:Option Addr
 n2:Nat
 c2:Nat
 b3:Option Addr
 n3:Nat
 c3:Nat
 b4:Option Addr
 n4:Nat
 c4:Nat
structure bKT(n:Nat)(hd:bG)(D:DB×Int)(m f:Nat)(d0:DB):Prop where
 sc:SC d0
 hb:d0.holds.length<=n
 wb:(bA d0.waits hd.s).length<=n
 wc:d0.waits.length<=n+1
 wk:∃w∈d0.ah,w.s=hd.s
 eq:kZ f d0 hd=D
 fl:d0.holds.length<f
 ms:m=d0.holds.length
structure Bh(n:Nat)(hd:bG)(d1:DB)(i:Nat)(w:ep)(j:Nat)(t:bJ):Prop where
 sc:SC d1
 ok:pQ (n+1) d1
 wi:d1.ah[i]? =some w
 ws:w.s=hd.s
 bi:cR (bH d1.ah hd.s)=i
 tj:d1.aj[j]? =some t
 tn:t.S.name=hd.table
 bj:cR (aB d1.aj hd.table)=j
 hl:∃x∈d1.holds,x.s=hd.s/\x.table=hd.table/\(x.x|| !hd.x)=true
end Go.S
