import Derived.Test.YtekoaiendgjkdaaGreatKA
import Derived.Test.YtekoaiendgjkdaaGreatEC
import Derived.Test.YtekoaiendgjkdaaGreatP1
set_option linter.unusedVariables false
set_option linter.unusedSimpArgs false
set_option linter.unusedSectionVars false
set_option maxRecDepth 100000
set_option maxHeartbeats 8000000
namespace Go.S
open Go.Sx Go.Proofs
abbrev r1(h:ad)(d':DB)(k:Value->ad->Prop):Prop:=
 ∀h' b1 n1 c1 b2 n2 c2 b3 n3 c3 b4 n4 c4,Le h h'->RP h' b1 n1 c1 b2 n2 c2 b3 n3 c3 b4 n4 c4 d'->k (.agg #[.slice b1 n1 c1,.slice b2 n2 c2,.slice b3 n3 c3,.slice b4 n4 c4]) h'
structure TW(T:List cE):Prop where
 pH:T.Pairwise (fun a b=>eX a.S.name b.S.name<0)
 ok:∀t∈T,t.S.a2=bB/\t.S.key=0/\SO t.rows/\t.S.name.size<=12
 le:T.length<=8
structure AF(T:List cE)(x:iX):Prop where
 row:lN x.row
 op:x.op=1\/x.op=2
 at_:∃t∈T,t.S.name=x.table
structure q0 where
 w:R3
 lb:Option Addr
 ln:Nat
 lc:Nat
structure SI(d:DB):Prop where
 tw:TW d.aE
 pH:d.au.Pairwise (fun a b=>a.s<b.s)
 so:∀w∈d.au,0<=w.s/\w.s<8
 log:∀w∈d.au,(∀x∈w.log,AF d.aE x)/\w.log.length<=60
 holds:d.holds.length<=2^17
 waits:d.waits.length<=2^17
end Go.S
