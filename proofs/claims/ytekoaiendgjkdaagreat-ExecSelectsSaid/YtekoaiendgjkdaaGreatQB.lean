import Derived.Test.YtekoaiendgjkdaaGreatQA
import Derived.Test.YtekoaiendgjkdaaGreatVB
import Derived.Test.YtekoaiendgjkdaaGreatEB
import Derived.Test.YtekoaiendgjkdaaGreatGB
import Derived.Test.YtekoaiendgjkdaaGreatGC
set_option linter.unusedVariables false
set_option linter.unusedSimpArgs false
set_option linter.unusedSectionVars false
set_option maxRecDepth 100000
set_option maxHeartbeats 8000000
namespace Go.S
open Go.Sx Go.Proofs
def Jj(p:Value):Sh Nat where
 n:=1
 R _ cs g:=cs=[.func (.func g) #[] #[p]]
 len:=by rintro h cs x rfl;rfl
 one:=by rintro h cs x rfl;rfl
 a5:=[]
 mono:=fun _ q=>q
abbrev I3:List Nat:=[51,165,59,61,55,148,161,205]
abbrev mq:List Nat:=[165,325,9,42,276]
structure dS(h:ad)(pb:Nat)(d:DB)(s:Int)(x:az):Prop where
 out:∃b1 n1 c1 b2 n2 c2 b3 n3 c3 b4 n4 c4 b5 n5 c5 b6 n6 c6 b7 n7 c7 b8 n8 c8 b9 n9 c9 fG gG fF,h pb=some (.cells #[.slice b1 n1 c1,.slice b2 n2 c2,.slice b3 n3 c3,.slice b4 n4 c4,.int .i64 s,.int .i64 x.kind,.string x.mS.name,.slice b5 n5 c5,.int .i64 x.mS.key,.bool x.mS.only,.string x.table,.string x.join,.slice b6 n6 c6,.slice b7 n7 c7,.slice b8 n8 c8,.slice b9 n9 c9,.slice fG gG fF,.string x.group,.string x.order,.bool x.desc,.int .i64 x.fw,.string x.name] 101 (0,0))/\gj h (.agg #[.slice b1 n1 c1,.slice b2 n2 c2,.slice b3 n3 c3,.slice b4 n4 c4]) d/\Sl 165 bt h (.slice b5 n5 c5) x.mS.a2/\Sl 325 dh h (.slice b6 n6 c6) x.on/\Sl 9 cB h (.slice b7 n7 c7) x.names/\Sl 42 fB h (.slice b8 n8 c8) x.exprs/\Sl 276 cm h (.slice b9 n9 c9) x.items/\Sl 325 dh h (.slice fG gG fF) x.bM
structure H0(B h:ad)(ob:Nat)(l:Row):Prop where
 out:∃b n c,h ob=some (.cells #[.slice b n c] 59 (0,0))/\cX 61 bq B h (.slice b n c) l
 le:Le B h
 no:B ob=none
def mI(ex:List Nd):Prop:=∀n∈ex,Nm n.name/\lj n.v
structure eG(x:az):Prop where
 on:mI x.on
 bM:mI x.bM
 exprs:∀e∈x.exprs,mI e
 items:∀i∈x.items,mI i.e
 len:x.exprs.length<=2^20
 names:x.kind=4->x.exprs.length=x.names.length
 group:Nm x.group
 order:Nm x.order
 YZ:x.items.length<=2^20
 ni:x.names.length<=2^20
def ny(nm:ByteArray)(c:bT):bT:=⟨nm++ax [46]++c.name,c.kind,c.null⟩
end Go.S
