import Derived.Test.YthnbpiejemlbeaaGreatBJ
import Derived.Test.YthnbpiejemlbeaaGreatBE
set_option linter.all false
set_option maxRecDepth 100000
set_option maxHeartbeats 1000000
namespace Go.S
open Go.Sx Go.Proofs
open Go.MapKept
structure Dx(bB:List jF)(key:Int)(R:List Row):Prop where
 k0:0<=key
 k1:key<(bB.length:Int)
 fit:∀r∈R,eF bB r=0
 gL:R.Pairwise (λa b=>dg (keyOf key a) (keyOf key b)<0)
 le:R.length<=200
 cl:bB.length<=6
def CE(t:ca):Prop:=Dx t.S.bB t.S.key t.rows
def ma:Row->Row->Bool
 | [],[]=>true
 |a::r,b::s=>iB a b&&ma r s
 |_,_=>false
def JM(t:ca)(c:cV):ca×Bool:=
 if c.op=1 then((bK t c.row).1,decide ((bK t c.row).2=0))
 else if t.S.only=true then(t,false)
 else if t.S.key>=(c.row.length:Int)then(t,false)
 else if(bE t (keyOf t.S.key c.row)).2.2=0/\ma (bE t (keyOf t.S.key c.row)).2.1 c.row=true then((bE t (keyOf t.S.key c.row)).1,true)else(t,false)
structure VI(d:DB):Prop where
 gL:d.ao.Pairwise (λa b=>dA a.S.name b.S.name<0)
 le:d.ao.length<=8
 ao:∀t∈d.ao,CE t/\t.S.name.size<=12
 ai:d.ai=[]
 holds:d.holds=[]
 waits:d.waits=[]
theorem VI.small{d:DB}(q:VI d):Small d where
 ao:=by have:=q.le;omega
 ai:=by rw[q.ai];exact nr _
 rows:=λt ht=>by have:=(q.ao t ht).1.le;omega
 holds:=by rw[q.holds];exact Nat.two_pow_pos _
 waits:=by rw[q.waits];exact Nat.two_pow_pos _
theorem gKT:VI dz:=⟨List.Pairwise.nil,by decide,λt h=>(by cases h),rfl,rfl,rfl⟩
set_option maxHeartbeats 8000000
end Go.S
