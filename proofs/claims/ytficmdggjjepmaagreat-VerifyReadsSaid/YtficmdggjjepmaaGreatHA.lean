import Derived.Test.YtficmdggjjepmaaGreatGC
set_option linter.all false
set_option maxRecDepth 100000
set_option maxHeartbeats 16000000
namespace Go.S
open Go.Sx Go.Proofs
def kz:ByteArray:=⟨#[116,97]⟩
set_option maxHeartbeats 4000000
def iJ(r:Row):Prop:=∃a v,r=[⟨2,a,fy⟩,v]/\(v=⟨0,0,fy⟩\/∃s,v=⟨3,0,s⟩/\s.size<=60)
theorem sH(s:ByteArray):cU s s=0:=by
 unfold cU;have h:∀l:List UInt8,Lib.compareBytes l l=0:=λl=>by
  induction l with
  |nil=>rfl
  |cons x r i=>unfold Lib.compareBytes;simp[i]
 exact h _
theorem xH(a:Int):fY a a=0:=by unfold fY;simp
theorem xM(v:gI):bY v v=0:=by unfold bY;simp[dR,xH,sH]
def hX(s:Int):bJ:=⟨s,kz,true⟩
theorem mM(t:bM)(r:Row):(bq t r).1.S=t.S:=by
 unfold bq;repeat' split
 all_goals rfl
theorem mu(t:bM)(k:gI):(aS t k).1.S=t.S:=by unfold aS;split<;>rfl
end Go.S
namespace Go.Sx
end Go.Sx
namespace Go.S
open Go.Sx Go.Proofs
abbrev aQc.cells(v:aQc):List Value:=[.slice v.b1 v.n1 v.c1,.slice v.b2 v.n2 v.c2,.slice v.b3 v.n3 v.c3,.slice v.b4 v.n4 v.c4]
abbrev aQc.val(v:aQc):Value:=.agg #[.slice v.b1 v.n1 v.c1,.slice v.b2 v.n2 v.c2,.slice v.b3 v.n3 v.c3,.slice v.b4 v.n4 v.c4]
def w0:aQc:=⟨none,0,0,none,0,0,none,0,0,none,0,0⟩
end Go.S
