import Derived.Test.YthnbpiejemlbeaaGreatGC
set_option linter.all false
set_option maxRecDepth 100000
set_option maxHeartbeats 16000000
namespace Go.S
open Go.Sx Go.Proofs
def iY:ByteArray:=⟨#[116,97]⟩
set_option maxHeartbeats 4000000
def gC(r:Row):Prop:=∃a v,r=[⟨2,a,dQ⟩,v]/\(v=⟨0,0,dQ⟩\/∃s,v=⟨3,0,s⟩/\s.size<=60)/\-2^63<=a/\a<2^63
theorem cJf(n:Int):gC (BB bI n 2):=by
 refine⟨GK 0 n,nE ⟨⟨#[98]⟩,3,true⟩ 1 n,by simp[BB,List.range,List.range.loop,bI,nE],?_,by grind [GK]⟩;unfold nE;by_cases h:n % 5=0
 .left;simp[h]
 right;refine⟨qY.extract 0 (GK 1 n % 9).toNat,by simp[h],?_⟩;have a:qY.size=26:=by kernel_rfl
 have:(qY.extract 0 (GK 1 n % 9).toNat).size<=26:=by rw[ByteArray.size_extract];omega
 omega
theorem yu(s:ByteArray):dy s s=0:=by
 unfold dy;have h:∀l:List UInt8,Lib.compareBytes l l=0:=λl=>by
  induction l with
  |nil=>rfl
  |cons x r i=>unfold Lib.compareBytes;simp[i]
 exact h _
theorem Dl(a:Int):js a a=0:=by unfold js;simp
theorem Mg{a:Int}{v:jq}(h:v=⟨0,0,dQ⟩\/∃s,v=⟨3,0,s⟩/\s.size<=60):eF bI [⟨2,a,dQ⟩,v]=0:=by
 have e:¬((dQ.size:Int)>60):=dl
 have e1:dS ⟨2,a,dQ⟩=0:=by
  grind [dQ,dS,ij,iM]
 have c:dS v=0/\(v.k=0\/v.k=3):=by
  grind [dQ,dS,ij,iM]
 have f:dU ⟨nA,2,false⟩ ⟨2,a,dQ⟩=0:=by simp[dU,e1]
 have b:dU ⟨⟨#[98]⟩,3,true⟩ v=0:=by
  grind [dU]
 unfold eF;simp[bI,f,b,fI]
theorem gC.fits{r:Row}(h:gC r):eF bI r=0:=by obtain⟨a,v,rfl,b,-⟩:=h;exact Mg b
def hX(s:Int):bZ:=⟨s,iY,true⟩
theorem lY(t:bS)(r:Row):(bL t r).1.S=t.S:=by
 unfold bL;repeat' split
 all_goals rfl
theorem lE(t:bS)(k:jq):(bE t k).1.S=t.S:=by unfold bE;split<;>rfl
theorem AF{t:bS}{S:rM}(h:t.S=S):t=⟨S,t.rows⟩:=by cases t;grind
end Go.S
namespace Go.Sx
end Go.Sx
namespace Go.S
open Go.Sx Go.Proofs
abbrev bJE.cells(v:bJE):List Value:=[.slice v.b1 v.n1 v.c1,.slice v.b2 v.n2 v.c2,.slice v.b3 v.n3 v.c3,.slice v.b4 v.n4 v.c4]
abbrev bJE.val(v:bJE):Value:=.agg #[.slice v.b1 v.n1 v.c1,.slice v.b2 v.n2 v.c2,.slice v.b3 v.n3 v.c3,.slice v.b4 v.n4 v.c4]
def w0:bJE:=⟨none,0,0,none,0,0,none,0,0,none,0,0⟩
end Go.S
