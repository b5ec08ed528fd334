import Derived.Test.YthnbpiejemlbeaaGreatGC
set_option linter.all false
set_option maxRecDepth 100000
set_option maxHeartbeats 16000000
namespace Go.S
open Go.Sx Go.Proofs
def jx:ByteArray:=⟨#[116,97]⟩
set_option maxHeartbeats 4000000
def fY(r:Row):Prop:=∃a v,r=[⟨2,a,dZ⟩,v]/\(v=⟨0,0,dZ⟩\/∃s,v=⟨3,0,s⟩/\s.size<=60)
theorem cXz(n:Int):fY (AU bG n 2):=by
 refine⟨GX 0 n,mU ⟨⟨#[98]⟩,3,true⟩ 1 n,by simp[AU,List.range,List.range.loop,bG,mU],?_⟩;unfold mU;by_cases h:n % 5=0
 .left;simp[h]
 right;refine⟨pY.extract 0 (GX 1 n % 9).toNat,by simp[h],?_⟩;have a:pY.size=26:=by kernel_rfl
 have:(pY.extract 0 (GX 1 n % 9).toNat).size<=26:=by rw[ByteArray.size_extract];omega
 omega
theorem xH(s:ByteArray):dA s s=0:=by
 unfold dA;have h:∀l:List UInt8,Lib.compareBytes l l=0:=λl=>by
  induction l with
  |nil=>rfl
  |cons x r i=>unfold Lib.compareBytes;simp[i]
 exact h _
theorem Cz(a:Int):jc a a=0:=by unfold jc;simp
theorem fY.fits{r:Row}(h:fY r):eF bG r=0:=by
 obtain⟨a,v,rfl,d⟩:=h;have e:¬((dZ.size:Int)>60):=by decide
 have e1:dR ⟨2,a,dZ⟩=0:=by have:(⟨#[]⟩:ByteArray)=dZ:=rfl;simp[dR,iB,iR,this,e]
 have b:dR v=0/\(v.k=0\/v.k=3):=by
  rcases d with rfl| ⟨s,rfl,g⟩
  .refine⟨?_,.inl rfl⟩;have:(⟨#[]⟩:ByteArray)=dZ:=rfl;simp[dR,iB,iR,this,e]
  refine⟨?_,.inr rfl⟩;have:¬((s.size:Int)>60):=by omega
  simp[dR,iB,iR,this]
 have f:dM ⟨nA,2,false⟩ ⟨2,a,dZ⟩=0:=by simp[dM,e1]
 have c:dM ⟨⟨#[98]⟩,3,true⟩ v=0:=by unfold dM;rw[b.1];rcases b.2 with h|h<;>simp[h]
 unfold eF;simp[bG,f,c,fk]
def hX(s:Int):bU:=⟨s,jx,true⟩
theorem lG(t:ca)(r:Row):(bK t r).1.S=t.S:=by
 unfold bK;repeat' split
 all_goals rfl
theorem kR(t:ca)(k:jd):(bE t k).1.S=t.S:=by unfold bE;split<;>rfl
theorem Ac{t:ca}{S:tE}(h:t.S=S):t=⟨S,t.rows⟩:=by cases t;simp at h;rw[h]
end Go.S
namespace Go.Sx
end Go.Sx
namespace Go.S
open Go.Sx Go.Proofs
abbrev bZi.cells(v:bZi):List Value:=[.slice v.b1 v.n1 v.c1,.slice v.b2 v.n2 v.c2,.slice v.b3 v.n3 v.c3,.slice v.b4 v.n4 v.c4]
abbrev bZi.val(v:bZi):Value:=.agg #[.slice v.b1 v.n1 v.c1,.slice v.b2 v.n2 v.c2,.slice v.b3 v.n3 v.c3,.slice v.b4 v.n4 v.c4]
def w0:bZi:=⟨none,0,0,none,0,0,none,0,0,none,0,0⟩
end Go.S
