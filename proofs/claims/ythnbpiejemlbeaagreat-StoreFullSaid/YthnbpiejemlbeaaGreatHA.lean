import Derived.Test.YthnbpiejemlbeaaGreatGC
set_option linter.all false
set_option maxRecDepth 100000
set_option maxHeartbeats 16000000
namespace Go.S
open Go.Sx Go.Proofs
def jN:ByteArray:=⟨#[116,97]⟩
set_option maxHeartbeats 4000000
def gK(r:Row):Prop:=∃a v,r=[⟨2,a,dM⟩,v]/\(v=⟨0,0,dM⟩\/∃s,v=⟨3,0,s⟩/\s.size<=60)
theorem ue(s:ByteArray):cT s s=0:=by
 unfold cT;have h:∀l:List UInt8,Lib.compareBytes l l=0:=λl=>by
  induction l with
  |nil=>rfl
  |cons x r i=>unfold Lib.compareBytes;simp[i]
 exact h _
theorem zy(a:Int):gY a a=0:=by unfold gY;simp
theorem gK.fits{r:Row}(h:gK r):dx bq r=0:=by
 obtain⟨a,v,rfl,d⟩:=h;have e:¬((dM.size:Int)>60):=by decide
 have e1:da ⟨2,a,dM⟩=0:=by have:(⟨#[]⟩:ByteArray)=dM:=rfl;simp[da,fX,gI,this,e]
 have b:da v=0/\(v.k=0\/v.k=3):=by
  rcases d with rfl| ⟨s,rfl,g⟩
  .refine⟨?_,.inl rfl⟩;have:(⟨#[]⟩:ByteArray)=dM:=rfl;simp[da,fX,gI,this,e]
  refine⟨?_,.inr rfl⟩;have:¬((s.size:Int)>60):=by omega
  simp[da,fX,gI,this]
 have f:cV ⟨nA,2,false⟩ ⟨2,a,dM⟩=0:=by simp[cV,e1]
 have c:cV ⟨⟨#[98]⟩,3,true⟩ v=0:=by unfold cV;rw[b.1];rcases b.2 with h|h<;>simp[h]
 unfold dx;simp[bq,f,c,dX]
def hX(s:Int):bG:=⟨s,jN,true⟩
end Go.S
namespace Go.Sx
end Go.Sx
namespace Go.S
open Go.Sx Go.Proofs
abbrev aZP.cells(v:aZP):List Value:=[.slice v.b1 v.n1 v.c1,.slice v.b2 v.n2 v.c2,.slice v.b3 v.n3 v.c3,.slice v.b4 v.n4 v.c4]
abbrev aZP.val(v:aZP):Value:=.agg #[.slice v.b1 v.n1 v.c1,.slice v.b2 v.n2 v.c2,.slice v.b3 v.n3 v.c3,.slice v.b4 v.n4 v.c4]
def w0:aZP:=⟨none,0,0,none,0,0,none,0,0,none,0,0⟩
end Go.S
