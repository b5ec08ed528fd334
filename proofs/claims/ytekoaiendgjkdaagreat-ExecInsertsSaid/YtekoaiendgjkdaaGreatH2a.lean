import Derived.Test.YtekoaiendgjkdaaGreatH1
import Derived.Test.YtekoaiendgjkdaaGreatGC
set_option linter.unusedVariables false
set_option linter.unusedSimpArgs false
set_option linter.unusedSectionVars false
set_option maxRecDepth 100000
set_option maxHeartbeats 4000000
namespace Go.S
open Go.Sx Go.Proofs
def kK(r:Row):Prop:=∃a v,r=[⟨2,a,oy⟩,v]/\(v=⟨0,0,oy⟩\/∃s,v=⟨3,0,s⟩/\s.size<=60)
theorem rj(s:ByteArray):eG s s=0:=by
 unfold eG;have h:∀l:List UInt8,Lib.compareBytes l l=0:=fun l=>by
  induction l with
  |nil=>rfl
  |cons x r ih=>unfold Lib.compareBytes;simp[ih]
 exact h _
theorem wF(a:Int):mF a a=0:=by unfold mF;simp
theorem yv(v:cR):cg v v=0:=by unfold cg;simp[dh,wF,rj]
theorem kK.fits{r:Row}(h:kK r):bM bl r=0:=by
 obtain⟨a,v,rfl,hv⟩:=h;have e0:¬((oy.size:Int)>60):=by decide
 have e1:cC ⟨2,a,oy⟩=0:=by have:(⟨#[]⟩:ByteArray)=oy:=rfl;simp[cC,mj,jd,this,e0]
 have e2:cC v=0/\(v.k=0\/v.k=3):=by
  rcases hv with rfl| ⟨s,rfl,hs⟩
  ·refine⟨?_,.inl rfl⟩;have:(⟨#[]⟩:ByteArray)=oy:=rfl;simp[cC,mj,jd,this,e0]
  ·refine⟨?_,.inr rfl⟩;have:¬((s.size:Int)>60):=by omega
   simp[cC,mj,jd,this]
 have f1:bG ⟨nA,2,false⟩ ⟨2,a,oy⟩=0:=by simp[bG,e1]
 have f2:bG ⟨⟨#[98]⟩,3,true⟩ v=0:=by unfold bG;rw[e2.1];rcases e2.2 with h|h<;>simp[h]
 unfold bM;simp[bl,f1,f2,dh]
def Rx:ByteArray:=⟨#[116,99]⟩
def only1(r:Row):DB:=⟨[cI 0,cI 1,⟨bN 2,[r]⟩],[⟨0,[⟨Rx,1,r⟩],[]⟩],[⟨0,Rx,true⟩],[]⟩
def only2(r:Row):DB:=⟨[⟨bN 0,[r]⟩,cI 1,⟨bN 2,[r]⟩],[⟨0,[⟨Rx,1,r⟩,⟨Jb,1,r⟩],[]⟩],[⟨0,Rx,true⟩,⟨0,Jb,true⟩],[]⟩
def only4(r:Row):DB:=⟨[⟨bN 0,[]⟩,cI 1,⟨bN 2,[r]⟩],[⟨0,[⟨Rx,1,r⟩,⟨Jb,1,r⟩,⟨Jb,2,r⟩],[]⟩],[⟨0,Rx,true⟩,⟨0,Jb,true⟩],[]⟩
end Go.S
