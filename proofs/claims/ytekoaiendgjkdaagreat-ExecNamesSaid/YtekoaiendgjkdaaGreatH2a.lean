import Derived.Test.YtekoaiendgjkdaaGreatH1
import Derived.Test.YtekoaiendgjkdaaGreatGC
set_option linter.unusedVariables false
set_option linter.unusedSimpArgs false
set_option linter.unusedSectionVars false
set_option maxRecDepth 100000
set_option maxHeartbeats 4000000
namespace Go.S
open Go.Sx Go.Proofs
def fc(r:Row):Prop:=∃a v,r=[⟨2,a,kh⟩,v]/\(v=⟨0,0,kh⟩\/∃s,v=⟨3,0,s⟩/\s.size<=60)
theorem xT(s:ByteArray):eI s s=0:=by
 unfold eI;have h:∀l:List UInt8,Lib.compareBytes l l=0:=fun l=>by
  induction l with
  |nil=>rfl
  |cons x r ih=>unfold Lib.compareBytes;simp[ih]
 exact h _
theorem FK(a:Int):mZ a a=0:=by unfold mZ;simp
theorem fc.fits{r:Row}(h:fc r):dO cJ r=0:=by
 obtain⟨a,v,rfl,hv⟩:=h;have e0:¬((kh.size:Int)>60):=by decide
 have e1:fw ⟨2,a,kh⟩=0:=by have:(⟨#[]⟩:ByteArray)=kh:=rfl;simp[fw,oY,kK,this,e0]
 have e2:fw v=0/\(v.k=0\/v.k=3):=by
  rcases hv with rfl| ⟨s,rfl,hs⟩
  ·refine⟨?_,.inl rfl⟩;have:(⟨#[]⟩:ByteArray)=kh:=rfl;simp[fw,oY,kK,this,e0]
  ·refine⟨?_,.inr rfl⟩;have:¬((s.size:Int)>60):=by omega
   simp[fw,oY,kK,this]
 have f1:cQ ⟨nA,2,false⟩ ⟨2,a,kh⟩=0:=by simp[cQ,e1]
 have f2:cQ ⟨⟨#[98]⟩,3,true⟩ v=0:=by unfold cQ;rw[e2.1];rcases e2.2 with h|h<;>simp[h]
 unfold dO;simp[cJ,f1,f2,dP]
def TM:ByteArray:=⟨#[116,99]⟩
def only1(r:Row):DB:=⟨[dR 0,dR 1,⟨cV 2,[r]⟩],[⟨0,[⟨TM,1,r⟩],[]⟩],[⟨0,TM,true⟩],[]⟩
def only2(r:Row):DB:=⟨[⟨cV 0,[r]⟩,dR 1,⟨cV 2,[r]⟩],[⟨0,[⟨TM,1,r⟩,⟨KD,1,r⟩],[]⟩],[⟨0,TM,true⟩,⟨0,KD,true⟩],[]⟩
def only4(r:Row):DB:=⟨[⟨cV 0,[]⟩,dR 1,⟨cV 2,[r]⟩],[⟨0,[⟨TM,1,r⟩,⟨KD,1,r⟩,⟨KD,2,r⟩],[]⟩],[⟨0,TM,true⟩,⟨0,KD,true⟩],[]⟩
end Go.S
