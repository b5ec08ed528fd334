import Derived.Test.YtifjeceolckgaaaGreatGC
set_option linter.all false
set_option maxRecDepth 100000
set_option maxHeartbeats 16000000
namespace Go.S
open Go.Sx Go.Proofs
def oF:ByteArray:=⟨#[116,97]⟩
set_option maxHeartbeats 4000000
def fK(r:Row):Prop:=∃a v,r=[⟨2,a,fQ⟩,v]/\(v=⟨0,0,fQ⟩\/∃s,v=⟨3,0,s⟩/\s.size<=60)
theorem zJ(s:ByteArray):eC s s=0:=by
 unfold eC;have h:∀l:List UInt8,Lib.compareBytes l l=0:=λl=>by
  induction l with
  |nil=>rfl
  |cons x r i=>unfold Lib.compareBytes;simp[i]
 exact h _
theorem EA(a:Int):eR a a=0:=by unfold eR;simp
theorem xg(v:cO):bC v v=0:=by unfold bC;simp[fP,EA,zJ]
theorem fK.fits{r:Row}(h:fK r):dg bp r=0:=by
 obtain⟨a,v,rfl,g⟩:=h;have e:¬((fQ.size:Int)>60):=by decide
 have c:fv ⟨2,a,fQ⟩=0:=by have:(⟨#[]⟩:ByteArray)=fQ:=rfl;simp[fv,vU,pT,this,e]
 have b:fv v=0/\(v.k=0\/v.k=3):=by
  rcases g with rfl| ⟨s,rfl,i⟩
  .refine⟨?_,.inl rfl⟩;have:(⟨#[]⟩:ByteArray)=fQ:=rfl;simp[fv,vU,pT,this,e]
  refine⟨?_,.inr rfl⟩;have:¬((s.size:Int)>60):=by omega
  simp[fv,vU,pT,this]
 have f:dx ⟨nA,2,false⟩ ⟨2,a,fQ⟩=0:=by simp[dx,c]
 have d:dx ⟨⟨#[98]⟩,3,true⟩ v=0:=by unfold dx;rw[b.1];rcases b.2 with h|h<;>simp[h]
 unfold dg;simp[bp,f,d,fP]
def hX(s:Int):cg:=⟨s,oF,true⟩
theorem lf(t:cW)(r:Row):(bK t r).1.S=t.S:=by
 unfold bK;repeat' split
 all_goals rfl
theorem lE(t:cW)(k:cO):(bH t k).1.S=t.S:=by unfold bH;split<;>rfl
end Go.S
namespace Go.Sx
end Go.Sx
namespace Go.S
open Go.Sx Go.Proofs
theorem ik.xj{h:ad}{d:DB}{b a e f:Option Addr}{n c l g m i o j:Nat}(q:ik h (.agg #[.slice b n c,.slice a l g,.slice e m i,.slice f o j]) d):Sl 51 ef h (.slice b n c) d.az:=by obtain⟨_,_,_,_,_,_,_,_,_,_,_,_,w,k,t,_⟩:=q.out;cases k;exact t
abbrev dQz.cells(v:dQz):List Value:=[.slice v.b1 v.n1 v.c1,.slice v.b2 v.n2 v.c2,.slice v.b3 v.n3 v.c3,.slice v.b4 v.n4 v.c4]
abbrev dQz.val(v:dQz):Value:=.agg #[.slice v.b1 v.n1 v.c1,.slice v.b2 v.n2 v.c2,.slice v.b3 v.n3 v.c3,.slice v.b4 v.n4 v.c4]
def w0:dQz:=⟨none,0,0,none,0,0,none,0,0,none,0,0⟩
end Go.S
