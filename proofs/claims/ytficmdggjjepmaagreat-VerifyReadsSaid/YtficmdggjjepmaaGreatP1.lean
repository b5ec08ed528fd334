import Derived.Test.YtficmdggjjepmaaGreatHA
set_option linter.all false
set_option maxRecDepth 100000
set_option maxHeartbeats 4000000
namespace Go.S
open Go.Sx Go.Proofs
def kN(r:Row):Int:=match r with
 |v::_=>v.n
 | []=>0
structure SR(R:List Row):Prop where
 form:∀row∈R,∃a v,row=[⟨2,a,fy⟩,v]
 jd:R.Pairwise (λx y=>kN x<kN y)
theorem rE(a b:Int):fY a b<0↔a<b:=by
 unfold fY;by_cases h:a<b
 .simp[h]
 by_cases c:a>b
 .simp[h,c]
 simp[h,c]
theorem fH(a b:Int):fY a b=0↔a=b:=by
 unfold fY;by_cases h:a<b
 .simp[h];omega
 by_cases c:a>b
 .simp[h,c];omega
 simp[h,c];omega
structure At(R:List Row)(a:Int)(p:Nat):Prop where
 le:p<=R.length
 lo:∀i row,i<p->R[i]? =some row->kN row<a
 hi:∀i row,p<=i->R[i]? =some row->a<=kN row
theorem gJ{a:Type}(R:List a)(p:Nat):(R.take p++R.drop (p+1)).Sublist R:=by rw[<-hKI];exact hKB _ _
end Go.S
