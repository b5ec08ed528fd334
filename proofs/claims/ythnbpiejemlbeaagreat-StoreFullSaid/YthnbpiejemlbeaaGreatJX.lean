import Derived.Test.YthnbpiejemlbeaaGreatI2a
set_option linter.all false
set_option maxRecDepth 100000
set_option maxHeartbeats 8000000
namespace Go.S
open Go.Sx Go.Proofs
set_option maxHeartbeats 4000000
variable {R:List Row}{p:Nat}
def tT(R:List Row):List bJ:=[⟨aA 0,R⟩,jb 1,jb 2]
structure SO(R:List Row):Prop where
 sr:SR R
 ok:∀row∈R,gK row
 le:R.length<=200
theorem SO.nil:SO []:=⟨SR.nil,by simp,by simp⟩
theorem At.ins{a:Int}{v:gV}(q:At R a p):At (R.take p++[[⟨2,a,dM⟩,v]]++R.drop p) a p/\iQ (R.take p++[[⟨2,a,dM⟩,v]]++R.drop p) a p=true:=by
 have d:=q.le;have t:(R.take p).length=p:=by simp;omega
 have e1:∀i,i<p->(R.take p++[[⟨2,a,dM⟩,v]]++R.drop p)[i]? =R[i]? :=λi b=>by
  rw[List.append_assoc,List.getElem?_append_left (by omega),List.getElem?_take,if_pos b]
 have e:(R.take p++[[⟨2,a,dM⟩,v]]++R.drop p)[p]? =some [⟨2,a,dM⟩,v]:=by rw[List.append_assoc,List.getElem?_append_right (by omega),t,Nat.sub_self];rfl
 have c:∀i,p<i->(R.take p++[[⟨2,a,dM⟩,v]]++R.drop p)[i]? =R[i-1]? :=λi b=>by
  rw[List.getElem?_append_right (by simp;omega),List.getElem?_drop];congr 1;simp;omega
 refine⟨⟨by simp;omega,λi o b r=>?_,λi o b r=>?_⟩,?_⟩
 .rw[e1 i b]at r;exact q.lo i o b r
 .rcases Nat.eq_or_lt_of_le b with h|h
  .subst h;rw[e]at r;cases r;exact Int.le_refl _
  rw[c i h]at r;exact q.hi (i-1) o (by omega) r
 unfold iQ;rw[e];exact decide_eq_true rfl
theorem MJ{x:Row}(h:p<=R.length):(R.take p++[x]++R.drop p).take p++(R.take p++[x]++R.drop p).drop (p+1)=R:=by
 have t:(R.take p).length=p:=by simp;omega
 rw[List.append_assoc,List.take_append_of_le_length (by omega),List.take_of_length_le (by omega),<-List.append_assoc,List.drop_append_of_le_length (by simp;omega),List.drop_of_length_le (by simp;omega),List.nil_append,List.take_append_drop]
structure Bk(R:List Row)(L:List cC)(R0:List Row)(n:Nat):Prop where
 le:n<=L.length
 un:dw (tT R) (L.drop n)=tT R0
def hR:bG:=⟨0,jN,false⟩
end Go.S
