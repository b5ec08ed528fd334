import Derived.Test.YtifjeceolckgaaaGreatWB
set_option linter.all false
set_option maxRecDepth 100000
set_option maxHeartbeats 8000000
namespace Go.S
open Go.Sx
open Go.Sx Go.Proofs
theorem ik.eH{h:ad}{d:DB}{e b g i:Option Addr}{t j n c u k v l:Nat}(q:ik h (.agg #[.slice e t j,.slice b n c,.slice g u k,.slice i v l]) d){w:fJ}(r:d.aq=[w]):n=1/\∃f,Sl 55 cX h (.slice b n c) [(w,f)]:=by
 obtain⟨_,_,_,_,_,_,_,_,_,_,_,_,s,o,_,a,_,_,m⟩:=q.out;cases o;rw[r]at m;have p:s.length=1:=by have:=congrArg List.length m;simpa using this
 match s,p with
 | [(w',f)],_=>
  have:w'=w:=by simpa using m
  subst this;exact⟨a.len,f,a⟩
end Go.S
