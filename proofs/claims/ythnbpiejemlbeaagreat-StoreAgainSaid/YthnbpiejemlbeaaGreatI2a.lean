import Derived.Test.YthnbpiejemlbeaaGreatP1
import Derived.Test.YthnbpiejemlbeaaGreatI1
set_option linter.all false
set_option maxRecDepth 100000
set_option maxHeartbeats 4000000
namespace Go.Sx
variable {A:Ar}{m o:Nat}{h:ad}
theorem Pm.part{a:Addr}{n:Nat}{cs:List Value}(q:Pm h a n cs)[f:bM A](l:o+m<=n):Pm h (A .off a o) m ((cs.drop o).take m):=by
 obtain⟨b,g,c,e,fr,d,j⟩:=q;obtain⟨Q,off,s⟩:=a;simp only at b;subst b;rw[f.off];simp only[cQ];refine⟨rfl,by simp;omega,c,e,fr,d,λi k=>?_⟩
 grind
theorem Hz.sJ{c:Type}[bM A]{s:Sh c}{b:Option Addr}{len cap:Nat}{xs:List c}(q:Hz s h (.slice b len cap) xs){i:Nat}{x:c}(hx:xs[i]? =some x){n:Int}(j:n=(i:Int))(p:o+m<=s.n)
 {k:List Value->Prop} (g:∀cs,s.R h cs x->(∀h' a,Le h h'->a ((cs.drop o).take m)->Ai h' (A .off (A .jt b n s.n) o) m a)->k ((cs.drop o).take m)):Ai h (A .off (A .jt b n s.n) o) m k:=by
 have key:∃cs,Pm h (A.jt b n s.n) s.n cs/\s.R h cs x:=(q.load (A:=A) hx j (k:=λcs=>s.R h cs x) (λcs r=>r)).out;obtain⟨cs,e,f⟩:=key;have d:=e.part (A:=A) p;exact⟨_,d,g cs f (λh' a l I=>⟨_,d.le l,I⟩)⟩
end Go.Sx
namespace Go.S
open Go.Sx Go.Proofs
end Go.S
