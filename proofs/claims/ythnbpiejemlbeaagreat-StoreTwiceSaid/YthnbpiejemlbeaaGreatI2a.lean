import Derived.Test.YthnbpiejemlbeaaGreatP1
import Derived.Test.YthnbpiejemlbeaaGreatI1
set_option linter.all false
set_option maxRecDepth 100000
set_option maxHeartbeats 4000000
namespace Go.Sx
variable {A:Ar}{m o:Nat}{h:ad}
theorem NQ.part{a:Addr}{n:Nat}{cs:List Value}(q:NQ h a n cs)[g:bI A](l:o+m<=n):NQ h (A .off a o) m ((cs.drop o).take m):=by obtain⟨b,k,c,e,fr,d,f⟩:=q;obtain⟨E,off,s⟩:=a;simp only at b;subst b;rw[g.off];simp only[cI];refine⟨rfl,by simp;omega,c,e,fr,d,λi j=>?_⟩;rw[qH,if_pos j,rB,<-f (o+i) (by omega)];simp only;rw[kQc]
theorem Hb.tQ{c:Type}[bI A]{s:Sh c}{b:Option Addr}{len cap:Nat}{xs:List c}(q:Hb s h (.slice b len cap) xs){i:Nat}{x:c}(hx:xs[i]? =some x){n:Int}(j:n=(i:Int))(p:o+m<=s.n)
 {k:List Value->Prop} (g:∀cs,s.R h cs x->(∀h' a,Le h h'->a ((cs.drop o).take m)->zF h' (A .off (A .je b n s.n) o) m a)->k ((cs.drop o).take m)):zF h (A .off (A .je b n s.n) o) m k:=by
 have key:∃cs,NQ h (A.je b n s.n) s.n cs/\s.R h cs x:=(q.load (A:=A) hx j (k:=λcs=>s.R h cs x) (λcs r=>r)).out;obtain⟨cs,e,f⟩:=key;have d:=e.part (A:=A) p;exact⟨_,d,g cs f (λh' a l H=>⟨_,d.le l,H⟩)⟩
end Go.Sx
namespace Go.S
open Go.Sx Go.Proofs
end Go.S
