import Derived.Test.YtifjeceolckgaaaGreatP1
import Derived.Test.YtifjeceolckgaaaGreatI1
set_option linter.all false
set_option maxRecDepth 100000
set_option maxHeartbeats 4000000
namespace Go.Sx
variable {A:Ar}{m o:Nat}{h:ad}
theorem Sw.part{a:Addr}{n:Nat}{cs:List Value}(q:Sw h a n cs)[g:bM A](l:o+m<=n):Sw h (A .off a o) m ((cs.drop o).take m):=by obtain⟨b,k,c,e,fr,d,f⟩:=q;obtain⟨oB,off,sp⟩:=a;simp only at b;subst b;rw[g.off];simp only[dF];refine⟨rfl,by simp;omega,c,e,fr,d,λi j=>?_⟩;rw[mXl,if_pos j,mXr,<-f (o+i) (by omega)];simp only;rw[mJp]
theorem zW.vD{c:Type}[bM A]{s:Sh c}{b:Option Addr}{len cap:Nat}{xs:List c}(q:zW s h (.slice b len cap) xs){i:Nat}{x:c}(hx:xs[i]? =some x){n:Int}(j:n=(i:Int))(p:o+m<=s.n)
 {k:List Value->Prop} (g:∀cs,s.R h cs x->(∀h' a,Le h h'->a ((cs.drop o).take m)->Bn h' (A .off (A .mS b n s.n) o) m a)->k ((cs.drop o).take m)):Bn h (A .off (A .mS b n s.n) o) m k:=by
 have key:∃cs,Sw h (A.mS b n s.n) s.n cs/\s.R h cs x:=(q.load (A:=A) hx j (k:=λcs=>s.R h cs x) (λcs y=>y)).out;obtain⟨cs,e,f⟩:=key;have d:=e.part (A:=A) p;exact⟨_,d,g cs f (λh' a l w=>⟨_,d.le l,w⟩)⟩
end Go.Sx
namespace Go.S
open Go.Sx Go.Proofs
structure gZw where
 k:Int
 s:Int
 t:Int
 n:Int
 x:Bool
structure kQk(a:gZw):Prop where
 k:-2^63<=a.k/\a.k<2^63
 s:-2^63<=a.s/\a.s<2^63
 t:-2^63<=a.t/\a.t<2^63
 n:-2^63<=a.n/\a.n<2^63
end Go.S
