import Derived.Test.YtekoaiendgjkdaaGreatP1
import Derived.Test.YtekoaiendgjkdaaGreatHA
import Derived.Test.YtekoaiendgjkdaaGreatI1
set_option linter.unusedVariables false
set_option linter.unusedSimpArgs false
set_option linter.unusedSectionVars false
set_option maxRecDepth 100000
set_option maxHeartbeats 4000000
namespace Go.Sx
theorem Sw.part{h:ad}{a:Addr}{n o m:Nat}{cs:List Value}(q:Sw h a n cs){A:Ar}[hA:bM A](ho:o+m<=n):Sw h (A .off a o) m ((cs.drop o).take m):=by obtain⟨h1,h2,c,e,fr,h3,h4⟩:=q;obtain⟨oB,off,sp⟩:=a;simp only at h1;subst h1;rw[hA.off];simp only[dF];refine⟨rfl,by simp;omega,c,e,fr,h3,fun i hi=>?_⟩;rw[mXa,if_pos hi,mXi,<-h4 (o+i) (by omega)];simp only;rw[mZR]
theorem zW.vD{α:Type}{A:Ar}[bM A]{s:Sh α}{h:ad}{b:Option Addr}{len cap:Nat}{xs:List α}(q:zW s h (.slice b len cap) xs){i:Nat}{x:α}(hx:xs[i]? =some x){n:Int}(hn:n=(i:Int)){o m:Nat}(ho:o+m<=s.n)
 {k:List Value->Prop} (hk:∀cs,s.R h cs x->(∀h' k',Le h h'->k' ((cs.drop o).take m)->Bn h' (A .off (A .mS b n s.n) o) m k')->k ((cs.drop o).take m)):Bn h (A .off (A .mS b n s.n) o) m k:=by
 have key:∃cs,Sw h (A.mS b n s.n) s.n cs/\s.R h cs x:=(q.load (A:=A) hx hn (k:=fun cs=>s.R h cs x) (fun cs ay=>ay)).out;obtain⟨cs,h1,h2⟩:=key;have h3:=h1.part (A:=A) ho;exact⟨_,h3,hk cs h2 (fun h' k' l wT=>⟨_,h3.le l,wT⟩)⟩
end Go.Sx
namespace Go.S
open Go.Sx Go.Proofs
structure gZw where
 k:Int
 s:Int
 t:Int
 n:Int
 x:Bool
structure kQk(a:gZw):Prop where
 k:-2^63<=a.k/\a.k<2^63
 s:-2^63<=a.s/\a.s<2^63
 t:-2^63<=a.t/\a.t<2^63
 n:-2^63<=a.n/\a.n<2^63
end Go.S
