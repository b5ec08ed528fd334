import Derived.Test.YtficmdggjjepmaaGreatMB
set_option linter.all false
set_option maxRecDepth 100000
set_option maxHeartbeats 8000000
namespace Go.S
open Go.Sx Go.Proofs
variable {b:Type}{p:b->Bool}
theorem Bc:∀a b c:List UInt8,Lib.compareBytes a b<0->Lib.compareBytes b c<0->Lib.compareBytes a c<0
 | [],_,[],d,h=>by
  rename_i b;cases b with
  |nil=>simp[Lib.compareBytes]at d
  |cons y b=>simp[Lib.compareBytes]at h
 | [],_,z::c,d,h=>by simp[Lib.compareBytes]
 |x::a,[],_,d,h=>by simp[Lib.compareBytes]at d
 |x::a,y::b,[],d,h=>by simp[Lib.compareBytes]at h
 |x::a,y::b,z::c,d,h=>by
  have i:=Bc a b c;unfold Lib.compareBytes at d h |-;have lt:∀p q:UInt8,p<q↔p.toNat<q.toNat:=λp q=>hJM;by_cases a1:x<y
  .rw[if_pos a1]at d;by_cases f:y<z
   .have:x<z:=by rw[lt]at a1 f |-;omega
    rw[if_pos this];decide
   rw[if_neg f]at h;by_cases g:z<y
   .rw[if_pos g]at h;exact absurd h (by decide)
   have:x<z:=by rw[lt]at a1 f g |-;omega
   rw[if_pos this];decide
  rw[if_neg a1]at d;by_cases a2:y<x
  .rw[if_pos a2]at d;exact absurd d (by decide)
  rw[if_neg a2]at d;have e:x=y:=by rw[lt]at a1 a2;exact hJV.1 (by omega)
  subst e;by_cases f:x<z
  .rw[if_pos f];decide
  rw[if_neg f]at h |-;by_cases g:z<x
  .rw[if_pos g]at h;exact absurd h (by decide)
  rw[if_neg g]at h |-;exact i d h
theorem Bd{a b c:ByteArray}(h:cU a b<0)(d:cU b c<0):cU a c<0:=by unfold cU at *;exact Bc _ _ _ h d
theorem Il{x:b}:∀ {l:List b},x∈l.takeWhile p->p x=true
 | [],h=>by cases h
 |y::r,h=>by
  cases a:p y with
  |true=>
   rw[hKE a]at h;rcases xu.1 h with rfl|h
   .exact a
   exact Il h
  |false=>rw[iQk (by rw[a];simp)]at h;cases h
theorem DJ{x:b}:∀ {l:List b},l[(l.takeWhile p).length]? =some x->p x=false
 | [],h=>by simp at h
 |y::r,h=>by
  cases a:p y with
  |true=>rw[hKE a,hJB]at h;exact DJ (l:=r) (by simpa using h)
  |false=>rw[iQk (by rw[a];simp)]at h;simp at h;rw[<-h];exact a
theorem uH{T:List bM}(h:T.Pairwise (λa b=>cU a.S.name b.S.name<0))(nm:ByteArray):
 dE (aF T nm)=cD T nm/\cD T nm<=T.length/\(∀t∈T.take (cD T nm),cU t.S.name nm<0)/\∀t∈T.drop (cD T nm),¬cU t.S.name nm<0:=by
 have hl:(aF T nm).length=T.length:=by simp[aF]
 have get:∀(j:Nat) (t:bM),T[j]? =some t->(aF T nm).getD j 0=cU t.S.name nm:=λj t c=>by
  rw[xa];unfold aF;rw[qy,c];rfl
 have M:cD T nm<=T.length:=(iQj _).length_le;have Q:T.take (cD T nm)=T.takeWhile λt=>decide (cU t.S.name nm<0):=by unfold cD;exact(iQi.1 (iQh _)).symm
 have J:∀t∈T.take (cD T nm),cU t.S.name nm<0:=λt c=>by
  rw[Q]at c;have:=Il c;exact qH this
 have K:∀t,T[cD T nm]? =some t->¬cU t.S.name nm<0:=λt c=>by
  have:=DJ (p:=λt:bM=>decide (cU t.S.name nm<0)) c;exact ra this
 have v:∀(j:Nat) (t:bM),cD T nm<=j->T[j]? =some t->¬cU t.S.name nm<0:=λj t d c=>by
  rcases Nat.eq_or_lt_of_le d with e|I
  .subst e;exact K t c
  have O:=(dB.1 c).1;obtain⟨g,Z⟩:=di T (cD T nm);intro w;have:=hJA.1 h _ j (dB.1 Z).1 O I;rw[(dB.1 Z).2,(dB.1 c).2]at this;exact K g Z (Bd this w)
 refine⟨?_,M,J,λt c=>?_⟩
 .unfold dE;refine sK _ _ (λj d=>?_) 0 _ (λj f i=>?_) (qT _) (by omega)
  .obtain⟨t,c⟩:=di T j;rw[get j t c];exact J t (kF (by rw[hU,if_pos d];exact c))
  obtain⟨t,c⟩:=di T j;rw[get j t c];have:=v j t f c;omega
 obtain⟨j,d⟩:=yl c;rw[nM]at d;exact v _ t (by omega) d
theorem Ks{T:List bM}(h:T.Pairwise (λa b=>cU a.S.name b.S.name<0))(nm:ByteArray):gH (aF T nm)=T.any (λt=>decide (t.S.name=nm)):=by
 cases d:T.any (λt=>decide (t.S.name=nm))with
 |true=>obtain⟨t,c,e⟩:=hKh.1 d;have e:=qH e;obtain⟨i,f⟩:=yl c;have:=(Is h f).2;rw[e]at this;exact this
 |false=>refine FM (λt c=>?_);have:=iQz.1 d t c;simpa using this
end Go.S
