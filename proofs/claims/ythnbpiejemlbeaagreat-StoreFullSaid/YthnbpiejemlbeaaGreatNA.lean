import Derived.Test.YthnbpiejemlbeaaGreatMB
set_option linter.all false
set_option maxRecDepth 100000
set_option maxHeartbeats 8000000
namespace Go.S
open Go.Sx Go.Proofs
variable {b:Type}{p:b->Bool}
theorem CP:∀a b c:List UInt8,Lib.compareBytes a b<0->Lib.compareBytes b c<0->Lib.compareBytes a c<0
 | [],_,[],d,h=>by
  rename_i b;cases b with
  |nil=>simp[Lib.compareBytes]at d
  |cons y b=>simp[Lib.compareBytes]at h
 | [],_,z::c,d,h=>by simp[Lib.compareBytes]
 |x::a,[],_,d,h=>by simp[Lib.compareBytes]at d
 |x::a,y::b,[],d,h=>by simp[Lib.compareBytes]at h
 |x::a,y::b,z::c,d,h=>by
  have i:=CP a b c;unfold Lib.compareBytes at d h |-;have lt:∀p q:UInt8,p<q↔p.toNat<q.toNat:=λp q=>UInt8.lt_iff_toNat_lt;by_cases a1:x<y
  .rw[if_pos a1]at d;by_cases f:y<z
   .have:x<z:=by rw[lt]at a1 f |-;omega
    rw[if_pos this];decide
   rw[if_neg f]at h;by_cases g:z<y
   .rw[if_pos g]at h;exact absurd h (by decide)
   have:x<z:=by rw[lt]at a1 f g |-;omega
   rw[if_pos this];decide
  rw[if_neg a1]at d;by_cases a2:y<x
  .rw[if_pos a2]at d;exact absurd d (by decide)
  rw[if_neg a2]at d;have e:x=y:=by rw[lt]at a1 a2;exact UInt8.toNat_inj.1 (by omega)
  subst e;by_cases f:x<z
  .rw[if_pos f];decide
  rw[if_neg f]at h |-;by_cases g:z<x
  .rw[if_pos g]at h;exact absurd h (by decide)
  rw[if_neg g]at h |-;exact i d h
theorem CQ{a b c:ByteArray}(h:cT a b<0)(d:cT b c<0):cT a c<0:=by unfold cT at *;exact CP _ _ _ h d
theorem JR{x:b}:∀ {l:List b},x∈l.takeWhile p->p x=true
 | [],h=>by cases h
 |y::r,h=>by
  cases a:p y with
  |true=>
   rw[List.takeWhile_cons_of_pos a]at h;rcases List.mem_cons.1 h with rfl|h
   .exact a
   exact JR h
  |false=>rw[List.takeWhile_cons_of_neg (by rw[a];simp)]at h;cases h
theorem Fg{x:b}:∀ {l:List b},l[(l.takeWhile p).length]? =some x->p x=false
 | [],h=>by simp at h
 |y::r,h=>by
  cases a:p y with
  |true=>rw[List.takeWhile_cons_of_pos a,List.length_cons]at h;exact Fg (l:=r) (by simpa using h)
  |false=>rw[List.takeWhile_cons_of_neg (by rw[a];simp)]at h;simp at h;rw[<-h];exact a
theorem wj{T:List bJ}(h:T.Pairwise (λa b=>cT a.S.name b.S.name<0))(nm:ByteArray):
 cR (aB T nm)=cu T nm/\cu T nm<=T.length/\(∀t∈T.take (cu T nm),cT t.S.name nm<0)/\∀t∈T.drop (cu T nm),¬cT t.S.name nm<0:=by
 have hl:(aB T nm).length=T.length:=by simp[aB]
 have get:∀(j:Nat) (t:bJ),T[j]? =some t->(aB T nm).getD j 0=cT t.S.name nm:=λj t c=>by
  rw[List.getD_eq_getElem?_getD];unfold aB;rw[List.getElem?_map,c];rfl
 have Q:cu T nm<=T.length:=(List.takeWhile_sublist _).length_le;have M:T.take (cu T nm)=T.takeWhile λt=>decide (cT t.S.name nm<0):=by unfold cu;exact(List.prefix_iff_eq_take.1 (List.takeWhile_prefix _)).symm
 have K:∀t∈T.take (cu T nm),cT t.S.name nm<0:=λt c=>by
  rw[M]at c;have:=JR c;exact of_decide_eq_true this
 have J:∀t,T[cu T nm]? =some t->¬cT t.S.name nm<0:=λt c=>by
  have:=Fg (p:=λt:bJ=>decide (cT t.S.name nm<0)) c;exact of_decide_eq_false this
 have Z:∀(j:Nat) (t:bJ),cu T nm<=j->T[j]? =some t->¬cT t.S.name nm<0:=λj t d c=>by
  rcases Nat.eq_or_lt_of_le d with e|F
  .subst e;exact J t c
  have o:=(List.getElem?_eq_some_iff.1 c).1;obtain⟨i,f⟩:=bn T (cu T nm);intro n;have:=List.pairwise_iff_getElem.1 h _ j (List.getElem?_eq_some_iff.1 f).1 o F;rw[(List.getElem?_eq_some_iff.1 f).2,(List.getElem?_eq_some_iff.1 c).2]at this;exact J i f (CQ this n)
 refine⟨?_,Q,K,λt c=>?_⟩
 .unfold cR;refine ui _ _ (λj d=>?_) 0 _ (λj g k=>?_) (Nat.zero_le _) (by omega)
  .obtain⟨t,c⟩:=bn T j;rw[get j t c];exact K t (List.mem_of_getElem? (by rw[List.getElem?_take,if_pos d];exact c))
  obtain⟨t,c⟩:=bn T j;rw[get j t c];have:=Z j t g c;omega
 obtain⟨j,d⟩:=List.getElem?_of_mem c;rw[List.getElem?_drop]at d;exact Z _ t (by omega) d
theorem Mh{T:List bJ}(h:T.Pairwise (λa b=>cT a.S.name b.S.name<0))(nm:ByteArray):gZ (aB T nm)=T.any (λt=>decide (t.S.name=nm)):=by
 cases d:T.any (λt=>decide (t.S.name=nm))with
 |true=>obtain⟨t,c,e⟩:=List.any_eq_true.1 d;have e:=of_decide_eq_true e;obtain⟨i,f⟩:=List.getElem?_of_mem c;have:=(sk h f).2;rw[e]at this;exact this
 |false=>refine Hv (λt c=>?_);have:=List.any_eq_false.1 d t c;simpa using this
end Go.S
