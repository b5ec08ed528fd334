import Derived.Test.YtekoaiendgjkdaaGreatLA
import Derived.Test.YtekoaiendgjkdaaGreatGB
import Derived.Test.YtekoaiendgjkdaaGreatRd
set_option linter.unusedVariables false
set_option linter.unusedSimpArgs false
set_option linter.unusedSectionVars false
set_option maxRecDepth 100000
set_option maxHeartbeats 8000000
namespace Go.S
open Go.Sx Go.Proofs
theorem wK(a b:bK):fC a b=fC b a:=by
 unfold fC;have e1:decide (a.s≠b.s)=decide (b.s≠a.s):=by rw[decide_eq_decide];exact ne_comm
 have e2:decide (a.table=b.table)=decide (b.table=a.table):=by rw[decide_eq_decide];exact eq_comm
 rw[e1,e2,Bool.or_comm]
def HU(H:List bK):Prop:=∀(i j:Nat) (x y:bK),H[i]? =some x->H[j]? =some y->x.s=y.s->x.table=y.table->i=j
theorem IV{H W:List bK}{hd:bK}(h:lq H hd=none):bq H hd= !(H.any (fC hd))/\(H.any (fC hd)=false->bR H hd=H++[hd])/\(H.any (fC hd)=true->bR H hd=H):=by
 have hh:jv H hd=false:=by unfold jv;rw[h]
 have hf:bq H hd= !(H.any (fC hd)):=by unfold bq;rw[hh];rfl
 refine⟨hf,fun h1=>?_,fun h1=>?_⟩
 ·unfold bR;rw[hf,h1,hh,h];rfl
 ·unfold bR;rw[hf,h1];rfl
theorem IU{H W:List bK}{hd:bK}{i:Nat}{x:bK}(h:lq H hd=some i)(hx:H[i]? =some x)(hp:jT hd x=true):
 ((x.x|| !hd.x)=true->bq H hd=true/\bR H hd=H)/\((x.x|| !hd.x)=false->bq H hd= !(H.any (fC hd))/\(H.any (fC hd)=false->bR H hd=H.set i ⟨x.s,x.table,true⟩)/\(H.any (fC hd)=true->bR H hd=H)):=by
 obtain⟨xs,xt,xx⟩:=x;obtain⟨hs,ht,pH⟩:=hd;unfold jT at hp;simp only[Bool.and_eq_true,decide_eq_true_eq]at hp;obtain⟨rfl,rfl⟩:=hp;have hh:jv H ⟨xs,xt,pH⟩=(xx|| !pH):=by unfold jv;rw[h];simp only;rw[hx];simp only[Option.any_some,B0,decide_true,Bool.true_and];cases xx<;>cases pH<;>rfl
 refine⟨fun h1=>?_,fun h1=>?_⟩
 ·have hf:bq H ⟨xs,xt,pH⟩=true:=by unfold bq;rw[hh];simp only at h1;rw[h1];rfl
  refine⟨hf,?_⟩;unfold bR;rw[hf,hh];simp only at h1;rw[h1];rfl
 ·simp only at h1;rw[h1]at hh;have hf:bq H ⟨xs,xt,pH⟩= !(H.any (fC ⟨xs,xt,pH⟩)):=by unfold bq;rw[hh];rfl
  have hxt:pH=true:=by cases pH<;>simp_all
  refine⟨hf,fun h2=>?_,fun h2=>?_⟩
  ·unfold bR;rw[hf,h2,hh,h,hxt];rfl
  ·unfold bR;rw[hf,h2];rfl
theorem wrap_small{x:Int}(h:-2^62<=x/\x<2^62):IntKind.i64.wrap x=x:=IntWalk.i64_in _ (by omega)
theorem E9{d:DB}(hI:SI d){s:Int}(hs:0<=s/\s<8){i:Nat}(hi:i<=d.aq.length)(K8:∀(j:Nat) w,j<i->d.aq[j]? =some w->w.s<s)(YG:∀w,d.aq[i]? =some w->¬w.s<s):dm (cm d.aq s)=i:=by
 have hl:(cm d.aq s).length=d.aq.length:=by simp[cm]
 have get:∀j,j<d.aq.length->∃w,d.aq[j]? =some w/\(cm d.aq s).getD j 0=w.s-s:=fun j hj=>by
  obtain⟨w,hw⟩:=aE hj;have hr:=hI.qF w (List.mem_of_getElem? hw);exact⟨w,hw,by rw[sK hw,wrap_small (by omega)]⟩
 unfold dm;refine yb _ i (fun j hj=>?_) 0 _ (fun j h1 h2=>?_) (Nat.zero_le _) (by omega)
 ·obtain⟨w,hw,e⟩:=get j (by omega);rw[e];have:=K8 j w hj hw;omega
 ·obtain⟨w,hw,e⟩:=get j (by omega);rw[e];rcases Nat.eq_or_lt_of_le h1 with h3|h3
  ·subst h3;have:=YG w hw;omega
  ·obtain⟨w0,qY⟩:=aE (xs:=d.aq) (i:=i) (by omega);have h4:=YG w0 qY;have h5:=List.pairwise_iff_getElem.1 hI.oq i j (List.getElem?_eq_some_iff.1 qY).1 (List.getElem?_eq_some_iff.1 hw).1 h3;rw[(List.getElem?_eq_some_iff.1 qY).2,(List.getElem?_eq_some_iff.1 hw).2]at h5;omega
def MkOk(d:DB):Prop:=∀w∈d.aq,w.marks.length<=10/\∀m∈w.marks,∃n:Nat,m.at_=(n:Int)/\n<=w.log.length
def sucW(H:List bK)(a:Int)(w:bK):List Int:=if w.s=a then(H.filter (fC w)).map (·.s)else []
end Go.S
