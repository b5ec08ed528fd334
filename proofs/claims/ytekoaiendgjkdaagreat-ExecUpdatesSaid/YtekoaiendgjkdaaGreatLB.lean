import Derived.Test.YtekoaiendgjkdaaGreatLA
import Derived.Test.YtekoaiendgjkdaaGreatGB
import Derived.Test.YtekoaiendgjkdaaGreatRd
set_option linter.unusedVariables false
set_option linter.unusedSimpArgs false
set_option linter.unusedSectionVars false
set_option maxRecDepth 100000
set_option maxHeartbeats 8000000
namespace Go.S
open Go.Sx Go.Proofs
theorem yU(a b:bZ):fY a b=fY b a:=by
 unfold fY;have e1:decide (a.s≠b.s)=decide (b.s≠a.s):=by rw[decide_eq_decide];exact ne_comm
 have e2:decide (a.table=b.table)=decide (b.table=a.table):=by rw[decide_eq_decide];exact eq_comm
 rw[e1,e2,Bool.or_comm]
def HU(H:List bZ):Prop:=∀(i j:Nat) (x y:bZ),H[i]? =some x->H[j]? =some y->x.s=y.s->x.table=y.table->i=j
theorem Mn{H W:List bZ}{hd:bZ}(h:mA H hd=none):bF H hd= !(H.any (fY hd))/\(H.any (fY hd)=false->cd H hd=H++[hd])/\(H.any (fY hd)=true->cd H hd=H):=by
 have hh:j7 H hd=false:=by unfold j7;rw[h]
 have hf:bF H hd= !(H.any (fY hd)):=by unfold bF;rw[hh];rfl
 refine⟨hf,fun h1=>?_,fun h1=>?_⟩
 ·unfold cd;rw[hf,h1,hh,h];rfl
 ·unfold cd;rw[hf,h1];rfl
theorem Mm{H W:List bZ}{hd:bZ}{i:Nat}{x:bZ}(h:mA H hd=some i)(hx:H[i]? =some x)(hp:kP hd x=true):
 ((x.x|| !hd.x)=true->bF H hd=true/\cd H hd=H)/\((x.x|| !hd.x)=false->bF H hd= !(H.any (fY hd))/\(H.any (fY hd)=false->cd H hd=H.set i ⟨x.s,x.table,true⟩)/\(H.any (fY hd)=true->cd H hd=H)):=by
 obtain⟨xs,xt,xx⟩:=x;obtain⟨hs,ht,rv⟩:=hd;unfold kP at hp;simp only[Bool.and_eq_true,decide_eq_true_eq]at hp;obtain⟨rfl,rfl⟩:=hp;have hh:j7 H ⟨xs,xt,rv⟩=(xx|| !rv):=by unfold j7;rw[h];simp only;rw[hx];simp only[Option.any_some,ES,decide_true,Bool.true_and];cases xx<;>cases rv<;>rfl
 refine⟨fun h1=>?_,fun h1=>?_⟩
 ·have hf:bF H ⟨xs,xt,rv⟩=true:=by unfold bF;rw[hh];simp only at h1;rw[h1];rfl
  refine⟨hf,?_⟩;unfold cd;rw[hf,hh];simp only at h1;rw[h1];rfl
 ·simp only at h1;rw[h1]at hh;have hf:bF H ⟨xs,xt,rv⟩= !(H.any (fY ⟨xs,xt,rv⟩)):=by unfold bF;rw[hh];rfl
  have hxt:rv=true:=by cases rv<;>simp_all
  refine⟨hf,fun h2=>?_,fun h2=>?_⟩
  ·unfold cd;rw[hf,h2,hh,h,hxt];rfl
  ·unfold cd;rw[hf,h2];rfl
theorem wrap_small{x:Int}(h:-2^62<=x/\x<2^62):IntKind.i64.wrap x=x:=IntWalk.i64_in _ (by omega)
theorem IG{d:DB}(hI:SI d){s:Int}(hs:0<=s/\s<8){i:Nat}(hi:i<=d.au.length)(O0:∀(j:Nat) w,j<i->d.au[j]? =some w->w.s<s)(hhi:∀w,d.au[i]? =some w->¬w.s<s):dr (cA d.au s)=i:=by
 have hl:(cA d.au s).length=d.au.length:=by simp[cA]
 have get:∀j,j<d.au.length->∃w,d.au[j]? =some w/\(cA d.au s).getD j 0=w.s-s:=fun j hj=>by
  obtain⟨w,hw⟩:=aI hj;have hr:=hI.so w (List.mem_of_getElem? hw);exact⟨w,hw,by rw[uP hw,wrap_small (by omega)]⟩
 unfold dr;refine Ay _ i (fun j hj=>?_) 0 _ (fun j h1 h2=>?_) (Nat.zero_le _) (by omega)
 ·obtain⟨w,hw,e⟩:=get j (by omega);rw[e];have:=O0 j w hj hw;omega
 ·obtain⟨w,hw,e⟩:=get j (by omega);rw[e];rcases Nat.eq_or_lt_of_le h1 with h3|h3
  ·subst h3;have:=hhi w hw;omega
  ·obtain⟨w0,sV⟩:=aI (xs:=d.au) (i:=i) (by omega);have h4:=hhi w0 sV;have h5:=List.pairwise_iff_getElem.1 hI.pH i j (List.getElem?_eq_some_iff.1 sV).1 (List.getElem?_eq_some_iff.1 hw).1 h3;rw[(List.getElem?_eq_some_iff.1 sV).2,(List.getElem?_eq_some_iff.1 hw).2]at h5;omega
def MkOk(d:DB):Prop:=∀w∈d.au,w.marks.length<=10/\∀m∈w.marks,∃n:Nat,m.at_=(n:Int)/\n<=w.log.length
def sucW(H:List bZ)(a:Int)(w:bZ):List Int:=if w.s=a then(H.filter (fY w)).map (·.s)else []
end Go.S
