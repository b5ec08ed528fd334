import Derived.Test.YtekoaiendgjkdaaGreatLA
import Derived.Test.YtekoaiendgjkdaaGreatGB
import Derived.Test.YtekoaiendgjkdaaGreatRd
set_option linter.unusedVariables false
set_option linter.unusedSimpArgs false
set_option linter.unusedSectionVars false
set_option maxRecDepth 100000
set_option maxHeartbeats 8000000
namespace Go.S
open Go.Sx Go.Proofs
theorem uY(a b:cg):eL a b=eL b a:=by
 unfold eL;have e1:decide (a.s≠b.s)=decide (b.s≠a.s):=by rw[decide_eq_decide];exact ne_comm
 have e2:decide (a.table=b.table)=decide (b.table=a.table):=by rw[decide_eq_decide];exact eq_comm
 rw[e1,e2,Bool.or_comm]
def HU(H:List cg):Prop:=∀(i j:Nat) (x y:cg),H[i]? =some x->H[j]? =some y->x.s=y.s->x.table=y.table->i=j
theorem Rd{H W:List cg}{hd:cg}(h:oG H hd=none):bP H hd= !(H.any (eL hd))/\(H.any (eL hd)=false->cV H hd=H++[hd])/\(H.any (eL hd)=true->cV H hd=H):=by
 have hh:qI H hd=false:=by unfold qI;rw[h]
 have hf:bP H hd= !(H.any (eL hd)):=by unfold bP;rw[hh];rfl
 refine⟨hf,fun h1=>?_,fun h1=>?_⟩
 ·unfold cV;rw[hf,h1,hh,h];rfl
 ·unfold cV;rw[hf,h1];rfl
theorem Rc{H W:List cg}{hd:cg}{i:Nat}{x:cg}(h:oG H hd=some i)(hx:H[i]? =some x)(hp:jJ hd x=true):
 ((x.x|| !hd.x)=true->bP H hd=true/\cV H hd=H)/\((x.x|| !hd.x)=false->bP H hd= !(H.any (eL hd))/\(H.any (eL hd)=false->cV H hd=H.set i ⟨x.s,x.table,true⟩)/\(H.any (eL hd)=true->cV H hd=H)):=by
 obtain⟨xs,xt,xx⟩:=x;obtain⟨hs,ht,uQ⟩:=hd;unfold jJ at hp;simp only[mQG,mQD]at hp;obtain⟨rfl,rfl⟩:=hp;have hh:qI H ⟨xs,xt,uQ⟩=(xx|| !uQ):=by unfold qI;rw[h];simp only;rw[hx];simp only[Option.any_some,Vo,decide_true,mZO];cases xx<;>cases uQ<;>rfl
 refine⟨fun h1=>?_,fun h1=>?_⟩
 ·have hf:bP H ⟨xs,xt,uQ⟩=true:=by unfold bP;rw[hh];simp only at h1;rw[h1];rfl
  refine⟨hf,?_⟩;unfold cV;rw[hf,hh];simp only at h1;rw[h1];rfl
 ·simp only at h1;rw[h1]at hh;have hf:bP H ⟨xs,xt,uQ⟩= !(H.any (eL ⟨xs,xt,uQ⟩)):=by unfold bP;rw[hh];rfl
  have fQT:uQ=true:=by cases uQ<;>simp_all
  refine⟨hf,fun h2=>?_,fun h2=>?_⟩
  ·unfold cV;rw[hf,h2,hh,h,fQT];rfl
  ·unfold cV;rw[hf,h2];rfl
theorem wrap_small{x:Int}(h:-2^62<=x/\x<2^62):IntKind.i64.wrap x=x:=IntWalk.i64_in _ (by omega)
theorem NW{d:DB}(hI:SI d){s:Int}(hs:0<=s/\s<8){i:Nat}(hi:i<=d.aq.length)(Qa:∀(j:Nat) w,j<i->d.aq[j]? =some w->w.s<s)(TJ:∀w,d.aq[i]? =some w->¬w.s<s):di (bQ d.aq s)=i:=by
 have hl:(bQ d.aq s).length=d.aq.length:=by simp[bQ]
 have get:∀j,j<d.aq.length->∃w,d.aq[j]? =some w/\(bQ d.aq s).getD j 0=w.s-s:=fun j hj=>by
  obtain⟨w,hw⟩:=aE hj;have hr:=hI.pH w (GD hw);exact⟨w,hw,by rw[Gs hw,wrap_small (by omega)]⟩
 unfold di;refine Dn _ i (fun j hj=>?_) 0 _ (fun j h1 h2=>?_) (mQr _) (by omega)
 ·obtain⟨w,hw,e⟩:=get j (by omega);rw[e];have:=Qa j w hj hw;omega
 ·obtain⟨w,hw,e⟩:=get j (by omega);rw[e];rcases Nat.eq_or_lt_of_le h1 with h3|h3
  ·subst h3;have:=TJ w hw;omega
  ·obtain⟨w0,Ek⟩:=aE (xs:=d.aq) (i:=i) (by omega);have h4:=TJ w0 Ek;have h5:=mQN.1 hI.jC i j (HH.1 Ek).1 (HH.1 hw).1 h3;rw[(HH.1 Ek).2,(HH.1 hw).2]at h5;omega
def gZo(d:DB):Prop:=∀w∈d.aq,w.marks.length<=10/\∀m∈w.marks,∃n:Nat,m.at_=(n:Int)/\n<=w.log.length
end Go.S
