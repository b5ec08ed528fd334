import Derived.Test.YtifjeceolckgaaaGreatLA
set_option linter.all false
set_option maxRecDepth 100000
set_option maxHeartbeats 8000000
namespace Go.S
open Go.Sx Go.Proofs
variable {i:Nat}{hd:cg}
theorem uY(a b:cg):eL a b=eL b a:=by
 unfold eL;have e:decide (a.s≠b.s)=decide (b.s≠a.s):=by rw[decide_eq_decide];exact ne_comm
 have c:decide (a.table=b.table)=decide (b.table=a.table):=by rw[decide_eq_decide];exact eq_comm
 rw[e,c,Bool.or_comm]
def HU(H:List cg):Prop:=∀(i j:Nat) (x y:cg),H[i]? =some x->H[j]? =some y->x.s=y.s->x.table=y.table->i=j
theorem Rd{H W:List cg}(h:oG H hd=none):bP H hd= !(H.any (eL hd))/\(H.any (eL hd)=false->cV H hd=H++[hd])/\(H.any (eL hd)=true->cV H hd=H):=by
 have b:qI H hd=false:=by unfold qI;rw[h]
 have f:bP H hd= !(H.any (eL hd)):=by unfold bP;rw[b];rfl
 refine⟨f,λa=>?_,λa=>?_⟩
 .unfold cV;rw[f,a,b,h];rfl
 unfold cV;rw[f,a];rfl
theorem Rc{H W:List cg}{x:cg}(h:oG H hd=some i)(hx:H[i]? =some x)(p:jJ hd x=true):
 ((x.x|| !hd.x)=true->bP H hd=true/\cV H hd=H)/\((x.x|| !hd.x)=false->bP H hd= !(H.any (eL hd))/\(H.any (eL hd)=false->cV H hd=H.set i ⟨x.s,x.table,true⟩)/\(H.any (eL hd)=true->cV H hd=H)):=by
 obtain⟨xs,t,d⟩:=x;obtain⟨s,e,u⟩:=hd;unfold jJ at p;simp only[mQQ,mQR]at p;obtain⟨rfl,rfl⟩:=p;have b:qI H ⟨xs,t,u⟩=(d|| !u):=by unfold qI;rw[h];simp only;rw[hx];simp only[Option.any_some,Vo,decide_true,mZR];cases d<;>cases u<;>rfl
 refine⟨λa=>?_,λa=>?_⟩
 .have f:bP H ⟨xs,t,u⟩=true:=by unfold bP;rw[b];simp only at a;rw[a];rfl
  refine⟨f,?_⟩;unfold cV;rw[f,b];simp only at a;rw[a];rfl
 simp only at a;rw[a]at b;have f:bP H ⟨xs,t,u⟩= !(H.any (eL ⟨xs,t,u⟩)):=by unfold bP;rw[b];rfl
 have Q:u=true:=by cases u<;>simp_all
 refine⟨f,λc=>?_,λc=>?_⟩
 .unfold cV;rw[f,c,b,h,Q];rfl
 unfold cV;rw[f,c];rfl
theorem wrap_small{x:Int}(h:-2^62<=x/\x<2^62):IntKind.i64.wrap x=x:=IntWalk.i64_in _ (by omega)
theorem NW{d:DB}(I:SI d){s:Int}(n:0<=s/\s<8)(l:i<=d.aq.length)(Q:∀(j:Nat) w,j<i->d.aq[j]? =some w->w.s<s)(T:∀w,d.aq[i]? =some w->¬w.s<s):di (bQ d.aq s)=i:=by
 have m:(bQ d.aq s).length=d.aq.length:=by simp[bQ]
 have get:∀j,j<d.aq.length->∃w,d.aq[j]? =some w/\(bQ d.aq s).getD j 0=w.s-s:=λj b=>by
  obtain⟨w,h⟩:=aE b;have r:=I.pH w (mQz h);exact⟨w,h,by rw[Gs h,wrap_small (by omega)]⟩
 unfold di;refine Dn _ i (λj b=>?_) 0 _ (λj c g=>?_) (mQC _) (by omega)
 .obtain⟨w,h,e⟩:=get j (by omega);rw[e];have:=Q j w b h;omega
 obtain⟨w,h,e⟩:=get j (by omega);rw[e];rcases Nat.eq_or_lt_of_le c with a|a
 .subst a;have:=T w h;omega
 obtain⟨w0,E⟩:=mQA d.aq i;have k:=T w0 E;have f:=mQZ.1 I.jC i j (mQB.1 E).1 (mQB.1 h).1 a;rw[(mQB.1 E).2,(mQB.1 h).2]at f;omega
def gZo(d:DB):Prop:=∀w∈d.aq,w.marks.length<=10/\∀m∈w.marks,∃n:Nat,m.at_=(n:Int)/\n<=w.log.length
end Go.S
