import Derived.Test.YtekoaiendgjkdaaGreatLA
import Derived.Test.YtekoaiendgjkdaaGreatGB
import Derived.Test.YtekoaiendgjkdaaGreatRd
set_option linter.unusedVariables false
set_option linter.unusedSimpArgs false
set_option linter.unusedSectionVars false
set_option maxRecDepth 100000
set_option maxHeartbeats 8000000
namespace Go.S
open Go.Sx Go.Proofs
theorem xY(a b:bP):fV a b=fV b a:=by
 unfold fV;have e1:decide (a.s≠b.s)=decide (b.s≠a.s):=by rw[decide_eq_decide];exact ne_comm
 have e2:decide (a.table=b.table)=decide (b.table=a.table):=by rw[decide_eq_decide];exact eq_comm
 rw[e1,e2,Bool.or_comm]
def HU(H:List bP):Prop:=∀(i j:Nat) (x y:bP),H[i]? =some x->H[j]? =some y->x.s=y.s->x.table=y.table->i=j
theorem Kr{H W:List bP}{hd:bP}(h:lT H hd=none):bu H hd= !(H.any (fV hd))/\(H.any (fV hd)=false->bT H hd=H++[hd])/\(H.any (fV hd)=true->bT H hd=H):=by
 have hh:jR H hd=false:=by unfold jR;rw[h]
 have hf:bu H hd= !(H.any (fV hd)):=by unfold bu;rw[hh];rfl
 refine⟨hf,fun h1=>?_,fun h1=>?_⟩
 ·unfold bT;rw[hf,h1,hh,h];rfl
 ·unfold bT;rw[hf,h1];rfl
theorem Kq{H W:List bP}{hd:bP}{i:Nat}{x:bP}(h:lT H hd=some i)(hx:H[i]? =some x)(hp:kB hd x=true):
 ((x.x|| !hd.x)=true->bu H hd=true/\bT H hd=H)/\((x.x|| !hd.x)=false->bu H hd= !(H.any (fV hd))/\(H.any (fV hd)=false->bT H hd=H.set i ⟨x.s,x.table,true⟩)/\(H.any (fV hd)=true->bT H hd=H)):=by
 obtain⟨xs,xt,xx⟩:=x;obtain⟨hs,ht,nP⟩:=hd;unfold kB at hp;simp only[Bool.and_eq_true,decide_eq_true_eq]at hp;obtain⟨rfl,rfl⟩:=hp;have hh:jR H ⟨xs,xt,nP⟩=(xx|| !nP):=by unfold jR;rw[h];simp only;rw[hx];simp only[Option.any_some,Dk,decide_true,Bool.true_and];cases xx<;>cases nP<;>rfl
 refine⟨fun h1=>?_,fun h1=>?_⟩
 ·have hf:bu H ⟨xs,xt,nP⟩=true:=by unfold bu;rw[hh];simp only at h1;rw[h1];rfl
  refine⟨hf,?_⟩;unfold bT;rw[hf,hh];simp only at h1;rw[h1];rfl
 ·simp only at h1;rw[h1]at hh;have hf:bu H ⟨xs,xt,nP⟩= !(H.any (fV ⟨xs,xt,nP⟩)):=by unfold bu;rw[hh];rfl
  have hxt:nP=true:=by cases nP<;>simp_all
  refine⟨hf,fun h2=>?_,fun h2=>?_⟩
  ·unfold bT;rw[hf,h2,hh,h,hxt];rfl
  ·unfold bT;rw[hf,h2];rfl
theorem wrap_small{x:Int}(h:-2^62<=x/\x<2^62):IntKind.i64.wrap x=x:=IntWalk.i64_in _ (by omega)
theorem GO{d:DB}(hI:SI d){s:Int}(hs:0<=s/\s<8){i:Nat}(hi:i<=d.au.length)(MW:∀(j:Nat) w,j<i->d.au[j]? =some w->w.s<s)(hhi:∀w,d.au[i]? =some w->¬w.s<s):dC (cu d.au s)=i:=by
 have hl:(cu d.au s).length=d.au.length:=by simp[cu]
 have get:∀j,j<d.au.length->∃w,d.au[j]? =some w/\(cu d.au s).getD j 0=w.s-s:=fun j hj=>by
  obtain⟨w,hw⟩:=aD hj;have hr:=hI.rM w (List.mem_of_getElem? hw);exact⟨w,hw,by rw[uf hw,wrap_small (by omega)]⟩
 unfold dC;refine zh _ i (fun j hj=>?_) 0 _ (fun j h1 h2=>?_) (Nat.zero_le _) (by omega)
 ·obtain⟨w,hw,e⟩:=get j (by omega);rw[e];have:=MW j w hj hw;omega
 ·obtain⟨w,hw,e⟩:=get j (by omega);rw[e];rcases Nat.eq_or_lt_of_le h1 with h3|h3
  ·subst h3;have:=hhi w hw;omega
  ·obtain⟨w0,wo⟩:=aD (xs:=d.au) (i:=i) (by omega);have h4:=hhi w0 wo;have h5:=List.pairwise_iff_getElem.1 hI.oW i j (List.getElem?_eq_some_iff.1 wo).1 (List.getElem?_eq_some_iff.1 hw).1 h3;rw[(List.getElem?_eq_some_iff.1 wo).2,(List.getElem?_eq_some_iff.1 hw).2]at h5;omega
def MkOk(d:DB):Prop:=∀w∈d.au,w.marks.length<=10/\∀m∈w.marks,∃n:Nat,m.at_=(n:Int)/\n<=w.log.length
def sucW(H:List bP)(a:Int)(w:bP):List Int:=if w.s=a then(H.filter (fV w)).map (·.s)else []
end Go.S
