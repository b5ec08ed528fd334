import Derived.Test.YtekoaiendgjkdaaGreatKA
import Derived.Test.YtekoaiendgjkdaaGreatEC
import Derived.Test.YtekoaiendgjkdaaGreatP1
set_option linter.unusedVariables false
set_option linter.unusedSimpArgs false
set_option linter.unusedSectionVars false
set_option maxRecDepth 100000
set_option maxHeartbeats 8000000
namespace Go.S
open Go.Sx Go.Proofs
theorem uJ(a b:Int){h:ad}{k:Value->ad->Prop}(hk:k (.int .i64 (eR a b)) h):Ct 53 [.int .i64 a,.int .i64 b] h k:=by
 obtain⟨A,hA⟩:=Ar.ex;obtain⟨c,hc⟩:∃c,c=eR a b:=⟨_,rfl⟩;rw[<-hc]at hk;generalize e1:A .aI .lss a b=u1;generalize e2:A .aI .gtr a b=u2;have f1:=e1;have f2:=e2;rw[bm A]at f1;rw[bO A]at f2;unfold eR at hc;rw[f1,f2]at hc;refine ah A (ax jKz.aK jKz.bF) Tryz.func53 rfl (by kernel_rfl) ?_;cbv;rw[e1];cases u1 with
 |true=>have hc:c=-1:=hc;subst hc;cbv;exact hk
 |false=>
  cbv;rw[e2];cases u2 with
  |true=>have hc:c=1:=hc;subst hc;cbv;exact hk
  |false=>have hc:c=0:=hc;subst hc;cbv;exact hk
theorem Lm:∀a b:List UInt8,Lib.compareBytes a b=0↔a=b
 | [],[]=>by simp[Lib.compareBytes]
 | [],y::b=>by simp[Lib.compareBytes]
 |x::a,[]=>by simp[Lib.compareBytes]
 |x::a,y::b=>by
  unfold Lib.compareBytes;by_cases h:x<y
  ·simp[h];intro e;subst e;exact absurd h (mJT x)
  ·by_cases h2:y<x
   ·simp[h,h2];intro e;subst e;exact absurd h2 (mJT x)
   ·have:x=y:=by rw[mXP]at h h2;exact mXG.1 (by omega)
    subst this;simp[h,Lm a b]
theorem QR:∀a b:List UInt8,Lib.compareBytes a b=- Lib.compareBytes b a
 | [],[]=>by simp[Lib.compareBytes]
 | [],y::b=>by simp[Lib.compareBytes]
 |x::a,[]=>by simp[Lib.compareBytes]
 |x::a,y::b=>by
  unfold Lib.compareBytes;by_cases h:x<y
  ·have h2:¬y<x:=by rw[mXP]at h |-;omega
   simp[h,h2]
  ·by_cases h2:y<x
   ·simp[h,h2]
   ·simp[h,h2,QR a b]
theorem zI{a b:ByteArray}(h:eC a b=0):a=b:=by
 unfold eC at h;have:=(Lm _ _).1 h;cases a with
 |mk a=>
  cases b with
  |mk b=>congr 1;exact Array.ext' this
theorem Di(a b:ByteArray):eC a b=- eC b a:=by unfold eC;exact QR _ _
structure TW(T:List cW):Prop where
 jC:T.Pairwise (fun a b=>eC a.S.name b.S.name<0)
 ok:∀t∈T,t.S.cols=bp/\t.S.key=0/\SO t.rows/\t.S.name.size<=12
 le:T.length<=8
theorem xm{T:List cW}(h:T.Pairwise (fun a b=>eC a.S.name b.S.name<0)){i:Nat}{t:cW}(hi:T[i]? =some t):di (aQ T t.S.name)=i/\jG (aQ T t.S.name)=true:=by
 have ke:=(HH.1 hi).1;have hl:(aQ T t.S.name).length=T.length:=by simp[aQ]
 have get:∀j x,T[j]? =some x->(aQ T t.S.name).getD j 0=eC x.S.name t.S.name:=fun j x hx=>by
  rw[mXv];unfold aQ;rw[mQU,hx];rfl
 refine dQq _ i (by omega) (by rw[get i t hi];exact zJ _) (fun j hj=>?_) (fun j hj KP=>?_)
 ·obtain⟨x,hx⟩:=aE (xs:=T) (i:=j) (by omega);rw[get j x hx];have:=mQN.1 h j i (HH.1 hx).1 ke hj;rw[(HH.1 hx).2,(HH.1 hi).2]at this;exact this
 ·obtain⟨x,hx⟩:=aE (xs:=T) (i:=j) (by omega);rw[get j x hx];have:=mQN.1 h i j ke (HH.1 hx).1 hj;rw[(HH.1 hx).2,(HH.1 hi).2]at this;rw[Di]at this;omega
theorem UT{S:FR}(h1:S.cols=bp)(h2:S.key=0){R:List Row}{r:Row}(h:SO R)(hr:fK r\/r.length≠2):SO (bK ⟨S,R⟩ r).1.rows:=by
 rcases hr with hr|hr
 ·have hf:=hr.fits;have uj:=hr;obtain⟨a,v,rfl,-⟩:=uj;obtain⟨p,q⟩:=h.sr.at_ a;rw[mJ (S:=S) h2 h.sr (by rw[h1];exact hf) q];by_cases h3:kJ R a p=true
  ·rw[if_pos h3];exact h
  ·rw[if_neg h3];by_cases h4:decide ((R.length:Int)>=200)=true
   ·rw[if_pos h4];exact h
   ·rw[if_neg h4];have h4:R.length<200:=by simp at h4;omega
    refine⟨h.sr.ins (v:=v) q (by simpa using h3),fun row fR=>?_,?_⟩
    ·rcases mQv.1 fR with fR|fR
     ·rcases mQv.1 fR with fR|fR
      ·exact h.ok row (mXN fR)
      ·simp at fR;rw[fR];exact hr
     ·exact h.ok row (mXU fR)
    ·have:=q.le;simp;omega
 ·have:dg S.cols r=1:=by
   unfold dg;have h2:S.cols.length=2:=by rw[h1];rfl
   rw[if_pos (kS (by rw[h2];omega))]
  unfold bK;simp only;rw[this];exact h
theorem Oi{S:FR}(h2:S.key=0){R:List Row}(h:SO R)(a:Int):SO (bH ⟨S,R⟩ ⟨2,a,fQ⟩).1.rows:=by
 obtain⟨p,q⟩:=h.sr.at_ a;rw[km (S:=S) h2 h.sr q];by_cases h1:kJ R a p=true
 ·rw[if_pos h1];have eM:=lS R p;exact⟨h.sr.sub eM,fun row fR=>h.ok row (eM.subset fR),mXW eM.length_le h.le⟩
 ·rw[if_neg h1];exact h
theorem TW.set{T:List cW}(h:TW T){i:Nat}{t t':cW}(hi:T[i]? =some t)(hS:t'.S=t.S)(hr:SO t'.rows):TW (T.set i t'):=by
 have ke:=(HH.1 hi).1;refine⟨?_,fun x hx=>?_,by rw[mXo];exact h.le⟩
 ·rw[mQN];have e:∀j (hj:j<(T.set i t').length),(T.set i t')[j].S=(T[j]'(by simpa using hj)).S:=fun j hj=>by
   rw[mZI];split
   ·rename_i e;subst e;rw[hS,<-(HH.1 hi).2]
   ·rfl
  intro a b ha hb Gn;rw[e a ha,e b hb];exact mQN.1 h.jC a b _ _ Gn
 ·rcases mXx hx with h1|h1
  ·exact h.ok x h1
  ·have:=h.ok t (GD hi);rw[h1,hS];exact⟨this.1,this.2.1,hr,this.2.2.2⟩
structure FV(T:List cW)(x:dV):Prop where
 row:fK x.row
 op:x.op=1\/x.op=2
 at_:∃t∈T,t.S.name=x.table
theorem FV.map{T T':List cW}{x:dV}(h:FV T x)(e:T'.map (·.S)=T.map (·.S)):FV T' x:=by
 refine⟨h.row,h.op,?_⟩;obtain⟨t,ht,hn⟩:=h.at_;have:t.S∈T'.map (·.S):=by rw[e];exact mJd ht
 obtain⟨t',PI,he⟩:=mQO.1 this;exact⟨t',PI,by rw[he];exact hn⟩
theorem Of{T:List cW}(h:TW T){x:dV}(hx:FV T x){i:Nat}{t:cW}(hi:T[i]? =some t)(hn:t.S.name=x.table):
 gC T x=T.set i (if x.op=2 then(bK t x.row).1 else(bH t (xi x.row 0)).1)/\TW (gC T x):=by
 obtain⟨h1,h2⟩:=xm h.jC hi;rw[hn]at h1 h2;obtain⟨c1,c2,c3,-⟩:=h.ok t (GD hi);have e:gC T x=T.set i (if x.op=2 then(bK t x.row).1 else(bH t (xi x.row 0)).1):=by
  unfold gC;rw[h1,h2,hi];simp only[if_true];by_cases ho:x.op=2
  ·rw[if_pos (kS ho),if_pos ho]
  ·rw[if_neg (by simpa using ho),if_neg ho,if_pos (by
    obtain⟨a,v,hr,-⟩:=hx.row;rw[c2,hr];rfl),c2]
 refine⟨e,?_⟩;rw[e];obtain⟨S,R⟩:=t;by_cases ho:x.op=2
 ·rw[if_pos ho];exact h.set hi (lf _ _) (UT c1 c2 c3 (.inl hx.row))
 ·rw[if_neg ho];obtain⟨a,v,hr,-⟩:=hx.row;rw[hr];exact h.set hi (lE _ _) (Oi c2 c3 a)
theorem aXh{T:List cW}(h:TW T){x:dV}(hx:FV T x):TW (gC T x):=by obtain⟨t,ht,hn⟩:=hx.at_;obtain⟨i,hi⟩:=mQZ ht;exact(Of h hx hi hn).2
theorem BA{T:List cW}(h:TW T):∀ {l:List dV},(∀x∈l,FV T x)->TW (eV T l)
 | [],_=>h
 |x::r,hl=>aXh (BA h (fun y hy=>hl y (mQQ _ hy))) ((hl x (by simp)).map (BB T r))
structure jJR where
 w:dQz
 lb:Option Addr
 ln:Nat
 lc:Nat
structure SI(d:DB):Prop where
 tw:TW d.az
 jC:d.aq.Pairwise (fun a b=>a.s<b.s)
 pH:∀w∈d.aq,0<=w.s/\w.s<8
 log:∀w∈d.aq,(∀x∈w.log,FV d.az x)/\w.log.length<=60
 holds:d.holds.length<=2^17
 waits:d.waits.length<=2^17
theorem uq{l:List fJ}(h:l.Pairwise (fun a b=>a.s<b.s)){i:Nat}{w:fJ}(hi:l[i]? =some w):∀(j:Nat) (y:fJ),l[j]? =some y->y.s=w.s->j=i:=by
 intro j y hy he;have hj:=HH.1 hy;have Cz:=HH.1 hi;rcases mZu j i with h1|h1|h1
 ·have:=mQN.1 h j i hj.1 Cz.1 h1;rw[hj.2,Cz.2]at this;omega
 ·exact h1
 ·have:=mQN.1 h i j Cz.1 hj.1 h1;rw[hj.2,Cz.2]at this;omega
end Go.S
