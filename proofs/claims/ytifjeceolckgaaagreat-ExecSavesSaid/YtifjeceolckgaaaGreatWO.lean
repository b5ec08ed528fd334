import Derived.Test.YtifjeceolckgaaaGreatWC
set_option linter.all false
set_option maxRecDepth 100000
set_option maxHeartbeats 8000000
namespace Go.S
open Go.Sx
variable {d:DB}{cols:List cK}{l:List dV}{R:Nat->List Row}{x:aJ}
theorem AJ.PW(q:AJ R l d)(nm:ByteArray)(x:Bool):∃a e,aL d ⟨0,nm,x⟩=(a,e)/\AJ R l a:=by
 by_cases y:Hw d ⟨0,nm,x⟩=true
 .have C:d.holds.any (eL ⟨0,nm,x⟩)=false:=by rw[mZL];intro o h;unfold eL;have:=q.holds o h;simp[this]
  have m:bP d.holds ⟨0,nm,x⟩=true:=by unfold bP;rw[C];simp
  have f:∀o∈cV d.holds ⟨0,nm,x⟩,o.s=0:=by
   intro o h;unfold cV at h;rw[if_pos m]at h;split at h
   .exact q.holds o h
   split at h
   .rcases mXz h with h|rfl
    .exact q.holds o h
    rfl
   rcases mQE.1 h with h|h
   .exact q.holds o h
   rw[mQH]at h;subst h;rfl
  refine⟨⟨d.az,d.aq,cV d.holds ⟨0,nm,x⟩,df d.holds d.waits ⟨0,nm,x⟩⟩,0,?_,q.az,q.aq,f,?_⟩
  .unfold aL;rw[if_pos y];show jK (d.holds.length+1) _ _=_;unfold jK;rw[if_pos m]
  show df d.holds d.waits ⟨0,nm,x⟩=[];unfold df;rw[if_pos m,q.waits];rfl
 exact⟨d,2,by unfold aL;rw[if_neg y],q⟩
theorem AJ.on(q:AJ R l d):jG (bQ d.aq 0)=true/\di (bQ d.aq 0)=0/\d.aq[0]? =some ⟨0,l,[]⟩:=by
 have h:bQ d.aq 0=bQ [⟨0,l,[]⟩] 0:=by rw[q.aq]
 rw[h];exact⟨by kernel_rfl,by kernel_rfl,by rw[q.aq];rfl⟩
theorem AN:∀ {rows out:List Row},(eZ x cols rows out).2≠0->(eZ x cols rows out).1=[]
 | [],out,h=>absurd rfl h
 |r::rs,out,h=>by
  unfold eZ at h |-;split
  .rename_i i;rw[if_pos i]at h;exact AN h
  rename_i i;rw[if_neg i]at h;generalize bS (x.items.map (·.e)) cols r=V at *;obtain⟨v,e⟩:=V;replace h:(if e≠0 then([],e)else eZ x cols rs (out++[v]):List Row×Int).2≠0:=h;show(if e≠0 then([],e)else eZ x cols rs (out++[v]):List Row×Int).1=[];split
  .rfl
  rename_i a;rw[if_neg a]at h;exact AN h
theorem Fc{r:Int}:∀ {gs:List (List Row)} {out:List Row},(gJ x cols r gs out).2≠0->(gJ x cols r gs out).1=[]
 | [],out,h=>absurd rfl h
 |g::gs,out,h=>by
  unfold gJ at h |-;generalize ki cols r g x.items []=V at *;obtain⟨v,e⟩:=V;replace h:(if e≠0 then([],e)else gJ x cols r gs (out++[v]):List Row×Int).2≠0:=h;show(if e≠0 then([],e)else gJ x cols r gs (out++[v]):List Row×Int).1=[];split
  .rfl
  rename_i a;rw[if_neg a]at h;exact Fc h
theorem Oj{a b:List Row}(h:(jI x cols a b).2≠0):(jI x cols a b).1=[]:=by
 unfold jI at h |-;generalize dp x cols=F at *;obtain⟨y,e⟩:=F;replace h:(if e≠0 then([],e)else if a.length*b.length>4000 then([],4)else match cT x cols b a []with
  | (rows,e)=>if e≠0 then([],e)else if y.kK=true then dw x cols y.group rows else eJ x cols y.order rows:List Row×Int).2≠0:=h
 show(if e≠0 then([],e)else if a.length*b.length>4000 then([],4)else match cT x cols b a []with
  | (rows,e)=>if e≠0 then([],e)else if y.kK=true then dw x cols y.group rows else eJ x cols y.order rows:List Row×Int).1=[]
 split
 .rfl
 rename_i d;rw[if_neg d]at h;split
 .rfl
 rename_i l;rw[if_neg l]at h;generalize cT x cols b a []=P at *;obtain⟨rows,c⟩:=P;replace h:(if c≠0 then([],c)else if y.kK=true then dw x cols y.group rows else eJ x cols y.order rows:List Row×Int).2≠0:=h;show(if c≠0 then([],c)else if y.kK=true then dw x cols y.group rows else eJ x cols y.order rows:List Row×Int).1=[];split
 .rfl
 rename_i E;rw[if_neg E]at h;split
 .rename_i g;rw[if_pos g]at h;exact Fc h
 rename_i g;rw[if_neg g]at h;exact AN h
theorem Gt{r:DB×Int}(h:(cP d r).2.2≠0):∃e,cP d r=(d,[],e):=by
 unfold cP at h |-;split
 .exact⟨_,rfl⟩
 rename_i a;rw[if_neg a]at h;exact absurd rfl h
theorem refused{st:aJ}{o:List dV}(q:AJ R o d)(h:(iD d 0 st).2.2≠0):∃a e,iD d 0 st=(a,[],e)/\AJ R o a:=by
 obtain⟨j,p,n⟩:=q.on;unfold iD at h |-;split
 .rename_i k;rw[if_pos k]at h;have:dy d 0=(d,(dy d 0).2):=by unfold dy jh;rw[j];split<;>first|rfl| (rename_i u;simp at u)
  exact⟨d,_,by rw[this],q⟩
 rename_i A;rw[if_neg A]at h;split
 .rename_i k;rw[if_pos k]at h;exfalso;apply h;show(dC d 0).2=0;unfold dC;rw[if_pos j]
 rename_i B;rw[if_neg B]at h;split
 .rename_i k;rw[if_pos k]at h;replace h:(jT d 0 st.name).2≠0:=h;unfold jT at h |-;rw[if_pos j]at h |-;split
  .exact⟨d,_,rfl,q⟩
  rename_i w;rw[if_neg w,p,n]at h;exact absurd rfl h
 rename_i S;rw[if_neg S]at h;split
 .rename_i k;rw[if_pos k]at h;refine⟨d,2,?_,q⟩;have:kg d 0 st.name=(d,2):=by unfold kg;rw[if_pos j,p,n];rfl
  rw[this]
 rename_i K;rw[if_neg K]at h;split
 .rename_i k;rw[if_pos k]at h;unfold nO at h |-;obtain⟨a,f,hd,b⟩:=q.PW st.table true;rw[hd]at h |-;replace h:(if f≠0 then(a,[],f)else cP a (match bS st.exprs [] []with
   | (r,e)=>if e≠0 then(a,e)else fF a 0 st.table r):DB×List Row×Int).2.2≠0:=h
  show ∃c e,(if f≠0 then(a,[],f)else cP a (match bS st.exprs [] []with
   | (r,e)=>if e≠0 then(a,e)else fF a 0 st.table r):DB×List Row×Int)=(c,[],e)/\AJ R o c
  split
  .exact⟨a,_,rfl,b⟩
  rename_i g;rw[if_neg g]at h;obtain⟨e,i⟩:=Gt h;exact⟨a,e,i,b⟩
 rename_i x;rw[if_neg x]at h;split
 .rename_i k;rw[if_pos k]at h;unfold kj at h |-;obtain⟨a,f,hd,b⟩:=q.PW st.table true;rw[hd]at h |-;simp only[]at h |-;split
  .exact⟨a,_,rfl,b⟩
  rename_i g;rw[if_neg g]at h;split
  .exact⟨a,_,rfl,b⟩
  rename_i m;rw[if_neg m]at h;obtain⟨e,i⟩:=Gt h;exact⟨a,e,i,b⟩
 rename_i y;rw[if_neg y]at h;split
 .rename_i k;rw[if_pos k]at h;unfold jt at h |-;obtain⟨a,f,hd,b⟩:=q.PW st.table true;rw[hd]at h |-;simp only[]at h |-;split
  .exact⟨a,_,rfl,b⟩
  rename_i g;rw[if_neg g]at h;split
  .exact⟨a,_,rfl,b⟩
  rename_i m;rw[if_neg m]at h;obtain⟨e,i⟩:=Gt h;exact⟨a,e,i,b⟩
 rename_i z;rw[if_neg z]at h;split
 .rename_i k;rw[if_pos k]at h;unfold gH at h |-;split
  .exact⟨d,_,rfl,q⟩
  rename_i v;rw[if_neg v]at h;obtain⟨a,f,hd,b⟩:=q.PW st.table false;rw[hd]at h |-;simp only[]at h |-;split
  .exact⟨a,_,rfl,b⟩
  rename_i g;rw[if_neg g]at h;split
  .rename_i C;rw[if_pos C]at h;have t:=Oj h;generalize jI st (aR (cI a st.table)) (cI a st.table).rows [[]]=T at *;obtain⟨l,e⟩:=T;replace t:l=[]:=t;subst t;exact⟨a,e,rfl,b⟩
  rename_i C;rw[if_neg C]at h;obtain⟨c,D,Q,s⟩:=b.PW st.join false;rw[Q]at h |-;simp only[]at h |-;split
  .exact⟨c,_,rfl,s⟩
  rename_i E;rw[if_neg E]at h;have t:=Oj h;generalize jI st (aR (cI c st.table)++aR (cI c st.join)) (cI c st.table).rows (cI c st.join).rows=T at *;obtain⟨l,e⟩:=T;replace t:l=[]:=t;subst t;exact⟨c,e,rfl,s⟩
 exact⟨d,1,rfl,q⟩
end Go.S
