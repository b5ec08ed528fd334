import Derived.Test.YtifjeceolckgaaaGreatWO
import Derived.Test.YtifjeceolckgaaaGreatWN
set_option linter.all false
set_option maxRecDepth 100000
set_option maxHeartbeats 8000000
namespace Go.S
open Go.Sx
variable {d:DB}{R:List Row}{i m n:Nat}{r:Row}
theorem mKP{S:FR}(g:S.cols=bp)(k:S.key=0)(h:SO R)(e:(bK ⟨S,R⟩ r).2=0):∃a v,r=[⟨2,a,fQ⟩,v]/\(bH (bK ⟨S,R⟩ r).1 ⟨2,a,fQ⟩).1=⟨S,R⟩:=by
 have f:dg S.cols r=0:=by
  unfold bK at e;split at e
  .rename_i b;exact absurd e (mQL b)
  rename_i b;by_cases c:dg S.cols r=0
  .exact c
  exact absurd (mQu c) b
 have j:=Um (r:=r) (by rw[<-g];exact f);obtain⟨a,v,rfl,-⟩:=j;obtain⟨p,q⟩:=h.sr.at_ a;have i:=mJ k h.sr f q;rw[i]at e |-;refine⟨a,v,rfl,?_⟩;by_cases b:kJ R a p=true
 .rw[if_pos b]at e;exact absurd (show(7:Int)=0 from e) (by decide)
 rw[if_neg b]at e |-;by_cases c:decide ((R.length:Int)>=200)=true
 .rw[if_pos c]at e;exact absurd (show(4:Int)=0 from e) (by decide)
 rw[if_neg c];have d:=h.sr.ins (v:=v) q (by simpa using b);obtain⟨l,m⟩:=q.ins (v:=v);rw[km k d l,if_pos m,VV q.le]
theorem mJL{S:FR}(g:S.cols=bp)(k:S.key=0)(h:SO R){a:Int}(e:(bH ⟨S,R⟩ ⟨2,a,fQ⟩).2.2=0):(bK (bH ⟨S,R⟩ ⟨2,a,fQ⟩).1 (bH ⟨S,R⟩ ⟨2,a,fQ⟩).2.1).1=⟨S,R⟩:=by
 obtain⟨p,q⟩:=h.sr.at_ a;have m:=km k h.sr q;rw[m]at e |-;by_cases c:kJ R a p=true
 .rw[if_pos c];obtain⟨o,r,J,Q⟩:=q.filter h.sr c;have t:=(mQB.1 r).1;have M:=lS R p;have d:=h.sr.sub M;obtain⟨n,s⟩:=q.del h.sr c;have P:=h.ok o (mQz r);have i:=P.fits;obtain⟨b,v,rfl,-⟩:=P;have f:b=a:=J;subst f;have j:=h.le;have l:(R.take p++R.drop (p+1)).length=R.length-1:=by simp;omega
  rw[r];show(bK ⟨S,R.take p++R.drop (p+1)⟩ [⟨2,b,fQ⟩,v]).1=_;rw[mJ k d (by rw[g];exact i) n,if_neg (by rw[s];decide),if_neg (by rw[l];simp;omega)];show(⟨S,_⟩:cW)=_;rw[WQ r]
 rw[if_neg c]at e;exact absurd (show(2:Int)=0 from e) (by decide)
theorem mZP{a:Type}{l:List a}{x:a}(h:l[i]? =some x):l.set i x=l:=by obtain⟨b,c⟩:=mQB.1 h;rw[<-c];exact List.set_getElem_self b
theorem mZy{T:List cW}{t a:cW}(b:T[i]? =some t)(h:a.S=t.S)(nm:ByteArray):aQ (T.set i a) nm=aQ T nm:=by unfold aQ;rw[mZc,h];refine mZP ?_;rw[mXe,b];rfl
theorem mJM{T:List cW}{nm:ByteArray}(h:jG (aQ T nm)=true):∃t,T[di (aQ T nm)]? =some t/\t.S.name=nm:=by
 unfold jG at h;obtain⟨c,a⟩:=mQL h;obtain⟨t,b⟩:=aE (xs:=T) (i:=di (aQ T nm)) (by simpa[aQ]using c);refine⟨t,b,?_⟩;have:(aQ T nm).getD (di (aQ T nm)) 0=eC t.S.name nm:=by
  conv=>lhs;unfold aQ
  rw[mXE,mXe];rw[show T.map (λx=>eC x.S.name nm)=aQ T nm from rfl,b];rfl
 rw[this]at a;exact zI a
def nXt(nm:ByteArray)(T:List cW)(act:cW->cW×dV×Int):Prop:=∀i t,T[i]? =some t->t.S.name=nm->di (aQ T nm)=i->jG (aQ T nm)=true->(act t).2.2=0->gC (T.set i (act t).1) ⟨nm,(act t).2.1.op,(act t).2.1.row⟩=T
theorem mKT{T:List cW}(w:TW T)(nm:ByteArray)(r:Row):nXt nm T (dK r):=λi t d o f e k=>by
 obtain⟨g,h,j,-⟩:=w.ok t (mQz d);obtain⟨S,R⟩:=t;have c:=lf ⟨S,R⟩ r;obtain⟨a,v,m,u⟩:=mKP (S:=S) g h j k;show gC (T.set i (bK ⟨S,R⟩ r).1) ⟨nm,1,r⟩=T;have n:=(mQB.1 d).1;have l:(T.set i (bK ⟨S,R⟩ r).1)[i]? =some (bK ⟨S,R⟩ r).1:=by rw[mZi n]
 generalize bK ⟨S,R⟩ r=P at *;obtain⟨b,M⟩:=P;replace c:b.S=S:=c;replace u:(bH b ⟨2,a,fQ⟩).1=⟨S,R⟩:=u;unfold gC;rw[mZy d c nm,e,f];show(match (T.set i b)[i]? with
  |some t=>if decide ((1:Int)=2)=true then(T.set i b).set i (bK t r).1
   else if(decide (t.S.key>=0)&&decide (t.S.key<(r.length:Int)))=true then(T.set i b).set i (bH t (xi r t.S.key)).1 else T.set i b
  |none=>T.set i b)=T
 rw[l];show(if(decide (b.S.key>=0)&&decide (b.S.key<(r.length:Int)))=true then(T.set i b).set i (bH b (xi r b.S.key)).1 else T.set i b)=T;rw[c];replace h:S.key=0:=h;rw[h,m];show(T.set i b).set i (bH b ⟨2,a,fQ⟩).1=T;rw[u,List.set_set];exact mZP d
theorem mKL{T:List cW}(w:TW T)(nm:ByteArray)(a:Int):nXt nm T (dR ⟨2,a,fQ⟩):=λi t c p f e h=>by
 obtain⟨g,j,k,-⟩:=w.ok t (mQz c);obtain⟨S,R⟩:=t;have d:=lE ⟨S,R⟩ ⟨2,a,fQ⟩;unfold dR at h |-;by_cases o:S.only=true
 .rw[if_pos o]at h;exact absurd (show(19:Int)=0 from h) (by decide)
 rw[if_neg o]at h |-;have u:=mJL (S:=S) g j k h;show gC (T.set i (bH ⟨S,R⟩ ⟨2,a,fQ⟩).1) ⟨nm,2,(bH ⟨S,R⟩ ⟨2,a,fQ⟩).2.1⟩=T;have m:=(mQB.1 c).1;have l:(T.set i (bH ⟨S,R⟩ ⟨2,a,fQ⟩).1)[i]? =some (bH ⟨S,R⟩ ⟨2,a,fQ⟩).1:=by rw[mZi m]
 generalize bH ⟨S,R⟩ ⟨2,a,fQ⟩=P at *;obtain⟨b,n,M⟩:=P;replace d:b.S=S:=d;replace u:(bK b n).1=⟨S,R⟩:=u;unfold gC;rw[mZy c d nm,e,f];show(match (T.set i b)[i]? with
  |some t=>if decide ((2:Int)=2)=true then(T.set i b).set i (bK t n).1
   else if(decide (t.S.key>=0)&&decide (t.S.key<(n.length:Int)))=true then(T.set i b).set i (bH t (xi n t.S.key)).1 else T.set i b
  |none=>T.set i b)=T
 rw[l];show(T.set i b).set i (bK b n).1=T;rw[u,List.set_set];exact mZP c
structure SV(T0:List cW)(n:Nat)(d:DB):Prop where
 wk:∃L,d.aq=[⟨0,L,[⟨jU,(n:Int)⟩]⟩]/\n<=L.length/\eV d.az (L.drop n)=T0
 holds:∀h∈d.holds,h.s=0
 waits:d.waits=[]
theorem SV.PW{T:List cW}(q:SV T n d)(nm:ByteArray)(x:Bool):∃a e,aL d ⟨0,nm,x⟩=(a,e)/\SV T n a/\a.az=d.az/\(e=0->jG (aQ d.az nm)=true):=by
 by_cases y:Hw d ⟨0,nm,x⟩=true
 .have C:d.holds.any (eL ⟨0,nm,x⟩)=false:=by rw[mZL];intro o h;unfold eL;have:=q.holds o h;simp[this]
  have m:bP d.holds ⟨0,nm,x⟩=true:=by unfold bP;rw[C];simp
  have f:∀o∈cV d.holds ⟨0,nm,x⟩,o.s=0:=by
   intro o h;unfold cV at h;rw[if_pos m]at h;split at h
   .exact q.holds o h
   split at h
   .rcases mXz h with h|rfl
    .exact q.holds o h
    rfl
   rcases mQE.1 h with h|h
   .exact q.holds o h
   rw[mQH]at h;subst h;rfl
  refine⟨⟨d.az,d.aq,cV d.holds ⟨0,nm,x⟩,df d.holds d.waits ⟨0,nm,x⟩⟩,0,?_,⟨q.wk,f,?_⟩,rfl,λ_=>?_⟩
  .unfold aL;rw[if_pos y];show jK (d.holds.length+1) _ _=_;unfold jK;rw[if_pos m]
  .show df d.holds d.waits ⟨0,nm,x⟩=[];unfold df;rw[if_pos m,q.waits];rfl
  unfold Hw at y;rw[mQQ]at y;exact y.2
 exact⟨d,2,by unfold aL;rw[if_neg y],q,rfl,λe=>absurd e (by decide)⟩
theorem mJI(L:List dV)(M:List oy):jG (bQ [⟨0,L,M⟩] 0)=true/\di (bQ [⟨0,L,M⟩] 0)=0:=⟨by kernel_rfl,by kernel_rfl⟩
theorem SV.change{T:List cW}(q:SV T n d)(nm:ByteArray){a:cW->cW×dV×Int}(u:nXt nm d.az a):SV T n (dM d ⟨0,nm,true⟩ a).1:=by
 obtain⟨b,e,hd,c,k,i⟩:=q.PW nm true;unfold dM;rw[hd];by_cases h:decide (e≠0)=true
 .rw[if_pos h];exact c
 rw[if_neg h];have l:e=0:=by simpa using h
 have f:=i l;rw[<-k]at f u;obtain⟨t,R,H⟩:=mJM f;obtain⟨L,g,j,U⟩:=c.wk;obtain⟨o,m⟩:=mJI L [⟨jU,(n:Int)⟩];have K:di (bQ b.aq 0)=0:=by rw[g];exact m
 have E:b.aq[0]? =some ⟨0,L,[⟨jU,(n:Int)⟩]⟩:=by rw[g];rfl
 show SV T n (match b.az[di (aQ b.az nm)]?,b.aq[di (bQ b.aq 0)]? with
  |some t,some w=>
   if decide ((a t).2.2≠19)&&decide ((w.log.length:Int)>=60)then(b,(4:Int))
   else if decide ((a t).2.2=0)=true then
    ((⟨b.az.set (di (aQ b.az nm)) (a t).1,b.aq.set (di (bQ b.aq 0)) (⟨w.s,w.log++[(⟨nm,(a t).2.1.op,(a t).2.1.row⟩:dV)],w.marks⟩:fJ),b.holds,b.waits⟩:DB),(0:Int))
   else(b,(a t).2.2)
  |_,_=>(b,e)).1
 rw[R,K,E];show SV T n (if decide ((a t).2.2≠19)&&decide ((L.length:Int)>=60)then(b,(4:Int))
  else if decide ((a t).2.2=0)=true then
   ((⟨b.az.set (di (aQ b.az nm)) (a t).1,b.aq.set 0 ⟨0,L++[⟨nm,(a t).2.1.op,(a t).2.1.row⟩],[⟨jU,(n:Int)⟩]⟩,b.holds,b.waits⟩:DB),(0:Int))
  else(b,(a t).2.2)).1
 split
 .exact c
 split
 .rename_i h0;have hx:=u _ t R H rfl f (mQL h0);refine⟨⟨L++[⟨nm,(a t).2.1.op,(a t).2.1.row⟩],by show b.aq.set 0 _=_;rw[g];rfl,by rw[mQy];omega,?_⟩,c.holds,c.waits⟩;rw[List.drop_append_of_le_length j];show eV (b.az.set (di (aQ b.az nm)) (a t).1) (L.drop n++[_])=T;unfold eV;rw[List.foldr_append];show eV (gC (b.az.set (di (aQ b.az nm)) (a t).1) ⟨nm,(a t).2.1.op,(a t).2.1.row⟩) (L.drop n)=T;rw[hx,U]
 exact c
theorem SV.put{T:List cW}(q:SV T n d)(e:EJ m d)(nm:ByteArray)(r:Row):SV T n (fF d 0 nm r).1:=q.change nm (mKT e.sj.sc.tw nm r)
theorem SV.take{T:List cW}(q:SV T n d)(e:EJ m d)(nm:ByteArray)(b:fK r):SV T n (iz d 0 nm (mD d nm r)).1:=by
 obtain⟨a,v,rfl,-⟩:=b;have k:(cI d nm).S.key=0:=by
  unfold cI;cases h:d.az.find? λt=>decide (t.S.name=nm)with
  |none=>rfl
  |some t=>exact(e.sj.sc.tw.ok t (mJu h)).2.1
 have:mD d nm [⟨2,a,fQ⟩,v]=⟨2,a,fQ⟩:=by unfold mD;rw[k];rfl
 rw[this];exact q.change nm (mKL e.sj.sc.tw nm a)
theorem nQa:(-2^63:Int)<=0/\(0:Int)<2^63:=by decide
theorem mJj{T:List cW}{nm:ByteArray}:∀ {rows:List Row} {m:Nat} {d:DB},(∀r∈rows,fK r)->EJ m d->SV T n d->SV T n (iZ 0 nm rows d).1
 | [],m,d,_,_,h=>h
 |x::r,m,d,a,j,h=>by
  have f:=j.take nm nQa (a x mXn);have c:=h.take j nm (a x mXn);show SV _ _ (CV (λd r=>iz d 0 nm (mD d nm r)) (x::r) d).1;rw[Bh];generalize iz d 0 nm (mD d nm x)=H at *;obtain⟨b,e⟩:=H;show SV _ _ (if e≠0 then(b,e)else iZ 0 nm r b).1;by_cases h0:e≠0
  .rw[if_pos h0];exact c
  rw[if_neg h0];exact mJj (λy g=>a y (mXm _ g)) f c
theorem mKO{T:List cW}{nm:ByteArray}:∀ {rows:List Row} {m:Nat} {d:DB},(∀r∈rows,fS r)->EJ m d->SV T n d->SV T n (uH 0 nm rows d).1
 | [],m,d,_,_,h=>h
 |x::r,m,d,c,j,h=>by
  have f:=j.put nm nQa (c x mXn);have b:=h.put j nm x;show SV _ _ (CV (λd r=>fF d 0 nm r) (x::r) d).1;rw[Bh];generalize fF d 0 nm x=H at *;obtain⟨a,e⟩:=H;show SV _ _ (if e≠0 then(a,e)else uH 0 nm r a).1;by_cases h0:e≠0
  .rw[if_pos h0];exact b
  rw[if_neg h0];exact mKO (λy g=>c y (mXm _ g)) f b
theorem mJq{cols:List cK}(d:fS r):∀ {xs:List (List Nd)} {m l:Row} {e:Int},(∀ex∈xs,iY ex)->fS m->pF cols r xs m=(l,e)->fS l
 | [],m,l,e,_,hm,h=>by cases h;exact hm
 |x::xs,m,l,e,c,hm,h=>by
  rw[rB]at h;cases p:eP x cols r with
  |mk v f=>
  rw[p]at h;have h:(if f≠0 then([],f)else pF cols r xs (m++[v]))=(l,e):=h;by_cases b:f≠0
  .rw[if_pos b]at h;cases h;exact λv i=>by cases i
  rw[if_neg b]at h;refine mJq d (λex g=>c ex (mXm _ g)) (λw a=>?_) h;rcases mQE.1 a with a|a
  .exact hm w a
  rw[mQH]at a;rw[a];exact zM (λn h=>(c x mXn n h).2) d p
structure GD(T0:List cW)(n m:Nat)(d:DB):Prop where
 sv:SV T0 n d
 ej:EJ m d
theorem mZO{T:List cW}{r:DB×Int}(h:GD T n m d)(a:GD T n m r.1):GD T n m (cP d r).1:=by
 unfold cP;split
 .exact h
 exact a
theorem GD.le{T:List cW}{k:Nat}(q:GD T n m d)(h:m<=k):GD T n k d:=⟨q.sv,q.ej.le h⟩
theorem GD.hold{T:List cW}(q:GD T n m d)(nm:ByteArray)(x:Bool):∃a e,aL d ⟨0,nm,x⟩=(a,e)/\GD T n (m+1) a:=by obtain⟨b,e,hd,c,-⟩:=q.sv.PW nm x;have:=q.ej.hold ⟨0,nm,x⟩ nQa;rw[hd]at this;exact⟨b,e,hd,c,this⟩
theorem GD.run{T:List cW}(q:GD T n m d){st:aJ}(hx:dr st)(N:st.kind≠9)(S:st.kind≠10)(C:st.kind≠11):GD T n (m+402) (iD d 0 st).1:=by
 unfold iD;split
 .obtain⟨L,H,-,-⟩:=q.sv.wk;have D:jG (bQ d.aq 0)=true:=by rw[H];exact(mJI _ _).1
  have:(dy d 0).1=d:=by unfold dy jh;rw[D];split<;>first|rfl| (rename_i F;simp at F)
  show GD T n (m+402) (dy d 0).1;rw[this];exact q.le (by omega)
 split
 .unfold nO;obtain⟨a,k,hd,b⟩:=q.hold st.table true;rw[hd];show GD T n (m+402) (if k≠0 then(a,[],k)else cP a (match bS st.exprs [] []with
   | (r,e)=>if e≠0 then(a,e)else fF a 0 st.table r):DB×List Row×Int).1
  split
  .exact b.le (by omega)
  refine mZO (b.le (by omega)) ?_;cases l:bS st.exprs [] []with
  |mk r e=>
   show GD T n (m+402) (if e≠0 then(a,e)else fF a 0 st.table r).1;split
   .exact b.le (by omega)
   have g:fS r:=mJq (λv l=>by cases l) hx.exprs (λv l=>by cases l) l;exact GD.le ⟨b.sv.put b.ej _ _,b.ej.put _ nQa g⟩ (by omega)
 split
 .unfold kj;obtain⟨a,k,hd,b⟩:=q.hold st.table true;have tk:=b.ej.held st.table;rw[hd];dsimp only;split
  .exact b.le (by omega)
  split
  .exact b.le (by omega)
  refine mZO (b.le (by omega)) ?_;split
  .exact b.le (by omega)
  have K:=λx h=>yv (w:=st.bV) (cols:=aR (cI a st.table)) (f:=oY (cI a st.table) st) (rows:=(cI a st.table).rows) (xs:=[]) (ys:=[]) x h;have J:=λx h=>Dk (w:=st.bV) (cols:=aR (cI a st.table)) (f:=oY (cI a st.table) st) (rows:=(cI a st.table).rows) (xs:=[]) (ys:=[]) x h;have A:=yw (w:=st.bV) (cols:=aR (cI a st.table)) (f:=oY (cI a st.table) st) (rows:=(cI a st.table).rows) (xs:=[]) (ys:=[]);generalize eN st.bV (aR (cI a st.table)) (oY (cI a st.table) st) (cI a st.table).rows ([],[])=P at *;obtain⟨⟨p,s⟩,i⟩:=P;have G:=tk.len;have M:p.length<=200:=by have:=A.1;simp only[mQS]at this;omega
  have O:s.length<=200:=by have:=A.2;simp only[mQS]at this;omega
  have c:∀r∈p,fK r:=λr g=>by
   rcases K r g with h|h
   .cases h
   exact(tk.row r h).1
  have Q:∀r∈s,fS r:=λr g=>by
   rcases J r g with h| ⟨I,z,B⟩
   .cases h
   rw[B];exact Zi hx (tk.row I z).2
  show GD T n (m+402) (if i≠0 then(a,i)else match iZ 0 st.table p a with
   | (d,e)=>if e≠0 then(d,e)else uH 0 st.table s d).1
  split
  .exact b.le (by omega)
  have s1:=mJj (nm:=st.table) c b.ej b.sv;have o:=UX (nm:=st.table) nQa c b.ej;generalize iZ 0 st.table p a=E at *;obtain⟨j,u⟩:=E;replace s1:SV T n j:=s1;replace o:EJ (m+1+p.length) j:=o;show GD T n (m+402) (if u≠0 then(j,u)else uH 0 st.table s j).1;split
  .exact GD.le ⟨s1,o⟩ (by omega)
  exact GD.le ⟨mKO Q o s1,dZh nQa Q o⟩ (by omega)
 split
 .unfold jt;obtain⟨a,k,hd,b⟩:=q.hold st.table true;have tk:=b.ej.held st.table;rw[hd];dsimp only;split
  .exact b.le (by omega)
  split
  .exact b.le (by omega)
  refine mZO (b.le (by omega)) ?_;split
  .exact b.le (by omega)
  have K:=λx h=>yv (w:=st.bV) (cols:=aR (cI a st.table)) (f:=λ_=>([],0)) (rows:=(cI a st.table).rows) (xs:=[]) (ys:=[]) x h;have A:=yw (w:=st.bV) (cols:=aR (cI a st.table)) (f:=λ_=>([],0)) (rows:=(cI a st.table).rows) (xs:=[]) (ys:=[]);generalize eN st.bV (aR (cI a st.table)) (λ_=>([],0)) (cI a st.table).rows ([],[])=P at *;obtain⟨⟨p,s⟩,i⟩:=P;have G:=tk.len;have M:p.length<=200:=by have:=A.1;simp only[mQS]at this;omega
  have c:∀r∈p,fK r:=λr g=>by
   rcases K r g with h|h
   .cases h
   exact(tk.row r h).1
  show GD T n (m+402) (if i≠0 then(a,i)else iZ 0 st.table p a).1;split
  .exact b.le (by omega)
  exact GD.le ⟨mJj c b.ej b.sv,UX nQa c b.ej⟩ (by omega)
 split
 .unfold gH;split
  .exact q.le (by omega)
  obtain⟨a,k,hd,b⟩:=q.hold st.table false;rw[hd];dsimp only;split
  .exact b.le (by omega)
  split
  .exact b.le (by omega)
  obtain⟨j,i,t,y⟩:=b.hold st.join false;rw[t];dsimp only;split
  .exact y.le (by omega)
  exact y.le (by omega)
 exact q.le (by omega)
def mZt:ByteArray:=aM [116,104,101,114,101]
def mKW:aJ:={ kind:=10,name:=jU }
def mKY:aJ:={ kind:=11,name:=jU }
def mKN:aJ:={ kind:=11,name:=mZt }
theorem mKZ{R:Nat->List Row}{l:List dV}(b:AL m R l d):∃c,iD d 0 mKW=(c,[],0)/\GD d.az l.length (2*m) c:=by
 obtain⟨h,i,g⟩:=b.aj.on;have e:iD d 0 mKW=((jT d 0 jU).1,[],(jT d 0 jU).2):=rfl;have s:jT d 0 jU=(⟨d.az,d.aq.set 0 ⟨0,l,[⟨jU,(l.length:Int)⟩]⟩,d.holds,d.waits⟩,0):=by unfold jT;rw[h,i,g,gJt];rfl
 have j:=gZS b.ej.sj 0 jU nQa;have a:=b.ej.al.save 0 jU;rw[s]at e j a;refine⟨_,e,⟨⟨l,?_,mQD _,?_⟩,b.aj.holds,b.aj.waits⟩,j,a⟩
 .show d.aq.set 0 _=_;rw[b.aj.aq];rfl
 rw[mJD];rfl
theorem nQd{T:List cW}(q:GD T n m d):∃b,iD d 0 mKY=(b,[],0)/\b.az=T/\EJ m b/\(iD b 0 mKN).2.2=2:=by
 obtain⟨L,h,r,U⟩:=q.sv.wk;obtain⟨w,l⟩:=mJI L [⟨jU,(n:Int)⟩];have c:jG (bQ d.aq 0)=true:=by rw[h];exact w
 have i:di (bQ d.aq 0)=0:=by rw[h];exact l
 have g:d.aq[0]? =some ⟨0,L,[⟨jU,(n:Int)⟩]⟩:=by rw[h];rfl
 have e:iD d 0 mKY=((kg d 0 jU).1,[],(kg d 0 jU).2):=rfl;have F:fN (n:Int) L.length=n:=by show min ((n:Int)).toNat L.length=n;omega
 have K:kg d 0 jU=(⟨T,[⟨0,L.take n,[⟨jU,(n:Int)⟩]⟩],d.holds,d.waits⟩,0):=by
  have f:yL [⟨jU,(n:Int)⟩] jU 1=some 0:=rfl;have o:kg d 0 jU=(⟨eV d.az (L.drop (fN (n:Int) L.length)),d.aq.set 0 ⟨0,L.take (fN (n:Int) L.length),[⟨jU,(n:Int)⟩]⟩,d.holds,d.waits⟩,0):=by
   unfold kg;rw[c,i,g];show(match yL [⟨jU,(n:Int)⟩] jU 1 with
    |some k=>((⟨eV d.az (L.drop (fN ((([(⟨jU,(n:Int)⟩:oy)][k]?).map (λm:oy=>m.at_)).getD 0) L.length)),d.aq.set 0 ⟨0,L.take (fN ((([(⟨jU,(n:Int)⟩:oy)][k]?).map (λm:oy=>m.at_)).getD 0) L.length),[(⟨jU,(n:Int)⟩:oy)].take (k+1)⟩,d.holds,d.waits⟩:DB),(0:Int))
    |none=>(d,2))=_
   rw[f];rfl
  rw[o,F,U,h];rfl
 have j:=gZV q.ej.sj 0 jU nQa;have a:=q.ej.al.kg 0 jU;rw[K]at e j a;refine⟨_,e,rfl,⟨j,a⟩,?_⟩;have p:∀b:DB,b.aq=[⟨0,L.take n,[⟨jU,(n:Int)⟩]⟩]->(kg b 0 mZt).2=2:=λb E=>by
  obtain⟨w,l⟩:=mJI (L.take n) [⟨jU,(n:Int)⟩];have c:jG (bQ b.aq 0)=true:=by rw[E];exact w
  have i:di (bQ b.aq 0)=0:=by rw[E];exact l
  have g:b.aq[0]? =some ⟨0,L.take n,[⟨jU,(n:Int)⟩]⟩:=by rw[E];rfl
  have f:yL [⟨jU,(n:Int)⟩] mZt 1=none:=by unfold yL;show(if decide (jU=mZt)=true then some 0 else yL [⟨jU,(n:Int)⟩] mZt 0)=none;rw[if_neg (by decide)];rfl
  unfold kg;rw[c,i,g];show(match yL [⟨jU,(n:Int)⟩] mZt 1 with
   |some k=>((⟨eV b.az ((L.take n).drop (fN ((([(⟨jU,(n:Int)⟩:oy)][k]?).map (λm:oy=>m.at_)).getD 0) (L.take n).length)),b.aq.set 0 ⟨0,(L.take n).take (fN ((([(⟨jU,(n:Int)⟩:oy)][k]?).map (λm:oy=>m.at_)).getD 0) (L.take n).length),[(⟨jU,(n:Int)⟩:oy)].take (k+1)⟩,b.holds,b.waits⟩:DB),(0:Int))
   |none=>(b,2)).2=2
  rw[f]
 exact p _ rfl
def nXj:ByteArray:=⟨#[115,97,118,101,112,111,105,110,116,32,104,101,114,101]⟩
def nXk:ByteArray:=⟨#[114,111,108,108,98,97,99,107,32,116,111,32,104,101,114,101]⟩
def mKU:ByteArray:=⟨#[114,111,108,108,98,97,99,107,32,116,111,32,116,104,101,114,101]⟩
theorem nXd:cL ao nXj=(mKW,0)/\bJ nXj=true:=⟨by kernel_rfl,by kernel_rfl⟩
theorem nXe:cL ao nXk=(mKY,0)/\bJ nXk=true:=⟨by kernel_rfl,by kernel_rfl⟩
theorem nQT:cL ao mKU=(mKN,0)/\bJ mKU=true:=⟨by kernel_rfl,by kernel_rfl⟩
theorem mKV:dr mKW:=oL (by kernel_rfl)
theorem mKX:dr mKY:=oL (by kernel_rfl)
theorem mKM:dr mKN:=oL (by kernel_rfl)
end Go.S
