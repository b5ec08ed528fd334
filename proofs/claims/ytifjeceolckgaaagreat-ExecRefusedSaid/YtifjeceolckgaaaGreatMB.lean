import Derived.Test.YtifjeceolckgaaaGreatMA
set_option linter.all false
set_option maxRecDepth 100000
set_option maxHeartbeats 8000000
namespace Go.S
open Go.Sx Go.Proofs
variable {b d:DB}{D:DB×Int}{s:Int}{H:List cg}{i j n:Nat}{r:Row}{hd x:cg}{w:fJ}
structure SC(d:DB):Prop where
 tw:TW d.az
 jC:d.aq.Pairwise (λa b=>a.s<b.s)
 pH:∀w∈d.aq,0<=w.s/\w.s<8
 log:∀w∈d.aq,(∀x∈w.log,FV d.az x)/\w.log.length<=60
 VG:gZo d
 hu:HU d.holds
 hw:∀x∈d.holds,∃w∈d.aq,w.s=x.s
 hc:∀x∈d.holds,∀y∈d.holds,eL x y=false
 lg:∀w∈d.aq,∀c∈w.log,∃x∈d.holds,x.s=w.s/\x.table=c.table/\x.x=true
theorem SC.si(q:SC d)(o:ue n d)(h:n<=2^17):SI d:=⟨q.tw,q.jC,q.pH,q.log,mXT o.holds h,mXT o.waits h⟩
theorem aJg:(oG H hd=none/\∀x∈H,jJ hd x=false)\/∃i x,oG H hd=some i/\H[i]? =some x/\jJ hd x=true:=by
 cases h:oG H hd with
 |none=>left;refine⟨rfl,?_⟩;unfold oG at h;exact mKC.1 h
 |some i=>right;unfold oG at h;obtain⟨a,b,-⟩:=mKB.1 h;exact⟨i,_,rfl,mXP a,b⟩
theorem aJh(h:jJ hd x=true):x.s=hd.s/\x.table=hd.table:=by unfold jJ at h;simpa using h
theorem IU(hd:cg):
 (bP H hd=true/\((cV H hd=H/\∃x∈H,x.s=hd.s/\x.table=hd.table/\(x.x|| !hd.x)=true)\/((∀y∈H,eL hd y=false)/\cV H hd=H++[hd]/\∀x∈H,jJ hd x=false)\/
  ((∀y∈H,eL hd y=false)/\hd.x=true/\∃i x,H[i]? =some x/\x.s=hd.s/\x.table=hd.table/\cV H hd=H.set i hd)))\/(bP H hd=false/\cV H hd=H):=by
 have u:H.any (eL hd)=false->∀y∈H,eL hd y=false:=λh y k=>by
  have:=mZL.1 h y k;simpa using this
 have K:bP H hd=false->cV H hd=H:=λh=>by unfold cV;rw[h];rfl
 rcases aJg (H:=H) (hd:=hd)with⟨hm,V⟩|⟨i,x,hm,hx,p⟩
 .obtain⟨f,g,c⟩:=Rd (W:=[]) hm;cases a:H.any (eL hd)with
  |false=>left;exact⟨by rw[f,a];rfl,.inr (.inl ⟨u a,g a,V⟩)⟩
  |true=>
   right;have:bP H hd=false:=by rw[f,a];rfl
   exact⟨this,K this⟩
 obtain⟨e,d⟩:=aJh p;obtain⟨f,g⟩:=Rc (W:=[]) hm hx p;cases J:(x.x|| !hd.x)with
 |true=>left;obtain⟨c,j⟩:=f J;exact⟨c,.inl ⟨j,x,mQz hx,e,d,J⟩⟩
 |false=>
  obtain⟨c,j,l⟩:=g J;cases a:H.any (eL hd)with
  |false=>
   left;refine⟨by rw[c,a];rfl,.inr (.inr ⟨u a,?_,i,x,hx,e,d,?_⟩)⟩
   .cases b:hd.x with
    |true=>rfl
    |false=>rw[b]at J;simp at J
   rw[j a];have b:hd.x=true:=by
    cases b:hd.x with
    |true=>rfl
    |false=>rw[b]at J;simp at J
   congr 1;cases hd;simp only at e d b;rw[e,d,b]
  |true=>
   right;have:bP H hd=false:=by rw[c,a];rfl
   exact⟨this,K this⟩
theorem cZy(hd:cg)(h:bP H hd=true):∃x∈cV H hd,x.s=hd.s/\x.table=hd.table/\(x.x|| !hd.x)=true:=by
 rcases IU (H:=H) hd with⟨-,a⟩|⟨a,-⟩
 .rcases a with⟨e,x,hx,b⟩|⟨-,e,-⟩|⟨-,J,i,x,hx,c,d,e⟩
  .exact⟨x,by rw[e];exact hx,b⟩
  .exact⟨hd,by rw[e];simp,rfl,rfl,by cases hd.x<;>rfl⟩
  refine⟨hd,?_,rfl,rfl,by rw[J];rfl⟩;rw[e];exact mZF.2 ⟨i,mZi (mQB.1 hx).1⟩
 rw[h]at a;cases a
theorem Lt(x:cg):eL x x=false:=by unfold eL;simp
theorem bXL(q:SC d)(o:∃w∈d.aq,w.s=hd.s)(W:List cg):SC ⟨d.az,d.aq,cV d.holds hd,W⟩:=by
 rcases IU (H:=d.holds) hd with⟨-,l⟩|⟨-,e⟩
 .rcases l with⟨e,-⟩|⟨V,e,hm⟩|⟨V,J,i,x,hx,t,u,e⟩
  .rw[e];exact⟨q.tw,q.jC,q.pH,q.log,q.VG,q.hu,q.hw,q.hc,q.lg⟩
  .rw[e];refine⟨q.tw,q.jC,q.pH,q.log,q.VG,?_,?_,?_,?_⟩
   .intro i j x y m f l k;have m:(d.holds++[hd])[i]? =some x:=m;have f:(d.holds++[hd])[j]? =some y:=f;rw[mZh]at m f;have no:∀z∈d.holds,z.s=hd.s->z.table=hd.table->False:=λz p a b=>by
     have:=hm z p;unfold jJ at this;simp[a,b]at this
    split at m
    .rename_i a1;split at f
     .exact q.hu i j x y m f l k
     rename_i a2;rw[mZu]at f;split at f
     .cases f;exact(no x (mQz m) l k).elim
     cases f
    rename_i a1;rw[mZu]at m;split at m
    .cases m;split at f
     .exact(no y (mQz f) l.symm k.symm).elim
     rename_i s a2;rw[mZu]at f;split at f
     .omega
     cases f
    cases m
   .intro x hx;rcases mQE.1 hx with hx|hx
    .exact q.hw x hx
    simp at hx;rw[hx];exact o
   .intro x hx y g;rcases mQE.1 hx with hx|hx
    .rcases mQE.1 g with g|g
     .exact q.hc x hx y g
     simp at g;rw[g,uY];exact V x hx
    simp at hx;rw[hx];rcases mQE.1 g with g|g
    .exact V y g
    simp at g;rw[g];exact Lt _
   intro w o c r;obtain⟨x,hx,h⟩:=q.lg w o c r;exact⟨x,mQE.2 (.inl hx),h⟩
  rw[e];have v:=(mQB.1 hx).1;refine⟨q.tw,q.jC,q.pH,q.log,q.VG,?_,?_,?_,?_⟩
  .have key:∀(a:Nat) (y:cg),(d.holds.set i hd)[a]? =some y->∃z:cg,d.holds[a]? =some z/\z.s=y.s/\z.table=y.table:=λa y n=>by
    rw[mXR]at n;split at n
    .rename_i h;subst h;try rw[if_pos v]at n
     cases n;exact⟨x,hx,t,u⟩
    exact⟨y,n,rfl,rfl⟩
   intro a b x y n E l k;obtain⟨F,a1,a2,A⟩:=key a x n;obtain⟨G,s,B,C⟩:=key b y E;exact q.hu a b F G a1 s (by rw[a2,B,l]) (by rw[A,C,k])
  .intro y g;rcases mXz g with h|h
   .exact q.hw y h
   rw[h];exact o
  .intro y g z p;rcases mXz g with h|h
   .rcases mXz p with k|k
    .exact q.hc y h z k
    rw[k,uY];exact V y h
   rw[h];rcases mXz p with k|k
   .exact V z k
   rw[k];exact Lt _
  intro w o c r;obtain⟨y,g,l,k,D⟩:=q.lg w o c r;obtain⟨j,f⟩:=mXh g;by_cases K:i=j
  .subst K;rw[hx]at f;cases f;exact⟨hd,mZF.2 ⟨i,mZi v⟩,by rw[<-t,l],by rw[<-u,k],J⟩
  exact⟨y,mZF.2 ⟨j,by rw[mJm K];exact f⟩,l,k,D⟩
 rw[e];exact⟨q.tw,q.jC,q.pH,q.log,q.VG,q.hu,q.hw,q.hc,q.lg⟩
theorem Ix{d:List fJ}(i:d.Pairwise (λa b=>a.s<b.s))(r:∀w∈d,0<=w.s/\w.s<8)(x:-2^63<=s/\s<2^63)(w:fJ):w∈zS d s↔w∈d/\w.s≠s:=by
 unfold zS;cases f:jG (bQ d s)with
 |true=>
  rw[if_pos rfl];obtain⟨w0,E,g⟩:=yD r x f;have u:=uq i E;constructor
  .intro h;obtain⟨j,c,X⟩:=mKp.1 h;refine⟨mQz X,λe=>c (u j w X (by rw[e,g]))⟩
  rintro⟨h,k⟩;obtain⟨j,c⟩:=mXh h;refine mKp.2 ⟨j,λe=>?_,c⟩;subst e;rw[E]at c;cases c;exact k g
 |false=>
  rw[if_neg (by simp)];constructor
  .intro h;refine⟨h,λe=>?_⟩;have:=(lR i r x).2 ⟨w,h,e⟩;rw[f]at this;cases this
  exact λh=>h.1
theorem Bv:x∈bX H s↔x∈H/\x.s≠s:=by unfold bX;simp[mXQ]
theorem bJl(h:HU H)(s:Int):HU (bX H s):=by
 have key:∀ {L:List cg},HU L->∀ {p:cg->Bool},HU (L.filter p):=by
  intro L;induction L with
  |nil=>intro _ p;simp[HU]
  |cons a r m=>
   intro g p;have l:HU r:=λi j x y e b c d=>by
    have:=g (i+1) (j+1) x y (by simpa using e) (by simpa using b) c d;omega
   have f:∀y∈r,a.s=y.s->a.table=y.table->False:=λy n c d=>by
    obtain⟨j,b⟩:=mXh n;have:=g 0 (j+1) a y rfl (by simpa using b) c d;omega
   by_cases k:p a=true
   .rw[mZo k];intro i j x y e b c d;cases i with
    |zero=>
     simp at e;subst e;cases j with
     |zero=>rfl
     |succ j=>simp at b;exact(f y (mXQ.1 (mQz b)).1 c d).elim
    |succ i=>
     simp at e;cases j with
     |zero=>simp at b;subst b;exact(f x (mXQ.1 (mQz e)).1 c.symm d.symm).elim
     |succ j=>simp at b;have:=m l (p:=p) i j x y e b c d;omega
   rw[mZb k];exact m l
 exact key h
theorem bQD(q:SC d)(l:-2^63<=s/\s<2^63){T:List cW}(i:TW T)(S:T.map (·.S)=d.az.map (·.S))(W:List cg):SC ⟨T,zS d.aq s,bX d.holds s,W⟩:=by
 have m:=Ix q.jC q.pH l;refine⟨i,q.jC.sublist (rV _ _),λw h=>q.pH w ((m w).1 h).1,λw h=>?_,λw h=>q.VG w ((m w).1 h).1,bJl q.hu s,λx hx=>?_,λx hx y k=>q.hc x (Bv.1 hx).1 y (Bv.1 k).1,λw h c j=>?_⟩
 .obtain⟨a,b⟩:=q.log w ((m w).1 h).1;exact⟨λx hx=>(a x hx).map S,b⟩
 .obtain⟨a,b⟩:=Bv.1 hx;obtain⟨w,h,e⟩:=q.hw x a;exact⟨w,(m w).2 ⟨h,by rw[e];exact b⟩,e⟩
 obtain⟨a,b⟩:=(m w).1 h;obtain⟨x,hx,g,f⟩:=q.lg w a c j;exact⟨x,Bv.2 ⟨hx,by rw[g];exact b⟩,g,f⟩
theorem bXA(q:SC d)(s:Int):TW (tH d.az d.aq s):=by
 unfold tH;split
 .split
  .rename_i w h;exact BA q.tw (q.log w (mQz h)).1
  exact q.tw
 exact q.tw
theorem Gq(q:SC d)(j:-2^63<=s/\s<2^63):SC (kh d s):=bQD q j (bXA q s) (Nw _ _ _) _
theorem Wh(hd:cg)(s:0<=hd.s/\hd.s<8):∀(f:Nat) (d:DB),SC d->(∃w∈d.aq,w.s=hd.s)->SC (jK f d hd).1/\((jK f d hd).2=0->∃x∈(jK f d hd).1.holds,x.s=hd.s/\x.table=hd.table/\(x.x|| !hd.x)=true)
 |0,d,q,e=>⟨q,λh=>by cases h⟩
 |f+1,d,q,e=>by
  have a:=bXL q e (df d.holds d.waits hd);unfold jK;by_cases m:bP d.holds hd=true
  .rw[if_pos m];exact⟨a,λ_=>cZy hd m⟩
  rw[if_neg m];by_cases v:(dG (da (cV d.holds hd) (df d.holds d.waits hd)) hd.s).2=true
  .rw[if_pos v];have b:-2^63<=(dG (da (cV d.holds hd) (df d.holds d.waits hd)) hd.s).1/\(dG (da (cV d.holds hd) (df d.holds d.waits hd)) hd.s).1<2^63:=by
    have:=rA (da (cV d.holds hd) (df d.holds d.waits hd)) hd.s;rcases this.out with⟨j,-⟩|⟨-,k,l,g,-⟩
    .rw[v]at j;cases j
    rcases g with g| ⟨g,-⟩
    .rw[g];omega
    obtain⟨x,hx,i⟩:=vP (yK g);obtain⟨w,e,E⟩:=a.hw x hx;have:=a.pH w e;omega
   by_cases c:(dG (da (cV d.holds hd) (df d.holds d.waits hd)) hd.s).1=hd.s
   .rw[if_pos (mQu c)];exact⟨Gq a b,λh=>by cases h⟩
   rw[if_neg (by simpa using c)];refine Wh hd s f _ (Gq a b) ?_;obtain⟨w,e,i⟩:=e;exact⟨w,(Ix a.jC a.pH b w).2 ⟨e,by rw[i];exact λh=>c h.symm⟩,i⟩
  rw[if_neg v];exact⟨a,λh=>by cases h⟩
theorem PU(q:SC d)(hd:cg)(s:-2^63<=hd.s/\hd.s<2^63):SC (aL d hd).1/\((aL d hd).2=0->∃x∈(aL d hd).1.holds,x.s=hd.s/\x.table=hd.table/\(x.x|| !hd.x)=true):=by
 unfold aL;by_cases y:Hw d hd=true
 .rw[if_pos y];unfold Hw at y;rw[mQQ]at y;obtain⟨w,a,e⟩:=(lR q.jC q.pH s).1 y.1;have:=q.pH w a;exact Wh hd (by omega) _ d q ⟨w,a,e⟩
 rw[if_neg y];exact⟨q,λh=>by cases h⟩
structure G4 where
 b1:Option Addr
 n1:Nat
 c1:Nat
 b2:Option Addr
 n2:Nat
 c2:Nat
 b3:Option Addr
 n3:Nat
 c3:Nat
 b4:Option Addr
 n4:Nat
 c4:Nat
structure eJl(n:Nat)(hd:cg)(D:DB×Int)(m f:Nat)(d0:DB):Prop where
 sc:SC d0
 hb:d0.holds.length<=n
 wb:(bX d0.waits hd.s).length<=n
 wc:d0.waits.length<=n+1
 wk:∃w∈d0.aq,w.s=hd.s
 eq:jK f d0 hd=D
 fl:d0.holds.length<f
 ms:m=d0.holds.length
structure Dv(n:Nat)(hd:cg)(d1:DB)(i:Nat)(w:fJ)(j:Nat)(t:cW):Prop where
 sc:SC d1
 ok:ue (n+1) d1
 wi:d1.aq[i]? =some w
 ws:w.s=hd.s
 bi:di (bQ d1.aq hd.s)=i
 tj:d1.az[j]? =some t
 tn:t.S.name=hd.table
 bj:di (aQ d1.az hd.table)=j
 hl:∃x∈d1.holds,x.s=hd.s/\x.table=hd.table/\(x.x|| !hd.x)=true
theorem nQ(C:SC d)(O:ue n d)(s:-2^63<=hd.s/\hd.s<2^63){a:DB}(h:aL d hd=(a,0)):∃i w j t,Dv n hd a i w j t:=by
 obtain⟨c,e⟩:=PU C hd s;have b:=HW O s (by rw[h]);have f:=(xZ O hd s).ok;rw[h]at c e b f;obtain⟨w,p,m⟩:=yD c.pH s b.2;have P:=lr b.1;obtain⟨t,l⟩:=aE (xs:=a.az) (i:=di (aQ a.az hd.table)) (by simpa[aQ]using P);have o:t.S.name=hd.table:=by
  have g:=b.1;unfold jG at g;obtain⟨-,k⟩:=mQL g;have:(aQ a.az hd.table).getD (di (aQ a.az hd.table)) 0=eC t.S.name hd.table:=by
   conv=>lhs;unfold aQ
   rw[mXE,mXe];rw[show a.az.map (λx=>eC x.S.name hd.table)=aQ a.az hd.table from rfl,l];rfl
  rw[this]at k;exact zI k
 exact⟨_,w,_,t,⟨c,f,p,m,rfl,l,o,rfl,e rfl⟩⟩
theorem yz{t:cW}(h:aL d hd=(b,0))(g:Dv n hd b i w j t)(a:cW->cW×dV×Int):
 dM d hd a=if decide ((a t).2.2≠19)&&decide ((w.log.length:Int)>=60)then(b,4)else if decide ((a t).2.2=0)=true then
  (⟨b.az.set j (a t).1,b.aq.set i ⟨w.s,w.log++[⟨hd.table,(a t).2.1.op,(a t).2.1.row⟩],w.marks⟩,b.holds,b.waits⟩,0)else(b,(a t).2.2):=by
 unfold dM;rw[h];simp only[ne_eq,not_true_eq_false,decide_false,mZe,if_false];rw[g.bj,g.bi,g.tj,g.wi]
theorem oe{e:Int}(h:aL d hd=(b,e))(c:e≠0)(a:cW->cW×dV×Int):dM d hd a=(b,e):=by unfold dM;rw[h,if_pos (mQu c)]
theorem aXo{S:FR}(d:S.cols=bp)(c:S.key=0){R:List Row}(h:SO R)(b:fK r\/r.length≠2):(bK ⟨S,R⟩ r).2≠19/\((bK ⟨S,R⟩ r).2=0->fK r):=by
 rcases b with b|b
 .refine⟨?_,λ_=>b⟩;have f:=b.fits;have u:=b;obtain⟨a,v,rfl,-⟩:=u;obtain⟨p,q⟩:=h.sr.at_ a;rw[mJ (S:=S) c h.sr (by rw[d];exact f) q];split
  .simp
  split
  .simp
  simp
 have f:dg S.cols r=1:=by
  unfold dg;have c:S.cols.length=2:=by rw[d];rfl
  rw[if_pos (mQu (by rw[c];omega))]
 unfold bK;simp only;rw[f];exact⟨by simp,by simp⟩
theorem Ki{t:cW}(h:aL d hd=(b,0))(g:Dv n hd b i w j t)(q:fK r\/r.length≠2)(a:dM d hd (dK r)=D):
 ((w.log.length:Int)>=60->D=(b,4))/\(¬(w.log.length:Int)>=60->∀T:cW×Int,bK t r=T->(T.2≠0->D=(b,T.2))/\(T.2=0->fK r/\D=(⟨b.az.set j T.1,b.aq.set i ⟨w.s,w.log++[⟨hd.table,1,r⟩],w.marks⟩,b.holds,b.waits⟩,0))):=by
 rw[yz h g]at a;obtain⟨f,k,m,-⟩:=g.sc.tw.ok t (mQz g.tj);obtain⟨S,R⟩:=t;obtain⟨o,p⟩:=aXo f k m q;have a1:(dK r ⟨S,R⟩).2.2=(bK ⟨S,R⟩ r).2:=rfl;have a2:(dK r ⟨S,R⟩).1=(bK ⟨S,R⟩ r).1:=rfl;rw[a1,a2]at a;rw[mQu o,mZR]at a;refine⟨λl=>?_,λl T e=>⟨λc=>?_,λc=>?_⟩⟩
 .rw[if_pos (mQu l)]at a;exact a.symm
 .rw[if_neg (by simpa using l),e,if_neg (by simpa using c)]at a;exact a.symm
 rw[if_neg (by simpa using l),e,if_pos (by simpa using c)]at a;rw[<-a];exact⟨p (by rw[e];exact c),rfl⟩
theorem GI{c:DB}{t:cW}(h:aL d hd=(c,0))(g:Dv n hd c i w j t){a:Int}(b:dM d hd (dR ⟨2,a,fQ⟩)=D):
 (t.S.only=true->D=(c,19))/\(t.S.only=false->((w.log.length:Int)>=60->D=(c,4))/\(¬(w.log.length:Int)>=60->∀T:cW×Row×Int,bH t ⟨2,a,fQ⟩=T->(T.2.2≠0->D=(c,T.2.2))/\(T.2.2=0->fK T.2.1/\D=(⟨c.az.set j T.1,c.aq.set i ⟨w.s,w.log++[⟨hd.table,2,T.2.1⟩],w.marks⟩,c.holds,c.waits⟩,0)))):=by
 rw[yz h g]at b;obtain⟨A,x,r,-⟩:=g.sc.tw.ok t (mQz g.tj);obtain⟨S,R⟩:=t;refine⟨λo=>?_,λo=>?_⟩
 .have o:S.only=true:=o;have e:dR ⟨2,a,fQ⟩ ⟨S,R⟩=(⟨S,R⟩,⟨jb,0,[]⟩,19):=by unfold dR;rw[if_pos o]
  rw[e]at b;exact b.symm
 have o:S.only=false:=o;have e:dR ⟨2,a,fQ⟩ ⟨S,R⟩=((bH ⟨S,R⟩ ⟨2,a,fQ⟩).1,⟨jb,2,(bH ⟨S,R⟩ ⟨2,a,fQ⟩).2.1⟩,(bH ⟨S,R⟩ ⟨2,a,fQ⟩).2.2):=by unfold dR;rw[if_neg (by simp[o])]
 rw[e]at b;obtain⟨p,q⟩:=r.sr.at_ a;have z:=km (S:=S) x r.sr q;have s:(bH ⟨S,R⟩ ⟨2,a,fQ⟩).2.2≠19/\((bH ⟨S,R⟩ ⟨2,a,fQ⟩).2.2=0->fK (bH ⟨S,R⟩ ⟨2,a,fQ⟩).2.1):=by
  rw[z];by_cases k:kJ R a p=true
  .rw[if_pos k];refine⟨by simp,λ_=>?_⟩;show fK ((R[p]?).getD []);unfold kJ at k;cases v:R[p]? with
   |none=>rw[v]at k;cases k
   |some u=>exact r.ok u (mQz v)
  rw[if_neg k];exact⟨by simp,by simp⟩
 obtain⟨s,y⟩:=s;simp only at b;rw[mQu s,mZR]at b;refine⟨λl=>?_,λl T f=>⟨λm=>?_,λm=>?_⟩⟩
 .rw[if_pos (mQu l)]at b;exact b.symm
 .rw[if_neg (by simpa using l),f,if_neg (by simpa using m)]at b;exact b.symm
 rw[if_neg (by simpa using l),f,if_pos (by simpa using m)]at b;rw[<-b];refine⟨?_,rfl⟩;rw[<-f];exact y (by rw[f];exact m)
end Go.S
