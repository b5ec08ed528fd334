import Derived.Test.YthnbpiejemlbeaaGreatMA
set_option linter.all false
set_option maxRecDepth 100000
set_option maxHeartbeats 8000000
namespace Go.S
open Go.Sx Go.Proofs
variable {a d:DB}{D:DB×Int}{s:Int}{H:List bU}{f i j n:Nat}{r:Row}{k:Value->ad->Prop}{h:ad}{hd:bU}{w:eY}
structure SC(d:DB):Prop where
 tw:TW d.ao
 gL:d.ai.Pairwise (λa b=>a.s<b.s)
 ov:∀w∈d.ai,0<=w.s/\w.s<8
 log:∀w∈d.ai,(∀x∈w.log,Bp d.ao x)/\w.log.length<=60
 Oa:eJU d
 hu:HU d.holds
 hw:∀x∈d.holds,∃w∈d.ai,w.s=x.s
 hc:∀x∈d.holds,∀y∈d.holds,eo x y=false
 lg:∀w∈d.ai,∀c∈w.log,∃x∈d.holds,x.s=w.s/\x.table=c.table/\x.x=true
theorem SC.si(q:SC d)(o:sa n d)(h:n<=2^17):SI d:=⟨q.tw,q.gL,q.ov,q.log,jKl o.holds h,jKl o.waits h⟩
theorem Xr:(nD H hd=none/\∀x∈H,ja hd x=false)\/∃i x,nD H hd=some i/\H[i]? =some x/\ja hd x=true:=by
 cases h:nD H hd with
 |none=>left;refine⟨rfl,?_⟩;unfold nD at h;exact kQV.1 h
 |some i=>right;unfold nD at h;obtain⟨a,b,-⟩:=kQU.1 h;exact⟨i,_,rfl,zG a,b⟩
theorem Xs{x:bU}(h:ja hd x=true):x.s=hd.s/\x.table=hd.table:=by unfold ja at h;simpa using h
theorem Gr(hd:bU):
 (bP H hd=true/\((cS H hd=H/\∃x∈H,x.s=hd.s/\x.table=hd.table/\(x.x|| !hd.x)=true)\/((∀y∈H,eo hd y=false)/\cS H hd=H++[hd]/\∀x∈H,ja hd x=false)\/
  ((∀y∈H,eo hd y=false)/\hd.x=true/\∃i x,H[i]? =some x/\x.s=hd.s/\x.table=hd.table/\cS H hd=H.set i hd)))\/(bP H hd=false/\cS H hd=H):=by
 have r:H.any (eo hd)=false->∀y∈H,eo hd y=false:=λh y j=>by
  have:=kQY.1 h y j;simpa using this
 have q:bP H hd=false->cS H hd=H:=λh=>by unfold cS;rw[h];rfl
 rcases Xr (H:=H) (hd:=hd)with⟨hm,M⟩|⟨i,x,hm,hx,p⟩
 .obtain⟨d,f,c⟩:=MN (W:=[]) hm;cases a:H.any (eo hd)with
  |false=>left;exact⟨by rw[d,a];rfl,.inr (.inl ⟨r a,f a,M⟩)⟩
  |true=>
   right;have:bP H hd=false:=by rw[d,a];rfl
   exact⟨this,q this⟩
 obtain⟨e1,e⟩:=Xs p;obtain⟨d,f⟩:=MM (W:=[]) hm hx p;cases A:(x.x|| !hd.x)with
 |true=>left;obtain⟨c,g⟩:=d A;exact⟨c,.inl ⟨g,x,cK hx,e1,e,A⟩⟩
 |false=>
  obtain⟨c,g,k⟩:=f A;cases a:H.any (eo hd)with
  |false=>
   left;refine⟨by rw[c,a];rfl,.inr (.inr ⟨r a,?_,i,x,hx,e1,e,?_⟩)⟩
   .cases b:hd.x with
    |true=>rfl
    |false=>rw[b]at A;simp at A
   rw[g a];have b:hd.x=true:=by
    cases b:hd.x with
    |true=>rfl
    |false=>rw[b]at A;simp at A
   congr 1;cases hd;simp only at e1 e b;rw[e1,e,b]
  |true=>
   right;have:bP H hd=false:=by rw[c,a];rfl
   exact⟨this,q this⟩
theorem aKz(hd:bU)(h:bP H hd=true):∃x∈cS H hd,x.s=hd.s/\x.table=hd.table/\(x.x|| !hd.x)=true:=by
 rcases Gr (H:=H) hd with⟨-,a⟩|⟨a,-⟩
 .rcases a with⟨e,x,hx,b⟩|⟨-,e,-⟩|⟨-,A,i,x,hx,e1,c,e⟩
  .exact⟨x,by rw[e];exact hx,b⟩
  .exact⟨hd,by rw[e];simp,rfl,rfl,by cases hd.x<;>rfl⟩
  refine⟨hd,?_,rfl,rfl,by rw[A];rfl⟩;rw[e];exact jKA.2 ⟨i,jKx (ff.1 hx).1⟩
 rw[h]at a;cases a
theorem IA(x:bU):eo x x=false:=by unfold eo;simp
theorem ZO(q:SC d)(o:∃w∈d.ai,w.s=hd.s)(W:List bU):SC ⟨d.ao,d.ai,cS d.holds hd,W⟩:=by
 rcases Gr (H:=d.holds) hd with⟨-,l⟩|⟨-,e⟩
 .rcases l with⟨e,-⟩|⟨M,e,hm⟩|⟨M,A,i,x,hx,e1,t,e⟩
  .rw[e];exact⟨q.tw,q.gL,q.ov,q.log,q.Oa,q.hu,q.hw,q.hc,q.lg⟩
  .rw[e];refine⟨q.tw,q.gL,q.ov,q.log,q.Oa,?_,?_,?_,?_⟩
   .intro i j x y m f l k;have m:(d.holds++[hd])[i]? =some x:=m;have f:(d.holds++[hd])[j]? =some y:=f;rw[jKO]at m f;have u:∀z∈d.holds,z.s=hd.s->z.table=hd.table->False:=λz p a b=>by
     have:=hm z p;unfold ja at this;simp[a,b]at this
    split at m
    .rename_i a1;split at f
     .exact q.hu i j x y m f l k
     rename_i a2;rw[jKD]at f;split at f
     .cases f;exact(u x (cK m) l k).elim
     cases f
    rename_i a1;rw[jKD]at m;split at m
    .cases m;split at f
     .exact(u y (cK f) l.symm k.symm).elim
     rename_i s a2;rw[jKD]at f;split at f
     .omega
     cases f
    cases m
   .intro x hx;rcases wy.1 hx with hx|hx
    .exact q.hw x hx
    simp at hx;rw[hx];exact o
   .intro x hx y g;rcases wy.1 hx with hx|hx
    .rcases wy.1 g with g|g
     .exact q.hc x hx y g
     simp at g;rw[g,sW];exact M x hx
    simp at hx;rw[hx];rcases wy.1 g with g|g
    .exact M y g
    simp at g;rw[g];exact IA _
   intro w o c r;obtain⟨x,hx,h⟩:=q.lg w o c r;exact⟨x,wy.2 (.inl hx),h⟩
  rw[e];have v:=(ff.1 hx).1;refine⟨q.tw,q.gL,q.ov,q.log,q.Oa,?_,?_,?_,?_⟩
  .have key:∀(a:Nat) (y:bU),(d.holds.set i hd)[a]? =some y->∃z:bU,d.holds[a]? =some z/\z.s=y.s/\z.table=y.table:=λa y n=>by
    rw[VS]at n;split at n
    .rename_i h;subst h;try rw[if_pos v]at n
     cases n;exact⟨x,hx,e1,t⟩
    exact⟨y,n,rfl,rfl⟩
   intro a b x y n F l k;obtain⟨G,a1,a2,B⟩:=key a x n;obtain⟨I,s,C,D⟩:=key b y F;exact q.hu a b G I a1 s (by rw[a2,C,l]) (by rw[B,D,k])
  .intro y g;rcases jKs g with h|h
   .exact q.hw y h
   rw[h];exact o
  .intro y g z p;rcases jKs g with h|h
   .rcases jKs p with k|k
    .exact q.hc y h z k
    rw[k,sW];exact M y h
   rw[h];rcases jKs p with k|k
   .exact M z k
   rw[k];exact IA _
  intro w o c r;obtain⟨y,g,l,k,E⟩:=q.lg w o c r;obtain⟨j,f⟩:=rK g;by_cases X:i=j
  .subst X;rw[hx]at f;cases f;exact⟨hd,jKA.2 ⟨i,jKx v⟩,by rw[<-e1,l],by rw[<-t,k],A⟩
  exact⟨y,jKA.2 ⟨j,by rw[kQK X];exact f⟩,l,k,E⟩
 rw[e];exact⟨q.tw,q.gL,q.ov,q.log,q.Oa,q.hu,q.hw,q.hc,q.lg⟩
theorem FY{d:List eY}(i:d.Pairwise (λa b=>a.s<b.s))(r:∀w∈d,0<=w.s/\w.s<8)(G:-2^63<=s/\s<2^63)(w:eY):w∈xW d s↔w∈d/\w.s≠s:=by
 unfold xW;cases f:iQ (bW d s)with
 |true=>
  rw[if_pos rfl];obtain⟨w0,L,g⟩:=wQ r G f;have u:=sk i L;constructor
  .intro h;obtain⟨j,c,X⟩:=kXu.1 h;refine⟨cK X,λe=>c (u j w X (by rw[e,g]))⟩
  rintro⟨h,S⟩;obtain⟨j,c⟩:=rK h;refine kXu.2 ⟨j,λe=>?_,c⟩;subst e;rw[L]at c;cases c;exact S g
 |false=>
  rw[if_neg (by simp)];constructor
  .intro h;refine⟨h,λe=>?_⟩;have:=(lF i r G).2 ⟨w,h,e⟩;rw[f]at this;cases this
  exact λh=>h.1
theorem zW{x:bU}:x∈bR H s↔x∈H/\x.s≠s:=by unfold bR;simp[jKn]
theorem aXg(h:HU H)(s:Int):HU (bR H s):=by
 have key:∀ {L:List bU},HU L->∀ {p:bU->Bool},HU (L.filter p):=by
  intro L;induction L with
  |nil=>intro _ p;simp[HU]
  |cons a r l=>
   intro f p;have k:HU r:=λi j x y e b c d=>by
    have:=f (i+1) (j+1) x y (by simpa using e) (by simpa using b) c d;omega
   have S:∀y∈r,a.s=y.s->a.table=y.table->False:=λy m c d=>by
    obtain⟨j,b⟩:=rK m;have:=f 0 (j+1) a y rfl (by simpa using b) c d;omega
   by_cases g:p a=true
   .rw[jKV g];intro i j x y e b c d;cases i with
    |zero=>
     simp at e;subst e;cases j with
     |zero=>rfl
     |succ j=>simp at b;exact(S y (jKn.1 (cK b)).1 c d).elim
    |succ i=>
     simp at e;cases j with
     |zero=>simp at b;subst b;exact(S x (jKn.1 (cK e)).1 c.symm d.symm).elim
     |succ j=>simp at b;have:=l k (p:=p) i j x y e b c d;omega
   rw[jKB g];exact l k
 exact key h
theorem YY(q:SC d)(G:-2^63<=s/\s<2^63){T:List ca}(i:TW T)(S:T.map (·.S)=d.ao.map (·.S))(W:List bU):SC ⟨T,xW d.ai s,bR d.holds s,W⟩:=by
 have m:=FY q.gL q.ov G;refine⟨i,q.gL.sublist (sV _ _),λw h=>q.ov w ((m w).1 h).1,λw h=>?_,λw h=>q.Oa w ((m w).1 h).1,aXg q.hu s,λx hx=>?_,λx hx y k=>q.hc x (zW.1 hx).1 y (zW.1 k).1,λw h c j=>?_⟩
 .obtain⟨a,b⟩:=q.log w ((m w).1 h).1;exact⟨λx hx=>(a x hx).map S,b⟩
 .obtain⟨a,b⟩:=zW.1 hx;obtain⟨w,h,e⟩:=q.hw x a;exact⟨w,(m w).2 ⟨h,by rw[e];exact b⟩,e⟩
 obtain⟨a,b⟩:=(m w).1 h;obtain⟨x,hx,g,f⟩:=q.lg w a c j;exact⟨x,zW.2 ⟨hx,by rw[g];exact b⟩,g,f⟩
theorem ZJ(q:SC d)(s:Int):TW (uI d.ao d.ai s):=by
 unfold uI;split
 .split
  .rename_i w h;exact zY q.tw (q.log w (cK h)).1
  exact q.tw
 exact q.tw
theorem Eb(q:SC d)(G:-2^63<=s/\s<2^63):SC (jE d s):=YY q G (ZJ q s) (Ec _ _ _) _
theorem QE(hd:bU)(s:0<=hd.s/\hd.s<8):∀(f:Nat) (d:DB),SC d->(∃w∈d.ai,w.s=hd.s)->SC (mR f d hd).1/\((mR f d hd).2=0->∃x∈(mR f d hd).1.holds,x.s=hd.s/\x.table=hd.table/\(x.x|| !hd.x)=true)
 |0,d,q,b=>⟨q,λh=>by cases h⟩
 |f+1,d,q,b=>by
  have a:=ZO q b (cY d.holds d.waits hd);unfold mR;by_cases u:bP d.holds hd=true
  .rw[if_pos u];exact⟨a,λ_=>aKz hd u⟩
  rw[if_neg u];by_cases v:(dx (cQ (cS d.holds hd) (cY d.holds d.waits hd)) hd.s).2=true
  .rw[if_pos v];have X:-2^63<=(dx (cQ (cS d.holds hd) (cY d.holds d.waits hd)) hd.s).1/\(dx (cQ (cS d.holds hd) (cY d.holds d.waits hd)) hd.s).1<2^63:=by
    have:=pJ (cQ (cS d.holds hd) (cY d.holds d.waits hd)) hd.s;rcases this.out with⟨g,-⟩|⟨-,i,j,c,-⟩
    .rw[v]at g;cases g
    rcases c with c| ⟨c,-⟩
    .rw[c];omega
    obtain⟨x,hx,e⟩:=ua (xh c);obtain⟨w,b,r⟩:=a.hw x hx;have:=a.ov w b;omega
   by_cases Z:(dx (cQ (cS d.holds hd) (cY d.holds d.waits hd)) hd.s).1=hd.s
   .rw[if_pos (ak Z)];exact⟨Eb a X,λh=>by cases h⟩
   rw[if_neg (by simpa using Z)];refine QE hd s f _ (Eb a X) ?_;obtain⟨w,b,e⟩:=b;exact⟨w,(FY a.gL a.ov X w).2 ⟨b,by rw[e];exact λh=>Z h.symm⟩,e⟩
  rw[if_neg v];exact⟨a,λh=>by cases h⟩
theorem LQ(q:SC d)(hd:bU)(s:-2^63<=hd.s/\hd.s<2^63):SC (cA d hd).1/\((cA d hd).2=0->∃x∈(cA d hd).1.holds,x.s=hd.s/\x.table=hd.table/\(x.x|| !hd.x)=true):=by
 unfold cA;by_cases A:GJ d hd=true
 .rw[if_pos A];unfold GJ at A;rw[ya]at A;obtain⟨w,a,e⟩:=(lF q.gL q.ov s).1 A.1;have:=q.ov w a;exact QE hd (by omega) _ d q ⟨w,a,e⟩
 rw[if_neg A];exact⟨q,λh=>by cases h⟩
structure G4 where
 b1:Option Addr
 n1:Nat
 c1:Nat
 b2:Option Addr
 n2:Nat
 c2:Nat
 b3:Option Addr
 n3:Nat
 c3:Nat
 b4:Option Addr
 n4:Nat
 c4:Nat
structure cKx(n:Nat)(hd:bU)(D:DB×Int)(m f:Nat)(d0:DB):Prop where
 sc:SC d0
 hb:d0.holds.length<=n
 wb:(bR d0.waits hd.s).length<=n
 wc:d0.waits.length<=n+1
 wk:∃w∈d0.ai,w.s=hd.s
 eq:mR f d0 hd=D
 fl:d0.holds.length<f
 ms:m=d0.holds.length
theorem Lf(q:SC d){v:Int}(a:∃w∈d.ai,w.s=v):cN d v=(jE d v,0)/\-2^63<=v/\v<2^63:=by obtain⟨w,h,rfl⟩:=a;have r:=q.ov w h;have:=(lF q.gL q.ov (s:=w.s) (by omega)).2 ⟨w,h,rfl⟩;exact⟨by unfold cN;rw[if_pos this],by omega,by omega⟩
theorem OG{m:Nat}(q:cKx n hd D m f d)(E:n<=2^16):
 ∃a:DB,a=⟨d.ao,d.ai,cS d.holds hd,cY d.holds d.waits hd⟩/\SC a/\SI a/\a.holds.length<=2^17/\a.waits.length<=2^17/\(bP d.holds hd=true->D=(a,0))/\
  (bP d.holds hd=false->((dx (cQ a.holds a.waits) hd.s).2=false->D=(a,16))/\((dx (cQ a.holds a.waits) hd.s).2=true->∀v,v=(dx (cQ a.holds a.waits) hd.s).1->cN a v=(jE a v,0)/\-2^63<=v/\v<2^63/\
   (v=hd.s->D=(jE a v,17))/\(v≠hd.s->∃m' c,m'<m/\cKx n hd D m' c (jE a v)))):=by
 refine⟨_,rfl,?_⟩;have F:=Be (H:=d.holds) (hd:=hd);have G:=CB (H:=d.holds) (W:=d.waits) (hd:=hd);have I:=BB (H:=d.holds) (W:=d.waits) (hd:=hd);have K:=q.hb;have L:=q.wb;have M:=q.wc;have b:=ZO q.sc q.wk (cY d.holds d.waits hd);have J:(cS d.holds hd).length<=2^17:=by omega
 have j:(cY d.holds d.waits hd).length<=2^17:=by omega
 refine⟨b,⟨b.tw,b.gL,b.ov,b.log,J,j⟩,J,j,?_,?_⟩
 .intro o;have e:=q.eq;have:=q.fl;obtain⟨c,rfl⟩:∃c,f=c+1:=⟨f-1,by omega⟩;unfold mR at e;rw[if_pos o]at e;exact e.symm
 intro o;have B:¬bP d.holds hd=true:=by rw[o];simp
 have l:cS d.holds hd=d.holds:=by unfold cS;rw[if_neg B]
 have e:=q.eq;have N:=q.fl;obtain⟨c,rfl⟩:∃c,f=c+1:=⟨f-1,by omega⟩;unfold mR at e;rw[if_neg B]at e;refine⟨λg=>?_,λg v X=>?_⟩
 .have g:(dx (cQ (cS d.holds hd) (cY d.holds d.waits hd)) hd.s).2=false:=g;rw[if_neg (by rw[g];simp)]at e;exact e.symm
 have g:(dx (cQ (cS d.holds hd) (cY d.holds d.waits hd)) hd.s).2=true:=g;have X:v=(dx (cQ (cS d.holds hd) (cY d.holds d.waits hd)) hd.s).1:=X;rw[if_pos g,<-X]at e;have r:∃w∈d.ai,w.s=v:=by
  have:=pJ (cQ (cS d.holds hd) (cY d.holds d.waits hd)) hd.s;rw[<-X]at this;rcases this.out with⟨u,-⟩|⟨-,A,C,i,-⟩
  .rw[g]at u;cases u
  rcases i with i| ⟨i,-⟩
  .rw[i];exact q.wk
  obtain⟨x,hx,k⟩:=ua (xh i);obtain⟨w,p,z⟩:=b.hw x hx;exact⟨w,p,z.trans k⟩
 obtain⟨y,s,t⟩:=Lf b r;refine⟨y,s,t,λh=>?_,λh=>?_⟩
 .rw[if_pos (ak h)]at e;exact e.symm
 rw[if_neg (by simpa using h)]at e;have U:=vf g;rw[<-X]at U;refine⟨(bR (cS d.holds hd) v).length,c,?_,Eb b ⟨s,t⟩,?_,?_,?_,?_,e,?_,rfl⟩
 .have:=q.ms;rw[l]at U |-;omega
 .show(bR (cS d.holds hd) v).length<=n;rw[l]at U |-;omega
 .show(bR (bR (cY d.holds d.waits hd) v) hd.s).length<=n;rw[BA];have:=gK (bR (cY d.holds d.waits hd) hd.s) v;omega
 .show(bR (cY d.holds d.waits hd) v).length<=n+1;have:=gK (cY d.holds d.waits hd) v;omega
 .obtain⟨w,p,k⟩:=q.wk;exact⟨w,(FY b.gL b.ov ⟨s,t⟩ w).2 ⟨p,by rw[k];exact λe=>h e.symm⟩,k⟩
 show(bR (cS d.holds hd) v).length<c;rw[l]at U |-;omega
theorem Jr{j l C E:Option Addr}{r o y p J F K H:Nat}(q:RP h j r o l y p C J F E K H d)(hC:SC d)(hO:sa n d)(hn:n<=2^16)(hd:bU)(hs:-2^63<=hd.s/\hd.s<2^63)(hD:cA d hd=D)(hk:RK h D.1 D.2 k):
 Ct 152 [.agg #[.slice j r o,.slice l y p,.slice C J F,.slice E K H],.int .i64 hd.s,.string hd.table,.bool hd.x] h k:=by
 obtain⟨A,hA⟩:=Ar.ex;obtain⟨s,t,x⟩:=hd;have hs:-2^63<=s/\s<2^63:=hs;have N:SI d:=hC.si hO (by omega);have uC:=lW N.gL N.ov;have Qv:A .aN .lss (-1) 0=true:=by rw[aR A];rfl
 have P:GJ d ⟨s,t,x⟩=false->D=(d,2):=λh=>by rw[<-hD];unfold cA;rw[h];rfl
 have iP:GJ d ⟨s,t,x⟩=true->mR (d.holds.length+1) d ⟨s,t,x⟩=D:=λh=>by rw[<-hD];unfold cA;rw[if_pos h]
 have AL:GJ d ⟨s,t,x⟩=(iQ (bW d.ai s)&&iQ (aS d.ao t)):=rfl;clear hD;refine fz eZW A Tryz.func152 ?_;cbv;refine yi q s (λz jb=>?_);rcases oq N hs jb with⟨rfl,hb⟩|⟨i,w,hz,hw,vT,e1,e2⟩
 .have Q:=P (by rw[AL,hb];rfl);subst Q;have L:=hk h j r o l y p C J F E K H (Le.refl _) q;cbv;rw[Qv];cbv;exact L
 have aU:A .aN .lss z 0=false:=hz.yW (A:=A);cbv;rw[aU];cbv;refine(wz q).mono (λv h1 hR=>?_);obtain⟨l1,z2,rfl,wh⟩:=hR;have q1:=q.mono l1;rcases tG N.tw.gL wh with⟨rfl,hb,-⟩|⟨i2,tt,lN,ht,qE,g1,g2⟩
 .have Q:=P (by rw[AL,hb,Bool.and_false]);subst Q;have L:=hk h1 j r o l y p C J F E K H l1 q1;cbv;rw[Qv];cbv;exact L
 have tY:A .aN .lss z2 0=false:=lN.yW (A:=A);have Q:=iP (by rw[AL,e2,g2];rfl);have ag:cKx n ⟨s,t,x⟩ D d.holds.length (d.holds.length+1) d:=⟨hC,hO.holds,jKl (gK _ _) hO.waits,by have:=hO.waits;omega,⟨w,cK hw,vT⟩,Q,by omega,rfl⟩;obtain⟨I,gQ⟩:∃I:Nat->G4->ad->Prop,∀m g h',I m g h'=∃M f,Le h h'/\RP h' g.b1 g.n1 g.c1 g.b2 g.n2 g.c2 g.b3 g.n3 g.c3 g.b4 g.n4 g.c4 M/\cKx n ⟨s,t,x⟩ D m f M:=⟨_,λ_ _ _=>rfl⟩;have hJ:I d.holds.length ⟨j,r,o,l,y,p,C,J,F,E,K,H⟩ h1:=by rw[gQ];exact⟨d,_,l1,q1,ag⟩
 clear iP P Q ag jb wh AL;cbv;rw[tY];cbv;refine aX.go (G:=G4) (λg=>[]) (λg=>[(4,[.slice g.b1 g.n1 g.c1,.slice g.b2 g.n2 g.c2,.slice g.b3 g.n3 g.c3,.slice g.b4 g.n4 g.c4]),(8,[.slice none 0 0,.slice none 0 0,.slice none 0 0,.slice none 0 0])]) (λm g h'=>I m g h') d.holds.length ⟨j,r,o,l,y,p,C,J,F,E,K,H⟩ (by constructor<;>cbv) hJ ?_
 intro m g h' N;rw[gQ]at N;cbv;obtain⟨M,f,U,O,V⟩:=N;obtain⟨j,r,o,l,y,p,C,J,F,E,K,H⟩:=g;have O:RP h' j r o l y p C J F E K H M:=O;obtain⟨B,X,Wx,ao,kW,ax,uF,Ch⟩:=OG V hn;have Ds:=O.holds.len;have ar:=O.waits.len;have Tw:=V.hb;have aw:=V.wc;have al:=V.sc.hu;have DR:=V.ms;have eT:B.ao=M.ao:=by rw[X]
 have eW:B.ai=M.ai:=by rw[X]
 have eH:B.holds=cS M.holds ⟨s,t,x⟩:=by rw[X]
 have aq:B.waits=cY M.holds M.waits ⟨s,t,x⟩:=by rw[X]
 have Z:∀m' T S (g:G4) W,Le h W->RP W g.b1 g.n1 g.c1 g.b2 g.n2 g.c2 g.b3 g.n3 g.c3 g.b4 g.n4 g.c4 S->cKx n ⟨s,t,x⟩ D m' T S->I m' g W:=λm' T S g W a b c=>by rw[gQ];exact⟨S,T,a,b,c⟩
 clear X gQ V;refine cZg O.holds O.waits (by omega) (by omega) al s t x (λh2 e3 m3 f3 e4 m4 f4 u l2 hu v3 v4=>?_);rw[<-eH]at v3;rw[<-aq]at v4;have q2:RP h2 j r o l y p e3 m3 f3 e4 m4 f4 B:=⟨by rw[eT];exact(O.mono l2).ao,by rw[eW];exact(O.mono l2).ai,v3,v4⟩;have Nq:=v3.len;have Bu:=v4.len;cases u with
 |true=>have Q:=uF hu.symm;subst Q;have L:=hk h2 j r o l y p e3 m3 f3 e4 m4 f4 (U.trans l2) q2;clear uF Ch Z;cbv;exact L
 |false=>
  obtain⟨qO,Y⟩:=Ch hu.symm;cbv;refine RY v3 v4 (by omega) (by omega) s (λW v tv l3 hv=>?_);have qO:tv=false->D=(B,16):=λe=>qO (by
   show(dx (cQ B.holds B.waits) s).2=false;rw[hv];exact e)
  have Y:=λe:tv=true=>Y (by
   show(dx (cQ B.holds B.waits) s).2=true;rw[hv];exact e) v (by
   show v=(dx (cQ B.holds B.waits) s).1;rw[hv])
  have q3:=q2.mono l3;cases tv with
  |false=>
   have R:A .not false=true:=by rw[hA.not];rfl
   have Q:=qO rfl;subst Q;have L:=hk W j r o l y p e3 m3 f3 e4 m4 f4 ((U.trans l2).trans l3) q3;clear uF Z Y;cbv;rw[R];cbv;exact L
  |true=>
   have R:A .not true=false:=by rw[hA.not];rfl
   obtain⟨r1,r2,r3,r4,r5⟩:=Y rfl;have r4:v=s->D=(jE B v,17):=r4;have r5:v≠s->∃m' T,m'<m/\cKx n ⟨s,t,x⟩ D m' T (jE B v):=r5;have fe:A .aN .eql v s=decide (v=s):=au A ..;clear Y qO uF;generalize jE B v=S at *;cbv;rw[R];cbv;refine yU q3 ao v ⟨r2,r3⟩ r1 (λh4 j r o l y p C J F E K H l4 q4=>?_);have q4:RP h4 j r o l y p C J F E K H S:=q4;have ab:=((U.trans l2).trans l3).trans l4;cbv;rw[fe];by_cases XQ:v=s
   .have Q:=r4 XQ;subst Q;have L:=hk h4 j r o l y p C J F E K H ab q4;clear Z;rw[ak XQ];cbv;exact L
   obtain⟨m',T,FC,an⟩:=r5 XQ;have N:=Z m' T S ⟨j,r,o,l,y,p,C,J,F,E,K,H⟩ h4 ab q4 an;clear Z;rw[bn XQ];cbv;refine⟨m',⟨j,r,o,l,y,p,C,J,F,E,K,H⟩,FC,by constructor<;>cbv,N⟩
structure Bo(n:Nat)(hd:bU)(d1:DB)(i:Nat)(w:eY)(j:Nat)(t:ca):Prop where
 sc:SC d1
 ok:sa (n+1) d1
 wi:d1.ai[i]? =some w
 ws:w.s=hd.s
 bi:dC (bW d1.ai hd.s)=i
 tj:d1.ao[j]? =some t
 tn:t.S.name=hd.table
 bj:dC (aS d1.ao hd.table)=j
 hl:∃x∈d1.holds,x.s=hd.s/\x.table=hd.table/\(x.x|| !hd.x)=true
theorem mQ(C:SC d)(O:sa n d)(s:-2^63<=hd.s/\hd.s<2^63)(h:cA d hd=(a,0)):∃i w j t,Bo n hd a i w j t:=by
 obtain⟨c,e⟩:=LQ C hd s;have b:=AM O s (by rw[h]);have f:=(oD O hd s).ok;rw[h]at c e b f;obtain⟨w,p,m⟩:=wQ c.ov s b.2;have U:=jk b.1;obtain⟨t,l⟩:=aJ (xs:=a.ao) (i:=dC (aS a.ao hd.table)) (by simpa[aS]using U);have o:t.S.name=hd.table:=by
  have g:=b.1;unfold iQ at g;obtain⟨-,k⟩:=lA g;have:(aS a.ao hd.table).getD (dC (aS a.ao hd.table)) 0=dA t.S.name hd.table:=by
   conv=>lhs;unfold aS
   rw[yz,kS];rw[show a.ao.map (λx=>dA x.S.name hd.table)=aS a.ao hd.table from rfl,l];rfl
  rw[this]at k;exact mi k
 exact⟨_,w,_,t,⟨c,f,p,m,rfl,l,o,rfl,e rfl⟩⟩
theorem wN{t:ca}(h:cA d hd=(a,0))(g:Bo n hd a i w j t)(act:ca->ca×cV×Int):
 ea d hd act=if decide ((act t).2.2≠19)&&decide ((w.log.length:Int)>=60)then(a,4)else if decide ((act t).2.2=0)=true then
  (⟨a.ao.set j (act t).1,a.ai.set i ⟨w.s,w.log++[⟨hd.table,(act t).2.1.op,(act t).2.1.row⟩],w.marks⟩,a.holds,a.waits⟩,0)else(a,(act t).2.2):=by
 unfold ea;rw[h];simp only[ne_eq,not_true_eq_false,decide_false,jKw,if_false];rw[g.bj,g.bi,g.tj,g.wi]
theorem mV{e:Int}(h:cA d hd=(a,e))(b:e≠0)(act:ca->ca×cV×Int):ea d hd act=(a,e):=by unfold ea;rw[h,if_pos (ak b)]
theorem VK{S:tE}(d:S.bB=bG)(c:S.key=0){R:List Row}(h:SO R)(b:fY r\/r.length≠2):(bK ⟨S,R⟩ r).2≠19/\((bK ⟨S,R⟩ r).2=0->fY r):=by
 rcases b with b|b
 .refine⟨?_,λ_=>b⟩;have f:=b.fits;have A:=b;obtain⟨a,v,rfl,-⟩:=A;obtain⟨p,q⟩:=h.sr.at_ a;rw[kU (S:=S) c h.sr (by rw[d];exact f) q];split
  .simp
  split
  .simp
  simp
 have f:eF S.bB r=1:=by
  unfold eF;have c:S.bB.length=2:=by rw[d];rfl
  rw[if_pos (ak (by rw[c];omega))]
 unfold bK;simp only;rw[f];exact⟨by simp,by simp⟩
theorem HC{b:DB}{t:ca}(h:cA d hd=(b,0))(g:Bo n hd b i w j t)(z:hd.table≠yX)(p:fY r\/r.length≠2)(a:ea d hd (ji r)=D):
 ((w.log.length:Int)>=60->D=(b,4))/\(¬(w.log.length:Int)>=60->∀T:ca×Int,bK t r=T->(T.2≠0->D=(b,T.2))/\(T.2=0->fY r/\D=(⟨b.ao.set j T.1,b.ai.set i ⟨w.s,w.log++[⟨hd.table,1,r⟩],w.marks⟩,b.holds,b.waits⟩,0))):=by
 rw[wN h g]at a;obtain⟨f,m,-⟩:=g.sc.tw.ok t (cK g.tj);obtain⟨k,l⟩:=f (by rw[g.tn];exact z);obtain⟨S,R⟩:=t;obtain⟨e1,o⟩:=VK k l m p;have a1:(ji r ⟨S,R⟩).2.2=(bK ⟨S,R⟩ r).2:=rfl;have a2:(ji r ⟨S,R⟩).1=(bK ⟨S,R⟩ r).1:=rfl;rw[a1,a2]at a;rw[ak e1,jKP]at a;refine⟨λhl=>?_,λhl T e=>⟨λc=>?_,λc=>?_⟩⟩
 .rw[if_pos (ak hl)]at a;exact a.symm
 .rw[if_neg (by simpa using hl),e,if_neg (by simpa using c)]at a;exact a.symm
 rw[if_neg (by simpa using hl),e,if_pos (by simpa using c)]at a;rw[<-a];exact⟨o (by rw[e];exact c),rfl⟩
theorem bQJ{l p u w rb:Option Addr}{c B C G E H F rn rc:Nat}(q:RP h l c B p f C u G E w H F d)(hC:SC d)(hO:sa n d)(hn:n<=2^16)(s:Int)(nm:ByteArray)(tz:nm≠yX)(hs:-2^63<=s/\s<2^63)(qr:Sl 45 bA h (.slice rb rn rc) r)(hr:fY r\/r.length≠2)
  (M:px d s nm r=D)  (hk:RK h D.1 D.2 k):
 Ct 153 [.agg #[.slice l c B,.slice p f C,.slice u G E,.slice w H F],.int .i64 s,.string nm,.slice rb rn rc] h k:=by
 obtain⟨A,hA⟩:=Ar.ex;have M:ea d ⟨s,nm,true⟩ (ji r)=D:=M;obtain⟨⟨b,e⟩,hH⟩:∃X,cA d ⟨s,nm,true⟩=X:=⟨_,rfl⟩;have Xo:A .aN .neq e 0=decide (e≠0):=az A ..;refine fz eZV A Tryz.func153 ?_;cbv;refine Jr q hC hO hn ⟨s,nm,true⟩ hs hH (λh1 l c B p f C u G E w H F l1 t=>?_);have t:RP h1 l c B p f C u G E w H F b:=t;cbv;rw[Xo];by_cases N:e=0
 .subst N;obtain⟨i,⟨ws,wl,wm⟩,j,⟨⟨J,tc,tk,P⟩,R⟩,g⟩:=mQ hC hO hs hH;obtain⟨O,S⟩:=HC hH g tz hr M;have U:SI b:=g.sc.si g.ok (by omega);obtain⟨t0,t3,-⟩:=g.sc.tw.ok _ (cK g.tj);obtain⟨t1,t2⟩:=t0 (by rw[g.tn];exact tz);have t1:tc=bG:=t1;have t2:tk=0:=t2;have t3:SO R:=t3;subst t1 t2;have vT:ws=s:=g.ws;have UP:J=nm:=g.tn;have L:=g.wi;have tj:=g.tj;have Gz:=sk U.gL L;have uC:b.ai.length<=8:=lW U.gL U.ov;have zM:b.ao.length<=8:=U.tw.le;have oE:=(U.log _ (cK L)).2;have oE:wl.length<=60:=oE;have iv:i<b.ai.length:=(ff.1 L).1;have qQ:j<b.ao.length:=(ff.1 tj).1;have O:(wl.length:Int)>=60->D=(b,4):=O;have S:¬(wl.length:Int)>=60->∀T:ca×Int,bK ⟨⟨J,bG,0,P⟩,R⟩ r=T->(T.2≠0->D=(b,T.2))/\(T.2=0->fY r/\D=(⟨b.ao.set j T.1,b.ai.set i ⟨ws,wl++[⟨nm,1,r⟩],wm⟩,b.holds,b.waits⟩,0)):=S;have eU:f=b.ai.length:=t.ai.len;have fh:c=b.ao.length:=t.ao.len;have fC:i<f:=by omega
  have ab:j<c:=by omega
  have ag:b.ao.length<=2^30:=by omega
  have ao:b.ai.length<=2^30:=by omega
  have aw:wl.length<=2^30:=by omega
  have aq:0<f:=by omega
  have zg:0<c:=by omega
  clear M;rw[bn (by simp)];cbv;refine yi t s (λz jb=>?_);rcases oq U hs jb with⟨-,hb⟩|⟨i',w',hz,Ox,an,-,-⟩
  .have:=(lF U.gL U.ov hs).2 ⟨_,cK L,vT⟩;rw[hb]at this;cases this
  obtain rfl:i'=i:=Gz i' w' Ox (by rw[an];exact vT.symm);have ey:p.isSome=true/\0<=z/\z<(f:Int):=⟨t.ai.bp aq,hz.ix fC⟩;have dG:=hz.eq;cbv;refine⟨ey,?_⟩;cbv;refine t.ai.cu L dG (o:=1) (m:=1) (by decide) (λcs ar=>?_);obtain⟨u1,v1,w1,u2,v2,w2,rfl,sl,-⟩:=ar;have al:v1=wl.length:=sl.len;have ax:A .aN .geq (A .nat v1) 60=decide ((wl.length:Int)>=60):=by rw[cH A,hA.nat,al];rfl
  cbv;rw[ax];by_cases Z:(wl.length:Int)>=60
  .have Q:=O Z;subst Q;have I:=hk h1 l c B p f C u G E w H F l1 t;clear O S;rw[ak Z];cbv;exact I
  obtain⟨T,hT⟩:∃T,bK ⟨⟨J,bG,0,P⟩,R⟩ r=T:=⟨_,rfl⟩;obtain⟨W,Y⟩:=S Z T hT;have QN:T.1.S=⟨J,bG,0,P⟩:=by rw[<-hT];exact lG _ _
  clear O S jb;rw[bn Z];cbv;refine(wz t).mono (λv h2 hR=>?_);obtain⟨l2,z2,rfl,wh⟩:=hR;have q2:=t.mono l2;rcases tG U.tw.gL wh with⟨-,-,qO⟩|⟨j',t',lN,CR,qE,-,-⟩
  .exact absurd UP (qO _ (cK tj))
  obtain rfl:j'=j:=by obtain⟨a1,-⟩:=tH U.tw.gL CR;obtain⟨a2,-⟩:=tH U.tw.gL tj;rw[qE]at a1;have a2:dC (aS b.ao J)=j:=a2;rw[UP]at a2;omega
  have jC:l.isSome=true/\0<=z2/\z2<(c:Int):=⟨q2.ao.bp zg,lN.ix ab⟩;have GN:=lN.eq;clear wh;cbv;refine⟨jC,?_⟩;cbv;refine q2.ao.load tj GN (λcs ar=>?_);obtain⟨x1,y1,z1,x2,y2,z3,rfl,s1,s2⟩:=ar;have s1:Sl 202 bH h2 (.slice x1 y1 z1) bG:=s1;have s2:Sl 46 bF h2 (.slice x2 y2 z3) R:=s2;have Jo:=l1.trans l2;obtain⟨TT,K⟩:=T;obtain⟨TS,TR⟩:=TT;have QN:TS=⟨J,bG,0,P⟩:=QN;subst QN;cbv;refine Xa s1 s2 t3 (qr.mono (Jo.t _)) hr hT (λh3 x3 y3 w3 l3 s3=>?_);have s3:Sl 46 bF h3 (.slice x3 y3 w3) TR:=s3;have q3:=q2.mono l3;have aA:A .aN .neq K 0=decide (K≠0):=az A ..;have W:K≠0->D=(b,K):=W;have Y:K=0->fY r/\D=(⟨b.ao.set j' ⟨⟨J,bG,0,P⟩,TR⟩,b.ai.set i' ⟨ws,wl++[⟨nm,1,r⟩],wm⟩,b.holds,b.waits⟩,0):=Y;cbv;rw[aA];by_cases Oz:K=0
  .obtain⟨DO,Q⟩:=Y Oz;subst Q;have tq:r.length=2:=by obtain⟨a,v,rfl,-⟩:=DO;rfl
   have V:=Jo.trans l3;clear W Y;rw[bn (by simpa using Oz)];cbv;refine IV q3 ag lN qQ (s1.mono (l3.t _)) s3 (λh4 l c B p f C u G E w H F l4 q4=>?_);cbv;refine Qs q4 ao L vT (λj y hy N=>Gz j y hy (by rw[N];exact vT.symm)) aw (x:=⟨nm,1,r⟩) ((qr.mono (V.t _)).mono (l4.t _)) tq (λh5 l c B p f C u G E w H F l5 q5=>?_);have I:=hk h5 l c B p f C u G E w H F ((V.trans l4).trans l5) q5;cbv;exact I
  have Q:=W Oz;subst Q;have I:=hk h3 l c B p f C u G E w H F (Jo.trans l3) q3;clear W Y;rw[ak Oz];cbv;exact I
 have Q:D=(b,e):=by rw[<-M];exact mV hH N _
 subst Q;have I:=hk h1 l c B p f C u G E w H F l1 t;rw[ak N];cbv;exact I
theorem EA{c:DB}{t:ca}(h:cA d hd=(c,0))(g:Bo n hd c i w j t){a:Int}(z:hd.table≠yX)(b:ea d hd (eV ⟨2,a,dZ⟩)=D):
 (t.S.only=true->D=(c,19))/\(t.S.only=false->((w.log.length:Int)>=60->D=(c,4))/\(¬(w.log.length:Int)>=60->∀T:ca×Row×Int,bE t ⟨2,a,dZ⟩=T->(T.2.2≠0->D=(c,T.2.2))/\(T.2.2=0->fY T.2.1/\D=(⟨c.ao.set j T.1,c.ai.set i ⟨w.s,w.log++[⟨hd.table,2,T.2.1⟩],w.marks⟩,c.holds,c.waits⟩,0)))):=by
 rw[wN h g]at b;obtain⟨u,m,-⟩:=g.sc.tw.ok t (cK g.tj);obtain⟨A,v⟩:=u (by rw[g.tn];exact z);obtain⟨S,R⟩:=t;refine⟨λo=>?_,λo=>?_⟩
 .have o:S.only=true:=o;have e:eV ⟨2,a,dZ⟩ ⟨S,R⟩=(⟨S,R⟩,⟨jg,0,[]⟩,19):=by unfold eV;rw[if_pos o]
  rw[e]at b;exact b.symm
 have o:S.only=false:=o;have e:eV ⟨2,a,dZ⟩ ⟨S,R⟩=((bE ⟨S,R⟩ ⟨2,a,dZ⟩).1,⟨jg,2,(bE ⟨S,R⟩ ⟨2,a,dZ⟩).2.1⟩,(bE ⟨S,R⟩ ⟨2,a,dZ⟩).2.2):=by unfold eV;rw[if_neg (by simp[o])]
 rw[e]at b;obtain⟨p,q⟩:=m.sr.at_ a;have y:=kf (S:=S) v m.sr q;have e1:(bE ⟨S,R⟩ ⟨2,a,dZ⟩).2.2≠19/\((bE ⟨S,R⟩ ⟨2,a,dZ⟩).2.2=0->fY (bE ⟨S,R⟩ ⟨2,a,dZ⟩).2.1):=by
  rw[y];by_cases k:jM R a p=true
  .rw[if_pos k];refine⟨by simp,λ_=>?_⟩;show fY ((R[p]?).getD []);unfold jM at k;cases s:R[p]? with
   |none=>rw[s]at k;cases k
   |some r=>exact m.ok r (cK s)
  rw[if_neg k];exact⟨by simp,by simp⟩
 obtain⟨e1,x⟩:=e1;simp only at b;rw[ak e1,jKP]at b;refine⟨λhl=>?_,λhl T f=>⟨λl=>?_,λl=>?_⟩⟩
 .rw[if_pos (ak hl)]at b;exact b.symm
 .rw[if_neg (by simpa using hl),f,if_neg (by simpa using l)]at b;exact b.symm
 rw[if_neg (by simpa using hl),f,if_pos (by simpa using l)]at b;rw[<-b];refine⟨?_,rfl⟩;rw[<-f];exact x (by rw[f];exact l)
theorem bZH{l p r t:Option Addr}{c u w E B F C:Nat}(q:RP h l c u p f w r E B t F C d)(hC:SC d)(hO:sa n d)(hn:n<=2^16)(s:Int)(nm:ByteArray)(tz:nm≠yX)(a:Int)(hs:-2^63<=s/\s<2^63)
  (S:mE d s nm ⟨2,a,dZ⟩=D)  (W:RK h D.1 D.2 k):
 Ct 155 [.agg #[.slice l c u,.slice p f w,.slice r E B,.slice t F C],.int .i64 s,.string nm,.agg #[.int .i64 2,.int .i64 a,.string dZ]] h k:=by
 obtain⟨A,hA⟩:=Ar.ex;have S:ea d ⟨s,nm,true⟩ (eV ⟨2,a,dZ⟩)=D:=S;obtain⟨⟨b,e⟩,hH⟩:∃X,cA d ⟨s,nm,true⟩=X:=⟨_,rfl⟩;have Xo:A .aN .neq e 0=decide (e≠0):=az A ..;refine fz eZU A Tryz.func155 ?_;cbv;refine Jr q hC hO hn ⟨s,nm,true⟩ hs hH (λh1 l c u p f w r E B t F C l1 I=>?_);have I:RP h1 l c u p f w r E B t F C b:=I;cbv;rw[Xo];by_cases V:e=0
 .subst V;obtain⟨i,⟨ws,wl,wm⟩,j,⟨⟨K,tc,tk,P⟩,R⟩,g⟩:=mQ hC hO hs hH;obtain⟨Y,H⟩:=EA hH g tz S;have U:SI b:=g.sc.si g.ok (by omega);obtain⟨t0,t3,-⟩:=g.sc.tw.ok _ (cK g.tj);obtain⟨t1,t2⟩:=t0 (by rw[g.tn];exact tz);have t1:tc=bG:=t1;have t2:tk=0:=t2;have t3:SO R:=t3;subst t1 t2;have vT:ws=s:=g.ws;have UP:K=nm:=g.tn;have N:=g.wi;have tj:=g.tj;have Gz:=sk U.gL N;have uC:b.ai.length<=8:=lW U.gL U.ov;have zM:b.ao.length<=8:=U.tw.le;have oE:=(U.log _ (cK N)).2;have oE:wl.length<=60:=oE;have iv:i<b.ai.length:=(ff.1 N).1;have qQ:j<b.ao.length:=(ff.1 tj).1;have Y:P=true->D=(b,19):=Y;have L:P=false->(wl.length:Int)>=60->D=(b,4):=λh=>(H h).1;have H:P=false->¬(wl.length:Int)>=60->∀T:ca×Row×Int,bE ⟨⟨K,bG,0,P⟩,R⟩ ⟨2,a,dZ⟩=T->(T.2.2≠0->D=(b,T.2.2))/\(T.2.2=0->fY T.2.1/\D=(⟨b.ao.set j T.1,b.ai.set i ⟨ws,wl++[⟨nm,2,T.2.1⟩],wm⟩,b.holds,b.waits⟩,0)):=λh=>(H h).2;have eU:f=b.ai.length:=I.ai.len;have fh:c=b.ao.length:=I.ao.len;have fC:i<f:=by omega
  have ab:j<c:=by omega
  have ag:b.ao.length<=2^30:=by omega
  have aw:b.ai.length<=2^30:=by omega
  have aA:wl.length<=2^30:=by omega
  have ax:0<f:=by omega
  have zg:0<c:=by omega
  have aq:R.length<=200:=t3.le;clear S;rw[bn (by simp)];cbv;refine(wz I).mono (λv h2 hR=>?_);obtain⟨l2,z2,rfl,wh⟩:=hR;have J:=I.mono l2;rcases tG U.tw.gL wh with⟨-,-,qO⟩|⟨j',t',lN,CR,qE,-,-⟩
  .exact absurd UP (qO _ (cK tj))
  obtain rfl:j'=j:=by obtain⟨a1,-⟩:=tH U.tw.gL CR;obtain⟨a2,-⟩:=tH U.tw.gL tj;rw[qE]at a1;have a2:dC (aS b.ao K)=j:=a2;rw[UP]at a2;omega
  have jC:l.isSome=true/\0<=z2/\z2<(c:Int):=⟨J.ao.bp zg,lN.ix ab⟩;have GN:=lN.eq;have Jo:=l1.trans l2;clear wh;cbv;refine⟨jC,?_⟩;cbv;refine J.ao.BY tj GN (o1:=0) (o2:=3) (m:=1) (by decide) (λcs O=>?_);obtain⟨x1,y1,z1,x2,y2,z3,rfl,s1,s2⟩:=O;cbv;cases P with
  |true=>have Q:=Y rfl;subst Q;have G:=W h2 l c u p f w r E B t F C Jo J;clear Y L H;cbv;exact G
  |false=>
   have L:=L rfl;have H:=H rfl;clear Y;cbv;refine yi J s (λz jb=>?_);rcases oq U hs jb with⟨-,hb⟩|⟨i',w',hz,Ox,an,-,-⟩
   .have:=(lF U.gL U.ov hs).2 ⟨_,cK N,vT⟩;rw[hb]at this;cases this
   obtain rfl:i'=i:=Gz i' w' Ox (by rw[an];exact vT.symm);have ey:p.isSome=true/\0<=z/\z<(f:Int):=⟨I.ai.bp ax,hz.ix fC⟩;have dG:=hz.eq;clear jb;cbv;refine⟨ey,?_⟩;cbv;refine J.ai.cu N dG (o:=1) (m:=1) (by decide) (λcs O=>?_);obtain⟨u1,v1,w1,u2,v2,w2,rfl,sl,-⟩:=O;have al:v1=wl.length:=sl.len;have aB:A .aN .geq (A .nat v1) 60=decide ((wl.length:Int)>=60):=by rw[cH A,hA.nat,al];rfl
   cbv;rw[aB];by_cases Mf:(wl.length:Int)>=60
   .have Q:=L Mf;subst Q;have G:=W h2 l c u p f w r E B t F C Jo J;clear L H;rw[ak Mf];cbv;exact G
   obtain⟨T,hT⟩:∃T,bE ⟨⟨K,bG,0,false⟩,R⟩ ⟨2,a,dZ⟩=T:=⟨_,rfl⟩;obtain⟨Z,p4⟩:=H Mf T hT;have QN:T.1.S=⟨K,bG,0,false⟩:=by rw[<-hT];exact kR _ _
   clear L H;rw[bn Mf];cbv;refine⟨jC,?_⟩;cbv;refine J.ao.load tj GN (λcs O=>?_);obtain⟨x1,y1,z1,x2,y2,z3,rfl,s1,s2⟩:=O;have s1:Sl 202 bH h2 (.slice x1 y1 z1) bG:=s1;have s2:Sl 46 bF h2 (.slice x2 y2 z3) R:=s2;obtain⟨TT,tr,M⟩:=T;obtain⟨TS,TR⟩:=TT;have QN:TS=⟨K,bG,0,false⟩:=QN;subst QN;cbv;refine PV s2 t3.sr aq a hT (λh3 x3 y3 w3 x4 y4 w4 l3 s3 s4=>?_);have s3:Sl 46 bF h3 (.slice x3 y3 w3) TR:=s3;have s4:Sl 45 bA h3 (.slice x4 y4 w4) tr:=s4;have q3:=J.mono l3;have aC:A .aN .neq M 0=decide (M≠0):=az A ..;have Z:M≠0->D=(b,M):=Z;have p4:M=0->fY tr/\D=(⟨b.ao.set j' ⟨⟨K,bG,0,false⟩,TR⟩,b.ai.set i' ⟨ws,wl++[⟨nm,2,tr⟩],wm⟩,b.holds,b.waits⟩,0):=p4;cbv;rw[aC];by_cases Oz:M=0
   .obtain⟨DO,Q⟩:=p4 Oz;subst Q;have tq:tr.length=2:=by obtain⟨a,v,rfl,-⟩:=DO;rfl
    have ao:=Jo.trans l3;clear Z p4;rw[bn (by simpa using Oz)];cbv;refine IV q3 ag lN qQ (s1.mono (l3.t _)) s3 (λh4 l c u p f w r E B t F C l4 q4=>?_);cbv;refine Qs q4 aw N vT (λj y hy V=>Gz j y hy (by rw[V];exact vT.symm)) aA (x:=⟨nm,2,tr⟩) (s4.mono (l4.t _)) tq (λh5 l c u p f w r E B t F C l5 q5=>?_);have G:=W h5 l c u p f w r E B t F C ((ao.trans l4).trans l5) q5;cbv;exact G
   have Q:=Z Oz;subst Q;have G:=W h3 l c u p f w r E B t F C (Jo.trans l3) q3;clear Z p4;rw[ak Oz];cbv;exact G
 have Q:D=(b,e):=by rw[<-S];exact mV hH V _
 subst Q;have G:=W h1 l c u p f w r E B t F C l1 I;rw[ak V];cbv;exact G
theorem bJb{b c f l:Option Addr}{a m t o u p x r:Nat}(q:RP h b a m c t o f u p l x r d)(N:SC d)(O:sa n d)(hn:n<=2^16)(s:Int)(nm:ByteArray)(tz:nm≠yX)(S:-2^63<=s/\s<2^63)
 {D:DB×List Row×Int} (B:rj d s nm=D) 
 (P:∀h' b a m c t o f u p l x r rb rn rc,Le h h'->RP h' b a m c t o f u p l x r D.1->Sl 46 bF h' (.slice rb rn rc) D.2.1->k (.tuple #[.agg #[.slice b a m,.slice c t o,.slice f u p,.slice l x r],.slice rb rn rc,.int .i64 D.2.2]) h'):
 Ct 157 [.agg #[.slice b a m,.slice c t o,.slice f u p,.slice l x r],.int .i64 s,.string nm] h k:=by
 obtain⟨A,hA⟩:=Ar.ex;obtain⟨⟨y,e⟩,H⟩:∃X,cA d ⟨s,nm,false⟩=X:=⟨_,rfl⟩;have Xo:A .aN .neq e 0=decide (e≠0):=az A ..;unfold rj at B;rw[H]at B;refine fz eZS A Tryz.func157 ?_;cbv;refine Jr q N O hn ⟨s,nm,false⟩ S H (λM b a m c t o f u p l x r T z=>?_);have z:RP M b a m c t o f u p l x r y:=z;cbv;rw[Xo];by_cases G:e=0
 .subst G;obtain⟨i,w,j,⟨⟨tn,tc,tk,PS⟩,R⟩,g⟩:=mQ N O S H;have U:SI y:=g.sc.si g.ok (by omega);obtain⟨t0,C,-⟩:=g.sc.tw.ok _ (cK g.tj);obtain⟨K,L⟩:=t0 (by rw[g.tn];exact tz);have K:tc=bG:=K;have L:tk=0:=L;have C:SO R:=C;subst K L;have UP:tn=nm:=g.tn;have E:=g.tj;have bj:dC (aS y.ao nm)=j:=g.bj;have Q:D=(y,R,0):=by rw[<-B];simp only[ne_eq,not_true_eq_false,decide_false,jKw,if_false];rw[bj,E]
  subst Q;have zM:y.ao.length<=8:=U.tw.le;have qQ:j<y.ao.length:=(ff.1 E).1;have fh:a=y.ao.length:=z.ao.len;have J:j<a:=by omega
  have zg:0<a:=by omega
  have W:R.length<=200:=C.le;clear B;rw[bn (by simp)];cbv;refine(wz z).mono (λv h2 hR=>?_);obtain⟨V,z2,rfl,wh⟩:=hR;have I:=z.mono V;rcases tG U.tw.gL wh with⟨-,-,qO⟩|⟨j',t',Z,CR,qE,-,-⟩
  .exact absurd UP (qO _ (cK E))
  obtain rfl:j'=j:=by obtain⟨a1,-⟩:=tH U.tw.gL CR;rw[qE]at a1;omega
  have jC:b.isSome=true/\0<=z2/\z2<(a:Int):=⟨I.ao.bp zg,Z.ix J⟩;have GN:=Z.eq;have Jo:=T.trans V;clear wh;cbv;refine⟨jC,?_⟩;cbv;refine I.ao.load E GN (λcs ar=>?_);obtain⟨x1,y1,z1,x2,y2,z3,rfl,s1,s2⟩:=ar;have s2:Sl 46 bF h2 (.slice x2 y2 z3) R:=s2;cbv;refine aZa s2 C.sr W (λh3 x3 y3 w3 Y s3=>?_);have F:=P h3 b a m c t o f u p l x r x3 y3 w3 (Jo.trans Y) (I.mono Y) s3;cbv;exact F
 have Q:D=(y,[],e):=by rw[<-B,if_pos (ak G)]
 subst Q;have F:=P M b a m c t o f u p l x r none 0 0 T z Sl.nil;rw[ak G];cbv;exact F
end Go.S
