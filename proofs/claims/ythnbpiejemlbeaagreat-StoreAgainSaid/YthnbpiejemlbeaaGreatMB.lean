import Derived.Test.YthnbpiejemlbeaaGreatMA
set_option linter.all false
set_option maxRecDepth 100000
set_option maxHeartbeats 8000000
namespace Go.S
open Go.Sx Go.Proofs
variable {a d:DB}{D:DB×Int}{s:Int}{H:List bZ}{f i j n:Nat}{r:Row}{k:Value->ad->Prop}{h:ad}{hd:bZ}{w:eJ}
structure SC(d:DB):Prop where
 tw:TW d.ao
 gi:d.ai.Pairwise (λa b=>a.s<b.s)
 mX:∀w∈d.ai,0<=w.s/\w.s<8
 log:∀w∈d.ai,(∀x∈w.log,vJ d.ao x)/\w.log.length<=60
 Pz:fQq d
 hu:HU d.holds
 hw:∀x∈d.holds,∃w∈d.ai,w.s=x.s
 hc:∀x∈d.holds,∀y∈d.holds,eE x y=false
 lg:∀w∈d.ai,∀c∈w.log,∃x∈d.holds,x.s=w.s/\x.table=c.table/\x.x=true
theorem SC.si(q:SC d)(o:sW n d)(h:n<=2^17):SI d:=⟨q.tw,q.gi,q.mX,q.log,kXj o.holds h,kXj o.waits h⟩
theorem YQ:(nY H hd=none/\∀x∈H,jn hd x=false)\/∃i x,nY H hd=some i/\H[i]? =some x/\jn hd x=true:=by
 cases h:nY H hd with
 |none=>
  grind [nY]
 |some i=>
  right;unfold nY at h;obtain⟨a,b,-⟩:=kXd.1 h
  grind
theorem YR{x:bZ}(h:jn hd x=true):x.s=hd.s/\x.table=hd.table:=by unfold jn at h;simpa using h
theorem Hh(hd:bZ):
 (bW H hd=true/\((cT H hd=H/\∃x∈H,x.s=hd.s/\x.table=hd.table/\(x.x|| !hd.x)=true)\/((∀y∈H,eE hd y=false)/\cT H hd=H++[hd]/\∀x∈H,jn hd x=false)\/
  ((∀y∈H,eE hd y=false)/\hd.x=true/\∃i x,H[i]? =some x/\x.s=hd.s/\x.table=hd.table/\cT H hd=H.set i hd)))\/(bW H hd=false/\cT H hd=H):=by
 have s:H.any (eE hd)=false->∀y∈H,eE hd y=false:=λh y k=>by
  grind
 have o:bW H hd=false->cT H hd=H:=λh=>by unfold cT;rw[h];rfl
 rcases YQ (H:=H) (hd:=hd)with⟨hm,R⟩|⟨i,x,hm,hx,p⟩
 .obtain⟨c,a,d⟩:=NZ (W:=[]) hm
  grind
 obtain⟨e1,e⟩:=YR p;obtain⟨c,a⟩:=NY (W:=[]) hm hx p;cases B:(x.x|| !hd.x)with
 |true=>
  grind
 |false=>
  obtain⟨d,f,j⟩:=a B;cases b:H.any (eE hd)with
  |false=>
   left;refine⟨gg,.inr (.inr ⟨s b,?_,i,x,hx,e1,e,?_⟩)⟩
   .cases g:hd.x with
    |true=>rfl
    |false=>grind
   rw[f b];have g:hd.x=true:=by
    grind
   congr 1;cases hd
   grind
  |true=>
   grind
theorem bQS(hd:bZ)(h:bW H hd=true):∃x∈cT H hd,x.s=hd.s/\x.table=hd.table/\(x.x|| !hd.x)=true:=by
 rcases Hh (H:=H) hd with⟨-,a⟩|⟨a,-⟩
 .rcases a with⟨e,x,hx,b⟩|⟨-,e,-⟩|⟨-,B,i,x,hx,e1,c,e⟩
  .exact⟨x,gg,b⟩
  .exact⟨hd,by rw[e];simp,rfl,rfl,by cases hd.x<;>rfl⟩
  refine⟨hd,?_,rfl,rfl,by rw[B];rfl⟩;rw[e];exact kZO.2 ⟨i,kXU (HH.1 hx).1⟩
 grind
theorem Jt(x:bZ):eE x x=false:=by unfold eE;simp
theorem QO(q:SC d)(n:∃w∈d.ai,w.s=hd.s)(W:List bZ):SC ⟨d.ao,d.ai,cT d.holds hd,W⟩:=by
 rcases Hh (H:=d.holds) hd with⟨-,k⟩|⟨-,e⟩
 .rcases k with⟨e,-⟩|⟨R,e,hm⟩|⟨R,B,i,x,hx,e1,C,e⟩
  .rw[e];exact⟨q.tw,q.gi,q.mX,q.log,q.Pz,q.hu,q.hw,q.hc,q.lg⟩
  .rw[e];refine⟨q.tw,q.gi,q.mX,q.log,q.Pz,?_,?_,?_,?_⟩
   .intro i j x y m l k f;have m:(d.holds++[hd])[i]? =some x:=m;have l:(d.holds++[hd])[j]? =some y:=l;rw[kZZ]at m l;have no:∀z∈d.holds,z.s=hd.s->z.table=hd.table->False:=λz r a b=>by
     grind [jn]
    split at m
    .rename_i a1;split at l
     .exact q.hu i j x y m l k f
     grind
    grind
   .intro x hx;rcases kJj.1 hx with hx|hx
    .exact q.hw x hx
    grind
   .intro x hx y g;rcases kJj.1 hx with hx|hx
    .rcases kJj.1 g with g|g
     .exact q.hc x hx y g
     grind [tW,hx]
    grind [hx,Jt]
   intro w n c o;obtain⟨x,hx,h⟩:=q.lg w n c o
   grind
  rw[e];have F:=(HH.1 hx).1;refine⟨q.tw,q.gi,q.mX,q.log,q.Pz,?_,?_,?_,?_⟩
  .have key:∀(a:Nat) (y:bZ),(d.holds.set i hd)[a]? =some y->∃z:bZ,d.holds[a]? =some z/\z.s=y.s/\z.table=y.table:=λa y p=>by
    grind
   intro a b x y p E k f;obtain⟨G,a1,a2,t⟩:=key a x p;obtain⟨I,u,v,A⟩:=key b y E;exact q.hu a b G I a1 u (by rw[a2,v,k]) (by rw[t,A,f])
  .intro y g;rcases kZa g with h|h
   .exact q.hw y h
   grind
  .intro y g z r;rcases kZa g with h|h
   .rcases kZa r with f|f
    .exact q.hc y h z f
    rw[f,tW];exact R y h
   grind [Jt]
  intro w n c o;obtain⟨y,g,k,f,D⟩:=q.lg w n c o;obtain⟨j,l⟩:=kXT g;by_cases s:i=j
  .subst s;rw[hx]at l;cases l;exact⟨hd,kZO.2 ⟨i,kXU F⟩,by rw[<-e1,k],by rw[<-C,f],B⟩
  exact⟨y,kZO.2 ⟨j,gg⟩,k,f,D⟩
 rw[e];exact⟨q.tw,q.gi,q.mX,q.log,q.Pz,q.hu,q.hw,q.hc,q.lg⟩
theorem xy{ws:List eJ}(f:ws.Pairwise (λa b=>a.s<b.s))(r:∀w∈ws,0<=w.s/\w.s<8)(H:-2^63<=s/\s<2^63)(w:eJ):w∈tU ws s↔w∈ws/\w.s≠s:=by
 unfold tU;cases d:iC (cf ws s)with
 |true=>
  rw[if_pos rfl];obtain⟨w0,K,g⟩:=xL r H d;have u:=mH f K;constructor
  .intro h;obtain⟨j,c,J⟩:=rz.1 h
   grind
  rintro⟨h,V⟩;obtain⟨j,c⟩:=kXT h;refine rz.2 ⟨j,λe=>?_,c⟩
  grind
 |false=>
  grind [kP]
theorem qz{x:bZ}:x∈bX H s↔x∈H/\x.s≠s:=by unfold bX;grind
theorem aZC(h:HU H)(s:Int):HU (bX H s):=by
 have key:∀ {L:List bZ},HU L->∀ {p:bZ->Bool},HU (L.filter p):=by
  intro L;induction L with
  |nil=>grind
  |cons a r m=>
   intro f p;have k:HU r:=λi j x y e b c d=>by
    have:=f (i+1) (j+1) x y (iu e) (iu b) c d;omega
   have V:∀y∈r,a.s=y.s->a.table=y.table->False:=λy l c d=>by
    obtain⟨j,b⟩:=kXT l;have:=f 0 (j+1) a y rfl (iu b) c d;omega
   by_cases g:p a=true
   .rw[kZw g];intro i j x y e b c d;cases i with
    |zero=>
     simp at e;subst e;cases j with
     |zero=>rfl
     |succ j=>simp at b;exact(V y (kZp.1 (kQR b)).1 c d).elim
    |succ i=>
     simp at e;cases j with
     |zero=>simp at b;subst b;exact(V x (kZp.1 (kQR e)).1 c.symm d.symm).elim
     |succ j=>simp at b;have:=m k (p:=p) i j x y e b c d;omega
   grind
 exact key h
theorem aQx(q:SC d)(H:-2^63<=s/\s<2^63){T:List bS}(e:TW T)(S:T.map (·.S)=d.ao.map (·.S))(W:List bZ):SC ⟨T,tU d.ai s,bX d.holds s,W⟩:=by
 have m:=xy q.gi q.mX H;refine⟨e,q.gi.sublist (tS _ _),λw h=>q.mX w ((m w).1 h).1,λw h=>?_,λw h=>q.Pz w ((m w).1 h).1,aZC q.hu s,λx hx=>?_,λx hx y g=>q.hc x (qz.1 hx).1 y (qz.1 g).1,λw h c f=>?_⟩
 .obtain⟨a,b⟩:=q.log w ((m w).1 h).1;exact⟨λx hx=>(a x hx).map S,b⟩
 .obtain⟨a,b⟩:=qz.1 hx;obtain⟨w,h,k⟩:=q.hw x a
  grind
 obtain⟨a,b⟩:=(m w).1 h;obtain⟨x,hx,i,j⟩:=q.lg w a c f
 grind [qz,hx]
theorem aXj(q:SC d)(s:Int):TW (tV d.ao d.ai s):=by
 unfold tV;split
 .split
  .rename_i w h;exact vT q.tw (q.log w (kQR h)).1
  exact q.tw
 exact q.tw
theorem BM(q:SC d)(H:-2^63<=s/\s<2^63):SC (jo d s):=aQx q H (aXj q s) (EN _ _ _) _
theorem Sm(hd:bZ)(s:0<=hd.s/\hd.s<8):∀(f:Nat) (d:DB),SC d->(∃w∈d.ai,w.s=hd.s)->SC (kC f d hd).1/\((kC f d hd).2=0->∃x∈(kC f d hd).1.holds,x.s=hd.s/\x.table=hd.table/\(x.x|| !hd.x)=true)
 |0,d,q,a=>⟨q,λh=>by cases h⟩
 |f+1,d,q,a=>by
  have c:=QO q a (cW d.holds d.waits hd);unfold kC;by_cases V:bW d.holds hd=true
  .grind [bQS]
  rw[if_neg V];by_cases v:(dg (cN (cT d.holds hd) (cW d.holds d.waits hd)) hd.s).2=true
  .rw[if_pos v];have O:-2^63<=(dg (cN (cT d.holds hd) (cW d.holds d.waits hd)) hd.s).1/\(dg (cN (cT d.holds hd) (cW d.holds d.waits hd)) hd.s).1<2^63:=by
    have:=og (cN (cT d.holds hd) (cW d.holds d.waits hd)) hd.s;rcases this.out with⟨g,-⟩|⟨-,i,j,b,-⟩
    .grind
    rcases b with b| ⟨b,-⟩
    .rw[b];omega
    obtain⟨x,hx,e⟩:=qZ (uF b);obtain⟨w,a,r⟩:=c.hw x hx;have:=c.mX w a;omega
   by_cases U:(dg (cN (cT d.holds hd) (cW d.holds d.waits hd)) hd.s).1=hd.s
   .grind [BM]
   rw[if_neg (iu U)];refine Sm hd s f _ (BM c O) ?_;obtain⟨w,a,e⟩:=a;exact⟨w,(xy c.gi c.mX O w).2 ⟨a,gg⟩,e⟩
  grind
theorem MX(q:SC d)(hd:bZ)(h:-2^63<=hd.s/\hd.s<2^63):SC (cC d hd).1/\((cC d hd).2=0->∃x∈(cC d hd).1.holds,x.s=hd.s/\x.table=hd.table/\(x.x|| !hd.x)=true):=by
 unfold cC;by_cases U:FO d hd=true
 .rw[if_pos U];unfold FO at U;rw[kZj]at U;obtain⟨w,a,e⟩:=(kP q.gi q.mX h).1 U.1;have:=q.mX w a
  grind [Sm]
 grind
structure G4 where
 b1:Option Addr
 n1:Nat
 c1:Nat
 b2:Option Addr
 n2:Nat
 c2:Nat
 b3:Option Addr
 n3:Nat
 c3:Nat
 b4:Option Addr
 n4:Nat
 c4:Nat
structure dQU(n:Nat)(hd:bZ)(D:DB×Int)(m f:Nat)(d0:DB):Prop where
 sc:SC d0
 hb:d0.holds.length<=n
 wb:(bX d0.waits hd.s).length<=n
 wc:d0.waits.length<=n+1
 wk:∃w∈d0.ai,w.s=hd.s
 eq:kC f d0 hd=D
 fl:d0.holds.length<f
 ms:m=d0.holds.length
theorem Mj(q:SC d){v:Int}(a:∃w∈d.ai,w.s=v):cA d v=(jo d v,0)/\-2^63<=v/\v<2^63:=by
 obtain⟨w,h,rfl⟩:=a;have r:=q.mX w h;have:=(kP q.gi q.mX (s:=w.s) ip).2 ⟨w,h,rfl⟩
 grind [cA]
theorem PW{m:Nat}(q:dQU n hd D m f d)(B:n<=2^16):
 ∃a:DB,a=⟨d.ao,d.ai,cT d.holds hd,cW d.holds d.waits hd⟩/\SC a/\SI a/\a.holds.length<=2^17/\a.waits.length<=2^17/\(bW d.holds hd=true->D=(a,0))/\
  (bW d.holds hd=false->((dg (cN a.holds a.waits) hd.s).2=false->D=(a,16))/\((dg (cN a.holds a.waits) hd.s).2=true->∀v,v=(dg (cN a.holds a.waits) hd.s).1->cA a v=(jo a v,0)/\-2^63<=v/\v<2^63/\
   (v=hd.s->D=(jo a v,17))/\(v≠hd.s->∃m' b,m'<m/\dQU n hd D m' b (jo a v)))):=by
 refine⟨_,rfl,?_⟩;have C:=BN (H:=d.holds) (hd:=hd);have E:=Dn (H:=d.holds) (W:=d.waits) (hd:=hd);have F:=Cg (H:=d.holds) (W:=d.waits) (hd:=hd);have G:=q.hb;have L:=q.wb;have M:=q.wc;have X:=QO q.sc q.wk (cW d.holds d.waits hd);have y:(cT d.holds hd).length<=2^17:=ip
 have g:(cW d.holds d.waits hd).length<=2^17:=ip
 refine⟨X,⟨X.tw,X.gi,X.mX,X.log,y,g⟩,y,g,?_,?_⟩
 .intro l;have e:=q.eq;have:=q.fl;obtain⟨b,rfl⟩:∃b,f=b+1:=⟨f-1,ip⟩
  grind [kC]
 intro l;have Z:¬bW d.holds hd=true:=by rw[l];simp
 have A:cT d.holds hd=d.holds:=by unfold cT;grind
 have e:=q.eq;have I:=q.fl;obtain⟨b,rfl⟩:∃b,f=b+1:=⟨f-1,ip⟩;unfold kC at e;rw[if_neg Z]at e;refine⟨λi=>?_,λi v J=>?_⟩
 .grind
 have i:(dg (cN (cT d.holds hd) (cW d.holds d.waits hd)) hd.s).2=true:=i;have J:v=(dg (cN (cT d.holds hd) (cW d.holds d.waits hd)) hd.s).1:=J;rw[if_pos i,<-J]at e;have K:∃w∈d.ai,w.s=v:=by
  have:=og (cN (cT d.holds hd) (cW d.holds d.waits hd)) hd.s;rw[<-J]at this;rcases this.out with⟨t,-⟩|⟨-,u,z,c,-⟩
  .grind
  rcases c with c| ⟨c,-⟩
  .rw[c];exact q.wk
  obtain⟨x,hx,k⟩:=qZ (uF c);obtain⟨w,o,N⟩:=X.hw x hx
  grind
 obtain⟨s,r,j⟩:=Mj X K;refine⟨s,r,j,λh=>?_,λh=>?_⟩
 .grind
 rw[if_neg (iu h)]at e;have p:=vQ i;rw[<-J]at p;refine⟨(bX (cT d.holds hd) v).length,b,?_,BM X ⟨r,j⟩,?_,?_,?_,?_,e,?_,rfl⟩
 .have:=q.ms
  grind
 .show(bX (cT d.holds hd) v).length<=n
  grind
 .show(bX (bX (cW d.holds d.waits hd) v) hd.s).length<=n
  grind [Cf,gS,bX,cW]
 .show(bX (cW d.holds d.waits hd) v).length<=n+1
  grind [gS,cW]
 .obtain⟨w,o,k⟩:=q.wk;exact⟨w,(xy X.gi X.mX ⟨r,j⟩ w).2 ⟨o,gg⟩,k⟩
 show(bX (cT d.holds hd) v).length<b
 grind
theorem Kl{j l B C:Option Addr}{r o y p H E J F:Nat}(q:RP h j r o l y p B H E C J F d)(hC:SC d)(hO:sW n d)(hn:n<=2^16)(hd:bZ)(hs:-2^63<=hd.s/\hd.s<2^63)(hD:cC d hd=D)(hk:RK h D.1 D.2 k):
 Ct 152 [.agg #[.slice j r o,.slice l y p,.slice B H E,.slice C J F],.zI hd.s,.string hd.table,.bool hd.x] h k:=by
 obtain⟨A,hA⟩:=Ar.ex;obtain⟨s,t,x⟩:=hd;have hs:-2^63<=s/\s<2^63:=hs;have N:SI d:=hC.si hO ip;have vd:=mG N.gi N.mX;have Sb:A .aQ .lss (-1) 0=true:=by rw[aV A];rfl
 have P:FO d ⟨s,t,x⟩=false->D=(d,2):=λh=>by rw[<-hD];unfold cC;rw[h];rfl
 have ja:FO d ⟨s,t,x⟩=true->kC (d.holds.length+1) d ⟨s,t,x⟩=D:=λh=>by rw[<-hD];unfold cC;rw[if_pos h]
 have wU:FO d ⟨s,t,x⟩=(iC (cf d.ai s)&&iC (aU d.ao t)):=rfl;clear hD;refine kh eKs A Tryz.func152 ?_;cbv;refine yU q s (λz jr=>?_);rcases oK N hs jr with⟨rfl,hb⟩|⟨i,w,hz,hw,vB,e1,e2⟩
 .have Y:=P gg;subst Y;have K:=hk h j r o l y p B H E C J F (Le.refl _) q;cbv;rw[Sb];cbv;exact K
 have aZ:A .aQ .lss z 0=false:=hz.zO (A:=A);cbv;rw[aZ];cbv;refine(xi q).mono (λv h1 hR=>?_);obtain⟨l1,z2,rfl,wY⟩:=hR;have q1:=q.mono l1;rcases uo N.tw.gi wY with⟨rfl,hb,-⟩|⟨i2,tt,mf,ht,nG,g1,g2⟩
 .have Y:=P (by rw[wU,hb,Bool.and_false]);subst Y;have K:=hk h1 j r o l y p B H E C J F l1 q1;cbv;rw[Sb];cbv;exact K
 have uL:A .aQ .lss z2 0=false:=mf.zO (A:=A);have Y:=ja gg;have ak:dQU n ⟨s,t,x⟩ D d.holds.length (d.holds.length+1) d:=⟨hC,hO.holds,kXj (gS _ _) hO.waits,by have:=hO.waits;omega,⟨w,kQR hw,vB⟩,Y,ip,rfl⟩;obtain⟨I,gX⟩:∃I:Nat->G4->ad->Prop,∀m g h',I m g h'=∃L f,Le h h'/\RP h' g.b1 g.n1 g.c1 g.b2 g.n2 g.c2 g.b3 g.n3 g.c3 g.b4 g.n4 g.c4 L/\dQU n ⟨s,t,x⟩ D m f L:=⟨_,λ_ _ _=>rfl⟩;have hJ:I d.holds.length ⟨j,r,o,l,y,p,B,H,E,C,J,F⟩ h1:=gg
 clear ja P Y ak jr wY wU;cbv;rw[uL];cbv;refine ba.gz (G:=G4) (λg=>[]) (λg=>[(4,[.slice g.b1 g.n1 g.c1,.slice g.b2 g.n2 g.c2,.slice g.b3 g.n3 g.c3,.slice g.b4 g.n4 g.c4]),(8,[.zN,.zN,.zN,.zN])]) (λm g h'=>I m g h') d.holds.length ⟨j,r,o,l,y,p,B,H,E,C,J,F⟩ hJ ?_
 intro m g h' N;rw[gX]at N;cbv;obtain⟨L,f,R,O,U⟩:=N;obtain⟨j,r,o,l,y,p,B,H,E,C,J,F⟩:=g;have O:RP h' j r o l y p B H E C J F L:=O;obtain⟨M,X,XY,an,lG,aw,qV,CO⟩:=PW U hn;have Ef:=O.holds.len;have aq:=O.waits.len;have Vf:=U.hb;have ar:=U.wc;have ag:=U.sc.hu;have ED:=U.ms;have eT:M.ao=L.ao:=by rw[X]
 have eW:M.ai=L.ai:=by rw[X]
 have eH:M.holds=cT L.holds ⟨s,t,x⟩:=by rw[X]
 have ao:M.waits=cW L.holds L.waits ⟨s,t,x⟩:=by rw[X]
 have W:∀m' T S (g:G4) V,Le h V->RP V g.b1 g.n1 g.c1 g.b2 g.n2 g.c2 g.b3 g.n3 g.c3 g.b4 g.n4 g.c4 S->dQU n ⟨s,t,x⟩ D m' T S->I m' g V:=λm' T S g V a b c=>gg
 clear X gX U;refine cJL O.holds O.waits ip ip ag s t x (λh2 e3 m3 f3 e4 m4 f4 u l2 hu v3 v4=>?_);rw[<-eH]at v3;rw[<-ao]at v4;have q2:RP h2 j r o l y p e3 m3 f3 e4 m4 f4 M:=⟨by rw[eT];exact(O.mono l2).ao,by rw[eW];exact(O.mono l2).ai,v3,v4⟩;have OM:=v3.len;have BY:=v4.len;cases u with
 |true=>have Y:=qV hu.symm;subst Y;have K:=hk h2 j r o l y p e3 m3 f3 e4 m4 f4 (R.trans l2) q2;clear qV CO W;cbv;exact K
 |false=>
  obtain⟨oT,Z⟩:=CO hu.symm;cbv;refine TM v3 v4 ip ip s (λV v tv l3 hv=>?_);have oT:tv=false->D=(M,16):=λe=>oT (by
   grind)
  have Z:=λe:tv=true=>Z (by
   grind) v (by
   grind)
  have q3:=q2.mono l3;cases tv with
  |false=>
   have Q:A .not false=true:=by rw[hA.not];rfl
   have Y:=oT rfl;subst Y;have K:=hk V j r o l y p e3 m3 f3 e4 m4 f4 ((R.trans l2).trans l3) q3;clear qV W Z;cbv;rw[Q];cbv;exact K
  |true=>
   have Q:A .not true=false:=by rw[hA.not];rfl
   obtain⟨r1,r2,r3,r4,r5⟩:=Z rfl;have r4:v=s->D=(jo M v,17):=r4;have r5:v≠s->∃m' T,m'<m/\dQU n ⟨s,t,x⟩ D m' T (jo M v):=r5;have fe:A .aQ .eql v s=decide (v=s):=au A ..;clear Z oT qV;generalize jo M v=S at *;cbv;rw[Q];cbv;refine zM q3 an v ⟨r2,r3⟩ r1 (λh4 j r o l y p B H E C J F l4 q4=>?_);have q4:RP h4 j r o l y p B H E C J F S:=q4;have ab:=((R.trans l2).trans l3).trans l4;cbv;rw[fe];by_cases OI:v=s
   .have Y:=r4 OI;subst Y;have K:=hk h4 j r o l y p B H E C J F ab q4;clear W;rw[kS OI];cbv;exact K
   obtain⟨m',T,Gs,al⟩:=r5 OI;have N:=W m' T S ⟨j,r,o,l,y,p,B,H,E,C,J,F⟩ h4 ab q4 al;clear W;rw[kQW OI];cbv;refine zqn m' ⟨j,r,o,l,y,p,B,H,E,C,J,F⟩ Gs N
structure yB(n:Nat)(hd:bZ)(d1:DB)(i:Nat)(w:eJ)(j:Nat)(t:bS):Prop where
 sc:SC d1
 ok:sW (n+1) d1
 wi:d1.ai[i]? =some w
 ws:w.s=hd.s
 bi:dE (cf d1.ai hd.s)=i
 tj:d1.ao[j]? =some t
 tn:t.S.name=hd.table
 bj:dE (aU d1.ao hd.table)=j
 hl:∃x∈d1.holds,x.s=hd.s/\x.table=hd.table/\(x.x|| !hd.x)=true
theorem jN(C:SC d)(O:sW n d)(s:-2^63<=hd.s/\hd.s<2^63)(h:cC d hd=(a,0)):∃i w j t,yB n hd a i w j t:=by
 obtain⟨b,e⟩:=MX C hd s;have c:=Bo O s (by rw[h]);have f:=(oS O hd s).ok;rw[h]at b e c f;obtain⟨w,m,g⟩:=xL b.mX s c.2;have Z:=jk c.1;obtain⟨t,l⟩:=ay (xs:=a.ao) (i:=dE (aU a.ao hd.table)) (by simpa[aU]using Z);have k:t.S.name=hd.table:=by
  grind [iC,aU,dE,dy,mO]
 exact⟨_,w,_,t,⟨b,f,m,g,rfl,l,k,rfl,e rfl⟩⟩
theorem xF{t:bS}(h:cC d hd=(a,0))(g:yB n hd a i w j t)(act:bS->bS×cR×Int):
 eG d hd act=if decide ((act t).2.2≠19)&&decide ((w.log.length:Int)>=60)then(a,4)else if decide ((act t).2.2=0)=true then
  (⟨a.ao.set j (act t).1,a.ai.set i ⟨w.s,w.log++[⟨hd.table,(act t).2.1.op,(act t).2.1.row⟩],w.marks⟩,a.holds,a.waits⟩,0)else(a,(act t).2.2):=by
 unfold eG;rw[h];simp only[ne_eq,not_true_eq_false,decide_false,kXk,if_false];rw[g.bj,g.bi,g.tj,g.wi]
theorem jB{e:Int}(h:cC d hd=(a,e))(b:e≠0)(act:bS->bS×cR×Int):eG d hd act=(a,e):=by
 grind [eG]
theorem Xq{S:rM}(d:S.cols=bI)(c:S.key=0){R:List Row}(h:SO R)(b:gC r\/r.length≠2):(bL ⟨S,R⟩ r).2≠19/\((bL ⟨S,R⟩ r).2=0->gC r):=by
 rcases b with b|b
 .refine⟨?_,λ_=>b⟩;have f:=b.fits;have B:=b;obtain⟨a,v,rfl,-⟩:=B;obtain⟨p,q⟩:=h.sr.at_ a;rw[jv (S:=S) c h.sr gg q]
  grind
 have f:eF S.cols r=1:=by
  unfold eF;have c:S.cols.length=2:=by rw[d];rfl
  grind
 grind [bL]
theorem Cx{t:bS}(h:cC d hd=(a,0))(g:yB n hd a i w j t)(C:hd.table≠tG)(l:gC r\/r.length≠2)(b:eG d hd (jA r)=D):
 ((w.log.length:Int)>=60->D=(a,4))/\(¬(w.log.length:Int)>=60->∀T:bS×Int,bL t r=T->(T.2≠0->D=(a,T.2))/\(T.2=0->gC r/\D=(⟨a.ao.set j T.1,a.ai.set i ⟨w.s,w.log++[⟨hd.table,1,r⟩],w.marks⟩,a.holds,a.waits⟩,0))):=by
 rw[xF h g]at b;obtain⟨c,k,-⟩:=g.sc.tw.ok t (kQR g.tj);obtain⟨e,f⟩:=c (by rw[g.tn];exact C);obtain⟨S,R⟩:=t
 grind [Xq,jA,bL]
theorem bZj{l p u w rb:Option Addr}{c B C G E H F rn rc:Nat}(q:RP h l c B p f C u G E w H F d)(hC:SC d)(hO:sW n d)(hn:n<=2^16)(s:Int)(nm:ByteArray)(rC:nm≠tG)(hs:-2^63<=s/\s<2^63)(qr:Sl 45 bG h (.slice rb rn rc) r)(hr:gC r\/r.length≠2)
  (W:oN d s nm r=D)  (hk:RK h D.1 D.2 k):
 Ct 153 [.agg #[.slice l c B,.slice p f C,.slice u G E,.slice w H F],.zI s,.string nm,.slice rb rn rc] h k:=by
 obtain⟨A,hA⟩:=Ar.ex;have W:eG d ⟨s,nm,true⟩ (jA r)=D:=W;obtain⟨⟨b,e⟩,hH⟩:∃X,cC d ⟨s,nm,true⟩=X:=⟨_,rfl⟩;have YN:A .aQ .neq e 0=decide (e≠0):=aJ A ..;refine kh eKr A Tryz.func153 ?_;cbv;refine Kl q hC hO hn ⟨s,nm,true⟩ hs hH (λh1 l c B p f C u G E w H F l1 t=>?_);have t:RP h1 l c B p f C u G E w H F b:=t;cbv;rw[YN];by_cases he:e=0
 .subst he;obtain⟨i,⟨ws,wl,wm⟩,j,⟨⟨K,tc,tk,N⟩,R⟩,g⟩:=jN hC hO hs hH;obtain⟨O,P⟩:=Cx hH g rC hr W;have M:SI b:=g.sc.si g.ok ip;obtain⟨t0,t3,-⟩:=g.sc.tw.ok _ (kQR g.tj);obtain⟨t1,t2⟩:=t0 (by rw[g.tn];exact rC);have t1:tc=bI:=t1;have t2:tk=0:=t2;have t3:SO R:=t3;subst t1 t2;have vB:ws=s:=g.ws;have MP:K=nm:=g.tn;have L:=g.wi;have tj:=g.tj;have EB:=mH M.gi L;have vd:b.ai.length<=8:=mG M.gi M.mX;have Ap:b.ao.length<=8:=M.tw.le;have nP:=(M.log _ (kQR L)).2;have nP:wl.length<=60:=nP;have ic:i<b.ai.length:=(HH.1 L).1;have pE:j<b.ao.length:=(HH.1 tj).1;have O:(wl.length:Int)>=60->D=(b,4):=O;have P:¬(wl.length:Int)>=60->∀T:bS×Int,bL ⟨⟨K,bI,0,N⟩,R⟩ r=T->(T.2≠0->D=(b,T.2))/\(T.2=0->gC r/\D=(⟨b.ao.set j T.1,b.ai.set i ⟨ws,wl++[⟨nm,1,r⟩],wm⟩,b.holds,b.waits⟩,0)):=P;have fA:f=b.ai.length:=t.ai.len;have fG:c=b.ao.length:=t.ao.len;have fN:i<f:=ip
  have ab:j<c:=ip
  have ag:b.ao.length<=2^30:=ip
  have ao:b.ai.length<=2^30:=ip
  have an:wl.length<=2^30:=ip
  have al:0<f:=ip
  have zU:0<c:=ip
  clear W;rw[kQW io];cbv;refine yU t s (λz jr=>?_);rcases oK M hs jr with⟨-,hb⟩|⟨i',w',hz,PO,ax,-,-⟩
  .have:=(kP M.gi M.mX hs).2 ⟨_,kQR L,vB⟩;rw[hb]at this;cases this
  obtain rfl:i'=i:=EB i' w' PO gg;have eL:p.isSome=true/\0<=z/\z<(f:Int):=⟨t.ai.bu al,hz.ix fN⟩;have dI:=hz.eq;cbv;refine⟨eL,?_⟩;cbv;refine t.ai.cI L dI (o:=1) (m:=1) dl (λcs ar=>?_);obtain⟨u1,v1,w1,u2,v2,w2,rfl,sl,-⟩:=ar;have ak:v1=wl.length:=sl.len;have aq:A .aQ .geq (A .nat v1) 60=decide ((wl.length:Int)>=60):=by rw[cF A,hA.nat,ak];rfl
  cbv;rw[aq];by_cases U:(wl.length:Int)>=60
  .have Y:=O U;subst Y;have I:=hk h1 l c B p f C u G E w H F l1 t;clear O P;rw[kS U];cbv;exact I
  obtain⟨T,hT⟩:∃T,bL ⟨⟨K,bI,0,N⟩,R⟩ r=T:=⟨_,rfl⟩;obtain⟨Q,S⟩:=P U T hT;have Sz:T.1.S=⟨K,bI,0,N⟩:=by rw[<-hT];exact lY _ _
  clear O P jr;rw[kQW U];cbv;refine(xi t).mono (λv h2 hR=>?_);obtain⟨l2,z2,rfl,wY⟩:=hR;have q2:=t.mono l2;rcases uo M.tw.gi wY with⟨-,-,oT⟩|⟨j',t',mf,Bi,nG,-,-⟩
  .exact absurd MP (oT _ (kQR tj))
  obtain rfl:j'=j:=by
   obtain⟨a1,-⟩:=qE M.tw.gi Bi;obtain⟨a2,-⟩:=qE M.tw.gi tj
   grind
  have jW:l.isSome=true/\0<=z2/\z2<(c:Int):=⟨q2.ao.bu zU,mf.ix ab⟩;have HF:=mf.eq;clear wY;cbv;refine⟨jW,?_⟩;cbv;refine q2.ao.load tj HF (λcs ar=>?_);obtain⟨x1,y1,z1,x2,y2,z3,rfl,s1,s2⟩:=ar;have s1:Sl 202 bJ h2 (.slice x1 y1 z1) bI:=s1;have s2:Sl 46 bK h2 (.slice x2 y2 z3) R:=s2;have Kh:=l1.trans l2;obtain⟨TT,J⟩:=T;obtain⟨TS,TR⟩:=TT;have Sz:TS=⟨K,bI,0,N⟩:=Sz;subst Sz;cbv;refine Yy s1 s2 t3 (qr.mono (Kh.t _)) hr hT (λh3 x3 y3 w3 l3 s3=>?_);have s3:Sl 46 bK h3 (.slice x3 y3 w3) TR:=s3;have q3:=q2.mono l3;have aw:A .aQ .neq J 0=decide (J≠0):=aJ A ..;have Q:J≠0->D=(b,J):=Q;have S:J=0->gC r/\D=(⟨b.ao.set j' ⟨⟨K,bI,0,N⟩,TR⟩,b.ai.set i' ⟨ws,wl++[⟨nm,1,r⟩],wm⟩,b.holds,b.waits⟩,0):=S;cbv;rw[aw];by_cases V:J=0
  .obtain⟨CL,Y⟩:=S V;subst Y;have uf:r.length=2:=by obtain⟨a,v,rfl,-⟩:=CL;rfl
   have Z:=Kh.trans l3;clear Q S;rw[kQW (iu V)];cbv;refine JN q3 ag mf pE (s1.mono (l3.t _)) s3 (λh4 l c B p f C u G E w H F l4 q4=>?_);cbv;refine RY q4 ao L vB (λj y hy he=>EB j y hy gg) an (x:=⟨nm,1,r⟩) ((qr.mono (Z.t _)).mono (l4.t _)) uf (λh5 l c B p f C u G E w H F l5 q5=>?_);have I:=hk h5 l c B p f C u G E w H F ((Z.trans l4).trans l5) q5;cbv;exact I
  have Y:=Q V;subst Y;have I:=hk h3 l c B p f C u G E w H F (Kh.trans l3) q3;clear Q S;rw[kS V];cbv;exact I
 have Y:D=(b,e):=by grind [jB]
 subst Y;have I:=hk h1 l c B p f C u G E w H F l1 t;rw[kS he];cbv;exact I
theorem zE{b:DB}{t:bS}(h:cC d hd=(b,0))(g:yB n hd b i w j t){a:Int}(C:hd.table≠tG)(f:eG d hd (fC ⟨2,a,dQ⟩)=D):
 (t.S.only=true->D=(b,19))/\(t.S.only=false->((w.log.length:Int)>=60->D=(b,4))/\(¬(w.log.length:Int)>=60->∀T:bS×Row×Int,bE t ⟨2,a,dQ⟩=T->(T.2.2≠0->D=(b,T.2.2))/\(T.2.2=0->gC T.2.1/\D=(⟨b.ao.set j T.1,b.ai.set i ⟨w.s,w.log++[⟨hd.table,2,T.2.1⟩],w.marks⟩,b.holds,b.waits⟩,0)))):=by
 rw[xF h g]at f;obtain⟨l,c,-⟩:=g.sc.tw.ok t (kQR g.tj);obtain⟨v,m⟩:=l (by rw[g.tn];exact C);obtain⟨S,R⟩:=t;refine⟨λo=>?_,λo=>?_⟩
 .grind [fC,dQ,jx]
 have o:S.only=false:=o;have e:fC ⟨2,a,dQ⟩ ⟨S,R⟩=((bE ⟨S,R⟩ ⟨2,a,dQ⟩).1,⟨jx,2,(bE ⟨S,R⟩ ⟨2,a,dQ⟩).2.1⟩,(bE ⟨S,R⟩ ⟨2,a,dQ⟩).2.2):=by grind [fC]
 rw[e]at f;obtain⟨p,q⟩:=c.sr.at_ a;have s:=je (S:=S) m c.sr q;have e1:(bE ⟨S,R⟩ ⟨2,a,dQ⟩).2.2≠19/\((bE ⟨S,R⟩ ⟨2,a,dQ⟩).2.2=0->gC (bE ⟨S,R⟩ ⟨2,a,dQ⟩).2.1):=by
  rw[s];by_cases k:jO R a p=true
  .rw[if_pos k];refine⟨io,λ_=>?_⟩;show gC ((R[p]?).getD []);unfold jO at k;cases u:R[p]? with
   |none=>grind
   |some r=>exact c.ok r (kQR u)
  grind
 grind
theorem bKh{l p r t:Option Addr}{c u w E B F C:Nat}(q:RP h l c u p f w r E B t F C d)(hC:SC d)(hO:sW n d)(hn:n<=2^16)(s:Int)(nm:ByteArray)(rC:nm≠tG)(a:Int)(hs:-2^63<=s/\s<2^63)
  (hD:lZ d s nm ⟨2,a,dQ⟩=D)  (S:RK h D.1 D.2 k):
 Ct 155 [.agg #[.slice l c u,.slice p f w,.slice r E B,.slice t F C],.zI s,.string nm,.agg #[.zI 2,.zI a,.string dQ]] h k:=by
 obtain⟨A,hA⟩:=Ar.ex;have hD:eG d ⟨s,nm,true⟩ (fC ⟨2,a,dQ⟩)=D:=hD;obtain⟨⟨b,e⟩,hH⟩:∃X,cC d ⟨s,nm,true⟩=X:=⟨_,rfl⟩;have YN:A .aQ .neq e 0=decide (e≠0):=aJ A ..;refine kh eKq A Tryz.func155 ?_;cbv;refine Kl q hC hO hn ⟨s,nm,true⟩ hs hH (λh1 l c u p f w r E B t F C l1 I=>?_);have I:RP h1 l c u p f w r E B t F C b:=I;cbv;rw[YN];by_cases he:e=0
 .subst he;obtain⟨i,⟨ws,wl,wm⟩,j,⟨⟨N,tc,tk,P⟩,R⟩,g⟩:=jN hC hO hs hH;obtain⟨U,H⟩:=zE hH g rC hD;have M:SI b:=g.sc.si g.ok ip;obtain⟨t0,t3,-⟩:=g.sc.tw.ok _ (kQR g.tj);obtain⟨t1,t2⟩:=t0 (by rw[g.tn];exact rC);have t1:tc=bI:=t1;have t2:tk=0:=t2;have t3:SO R:=t3;subst t1 t2;have vB:ws=s:=g.ws;have MP:N=nm:=g.tn;have O:=g.wi;have Z:=g.tj;have EB:=mH M.gi O;have vd:b.ai.length<=8:=mG M.gi M.mX;have Ap:b.ao.length<=8:=M.tw.le;have nP:=(M.log _ (kQR O)).2;have nP:wl.length<=60:=nP;have ic:i<b.ai.length:=(HH.1 O).1;have pE:j<b.ao.length:=(HH.1 Z).1;have U:P=true->D=(b,19):=U;have K:P=false->(wl.length:Int)>=60->D=(b,4):=λh=>(H h).1;have H:P=false->¬(wl.length:Int)>=60->∀T:bS×Row×Int,bE ⟨⟨N,bI,0,P⟩,R⟩ ⟨2,a,dQ⟩=T->(T.2.2≠0->D=(b,T.2.2))/\(T.2.2=0->gC T.2.1/\D=(⟨b.ao.set j T.1,b.ai.set i ⟨ws,wl++[⟨nm,2,T.2.1⟩],wm⟩,b.holds,b.waits⟩,0)):=λh=>(H h).2;have fA:f=b.ai.length:=I.ai.len;have fG:c=b.ao.length:=I.ao.len;have fN:i<f:=ip
  have ab:j<c:=ip
  have ag:b.ao.length<=2^30:=ip
  have aq:b.ai.length<=2^30:=ip
  have ao:wl.length<=2^30:=ip
  have an:0<f:=ip
  have zU:0<c:=ip
  have aw:R.length<=200:=t3.le;clear hD;rw[kQW io];cbv;refine(xi I).mono (λv h2 hR=>?_);obtain⟨l2,z2,rfl,wY⟩:=hR;have J:=I.mono l2;rcases uo M.tw.gi wY with⟨-,-,oT⟩|⟨j',t',mf,Bi,nG,-,-⟩
  .exact absurd MP (oT _ (kQR Z))
  obtain rfl:j'=j:=by
   obtain⟨a1,-⟩:=qE M.tw.gi Bi;obtain⟨a2,-⟩:=qE M.tw.gi Z
   grind
  have jW:l.isSome=true/\0<=z2/\z2<(c:Int):=⟨J.ao.bu zU,mf.ix ab⟩;have HF:=mf.eq;have Kh:=l1.trans l2;clear wY;cbv;refine⟨jW,?_⟩;cbv;refine J.ao.CE Z HF (o1:=0) (o2:=3) (m:=1) dl (λcs Q=>?_);obtain⟨x1,y1,z1,x2,y2,z3,rfl,s1,s2⟩:=Q;cbv;cases P with
  |true=>have Y:=U rfl;subst Y;have G:=S h2 l c u p f w r E B t F C Kh J;clear U K H;cbv;exact G
  |false=>
   have K:=K rfl;have H:=H rfl;clear U;cbv;refine yU J s (λz jr=>?_);rcases oK M hs jr with⟨-,hb⟩|⟨i',w',hz,PO,aB,-,-⟩
   .have:=(kP M.gi M.mX hs).2 ⟨_,kQR O,vB⟩;rw[hb]at this;cases this
   obtain rfl:i'=i:=EB i' w' PO gg;have eL:p.isSome=true/\0<=z/\z<(f:Int):=⟨I.ai.bu an,hz.ix fN⟩;have dI:=hz.eq;clear jr;cbv;refine⟨eL,?_⟩;cbv;refine J.ai.cI O dI (o:=1) (m:=1) dl (λcs Q=>?_);obtain⟨u1,v1,w1,u2,v2,w2,rfl,sl,-⟩:=Q;have ak:v1=wl.length:=sl.len;have ax:A .aQ .geq (A .nat v1) 60=decide ((wl.length:Int)>=60):=by rw[cF A,hA.nat,ak];rfl
   cbv;rw[ax];by_cases GG:(wl.length:Int)>=60
   .have Y:=K GG;subst Y;have G:=S h2 l c u p f w r E B t F C Kh J;clear K H;rw[kS GG];cbv;exact G
   obtain⟨T,hT⟩:∃T,bE ⟨⟨N,bI,0,false⟩,R⟩ ⟨2,a,dQ⟩=T:=⟨_,rfl⟩;obtain⟨V,W⟩:=H GG T hT;have Sz:T.1.S=⟨N,bI,0,false⟩:=by rw[<-hT];exact lE _ _
   clear K H;rw[kQW GG];cbv;refine⟨jW,?_⟩;cbv;refine J.ao.load Z HF (λcs Q=>?_);obtain⟨x1,y1,z1,x2,y2,z3,rfl,s1,s2⟩:=Q;have s1:Sl 202 bJ h2 (.slice x1 y1 z1) bI:=s1;have s2:Sl 46 bK h2 (.slice x2 y2 z3) R:=s2;obtain⟨TT,tr,L⟩:=T;obtain⟨TS,TR⟩:=TT;have Sz:TS=⟨N,bI,0,false⟩:=Sz;subst Sz;cbv;refine Rq s2 t3.sr aw a hT (λh3 x3 y3 w3 x4 y4 w4 l3 s3 s4=>?_);have s3:Sl 46 bK h3 (.slice x3 y3 w3) TR:=s3;have s4:Sl 45 bG h3 (.slice x4 y4 w4) tr:=s4;have q3:=J.mono l3;have aA:A .aQ .neq L 0=decide (L≠0):=aJ A ..;have V:L≠0->D=(b,L):=V;have W:L=0->gC tr/\D=(⟨b.ao.set j' ⟨⟨N,bI,0,false⟩,TR⟩,b.ai.set i' ⟨ws,wl++[⟨nm,2,tr⟩],wm⟩,b.holds,b.waits⟩,0):=W;cbv;rw[aA];by_cases Gk:L=0
   .obtain⟨CL,Y⟩:=W Gk;subst Y;have uf:tr.length=2:=by obtain⟨a,v,rfl,-⟩:=CL;rfl
    have al:=Kh.trans l3;clear V W;rw[kQW (iu Gk)];cbv;refine JN q3 ag mf pE (s1.mono (l3.t _)) s3 (λh4 l c u p f w r E B t F C l4 q4=>?_);cbv;refine RY q4 aq O vB (λj y hy he=>EB j y hy (by rw[he];exact vB.symm)) ao (x:=⟨nm,2,tr⟩) (s4.mono (l4.t _)) uf (λh5 l c u p f w r E B t F C l5 q5=>?_);have G:=S h5 l c u p f w r E B t F C ((al.trans l4).trans l5) q5;cbv;exact G
   have Y:=V Gk;subst Y;have G:=S h3 l c u p f w r E B t F C (Kh.trans l3) q3;clear V W;rw[kS Gk];cbv;exact G
 have Y:D=(b,e):=by grind [jB]
 subst Y;have G:=S h1 l c u p f w r E B t F C l1 I;rw[kS he];cbv;exact G
theorem bKB{b c f l:Option Addr}{a m t o u p x r:Nat}(q:RP h b a m c t o f u p l x r d)(N:SC d)(O:sW n d)(hn:n<=2^16)(s:Int)(nm:ByteArray)(rC:nm≠tG)(T:-2^63<=s/\s<2^63)
 {D:DB×List Row×Int} (E:qI d s nm=D) 
 (S:∀h' b a m c t o f u p l x r rb rn rc,Le h h'->RP h' b a m c t o f u p l x r D.1->Sl 46 bK h' (.slice rb rn rc) D.2.1->k (.tuple #[.agg #[.slice b a m,.slice c t o,.slice f u p,.slice l x r],.slice rb rn rc,.zI D.2.2]) h'):
 Ct 157 [.agg #[.slice b a m,.slice c t o,.slice f u p,.slice l x r],.zI s,.string nm] h k:=by
 obtain⟨A,hA⟩:=Ar.ex;obtain⟨⟨y,e⟩,H⟩:∃X,cC d ⟨s,nm,false⟩=X:=⟨_,rfl⟩;have YN:A .aQ .neq e 0=decide (e≠0):=aJ A ..;unfold qI at E;rw[H]at E;refine kh eKo A Tryz.func157 ?_;cbv;refine Kl q N O hn ⟨s,nm,false⟩ T H (λL b a m c t o f u p l x r U z=>?_);have z:RP L b a m c t o f u p l x r y:=z;cbv;rw[YN];by_cases P:e=0
 .subst P;obtain⟨i,w,j,⟨⟨tn,tc,tk,Rn⟩,R⟩,g⟩:=jN N O T H;have M:SI y:=g.sc.si g.ok ip;obtain⟨t0,B,-⟩:=g.sc.tw.ok _ (kQR g.tj);obtain⟨G,I⟩:=t0 (by rw[g.tn];exact rC);have G:tc=bI:=G;have I:tk=0:=I;have B:SO R:=B;subst G I;have MP:tn=nm:=g.tn;have J:=g.tj;have bj:dE (aU y.ao nm)=j:=g.bj;have Y:D=(y,R,0):=by
   grind
  subst Y;have Ap:y.ao.length<=8:=M.tw.le;have pE:j<y.ao.length:=(HH.1 J).1;have fG:a=y.ao.length:=z.ao.len;have K:j<a:=ip
  have zU:0<a:=ip
  have Q:R.length<=200:=B.le;clear E;rw[kQW io];cbv;refine(xi z).mono (λv h2 hR=>?_);obtain⟨V,z2,rfl,wY⟩:=hR;have F:=z.mono V;rcases uo M.tw.gi wY with⟨-,-,oT⟩|⟨j',t',Z,Bi,nG,-,-⟩
  .exact absurd MP (oT _ (kQR J))
  obtain rfl:j'=j:=by
   obtain⟨a1,-⟩:=qE M.tw.gi Bi
   grind
  have jW:b.isSome=true/\0<=z2/\z2<(a:Int):=⟨F.ao.bu zU,Z.ix K⟩;have HF:=Z.eq;have Kh:=U.trans V;clear wY;cbv;refine⟨jW,?_⟩;cbv;refine F.ao.load J HF (λcs ar=>?_);obtain⟨x1,y1,z1,x2,y2,z3,rfl,s1,s2⟩:=ar;have s2:Sl 46 bK h2 (.slice x2 y2 z3) R:=s2;cbv;refine aJv s2 B.sr Q (λh3 x3 y3 w3 W s3=>?_);have C:=S h3 b a m c t o f u p l x r x3 y3 w3 (Kh.trans W) (F.mono W) s3;cbv;exact C
 have Y:D=(y,[],e):=gg
 subst Y;have C:=S L b a m c t o f u p l x r none 0 0 U z Sl.nil;rw[kS P];cbv;exact C
end Go.S
