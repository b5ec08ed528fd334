import Derived.Test.YthnbpiejemlbeaaGreatBF
set_option linter.all false
set_option maxRecDepth 100000
set_option maxHeartbeats 4000000
namespace Go.S
open Go.Sx Go.Proofs
variable {A:Ar}{id m u z:Int}{L:List cV}{a c e1 i j n p:Nat}{b:Option Addr}{s:St}{k:Value->ad->Prop}{h h':ad}
structure kP(h:ad)(p:Nat)(s:St):Prop where
 out:∃bb n c l z i err,h p=zcL 370 [.slice bb n c,.int .i64 z,.int .i64 err]/\Sl 5 cj h (.slice bb n c) l/\aZ z i/\i<=n/\s=if err=0 then some (l.drop i)else none
theorem MY{l:Bs}(q:Sl 5 cj h (.slice b n c) l)
 (f:∀h' p,h p=none->Le h h'->kP h' p (some l)->k (.zP p) h'):Ct 197 [.slice b n c] h k:=by
 refine cg eZk Tryz.func197 λA g=>?_;cbv;intro p a d e1;have e:Le h a:=by rw[e1];exact Le.set d
 have:=f a p d e ⟨b,n,c,l,0,0,0,(congrFun e1 p).trans ae,q.mono (e.t _),⟨rfl⟩,nr _,rfl⟩;clear e1;cbv;exact this
theorem kP.wr{c:List Value}{bb:Option Addr}{cc:Nat}{l:Bs}{err:Int}(g:h p=zcL 370 c)(e:h'=bL h p (.cells #[.slice bb n cc,.int .i64 z,.int .i64 err] 370 (0,0)))(sl:Sl 5 cj h (.slice bb n cc) l)(d:aZ z i)(a:i<=n)(b:s=if err=0 then some (l.drop i)else none):Kp [p] h h'/\kP h' p s/\cO [5] h h':=by
 have t:cO [5] h h':=by rw[e];exact cO.set g (by decide)
 exact⟨by rw[e];exact Kp.set (by simp),⟨bb,n,cc,l,z,i,err,(congrFun e p).trans ae,sl.mono t,d,a,b⟩,t⟩
theorem IX(q:kP h p s)(H:aZ z n)
 (j:∀h' b m c,Kp [p] h h'->kP h' p (eP n s).2->Sl 5 cj h' (.slice b m c) (eP n s).1->k (.slice b m c) h'):Ct 297 [.zP p,.int .i64 z] h k:=by
 obtain⟨A,L⟩:=Ar.ex;obtain⟨bb,m,c,l,u,i,err,g,sl,E,hi,t⟩:=q.out;have N:=sl.len;have jQ:=sl.bound;have I:A .aN .eql err 0=decide (err=0):=au A ..;have fn:A .aN .neq err 0=decide (err≠0):=az A ..;refine fU A [3] (aj eQy.aw eQy.bq) Tryz.func297 rfl (by kernel_rfl) ?_;have g0:=g;obtain⟨C,D⟩:∃C:Int->ad->Prop,∀e h',C e h'=(h' p=zcL 370 [.slice bb m c,.int .i64 u,.int .i64 e]/\Kp [p] h h'/\cO [5] h h'/\(e=0->i+n<=m/\eP n s=((l.drop i).take n,some ((l.drop i).drop n)))/\(e≠0->eP n s=([],none))):=⟨_,λ_ _=>rfl⟩;cbv;refine ld.go (G:=Int) (λ_=>[]) (λ_=>[]) C ?_ ?_
 .cbv;rw[av A];refine cr g ?_;cbv;rw[I];by_cases a:err=0
  .rw[if_pos a]at t;have f1:A .aN .lss (A .aT .sub .i64 (A .nat m) u) z=decide (m-i<n):=by rw[aR A,L.aT,L.nat,E.eq,H.eq];refine decide_eq_decide.2 ?_;show IntKind.i64.wrap ((m:Int)-(i:Int))<(n:Int)↔_;rw[IntWalk.i64_in _ (by omega)];omega
   subst t a;have T:eP n (some (l.drop i))=if n<=(l.drop i).length then((l.drop i).take n,some ((l.drop i).drop n))else([],none):=rfl
   rw[iz]at T;rw[ak rfl];cbv;rw[av A];refine cr g ?_;cbv;rw[av A];refine cr g ?_;cbv;rw[f1];by_cases M:m-i<n
   .rw[if_neg (by omega)]at T;have d:∀h',h'=bL h p (.cells #[.slice bb m c,.int .i64 u,.int .i64 8] 370 (0,0))->C 8 h':=λh' e=>by
     rw[D];exact⟨(congrFun e p).trans ae,by rw[e];exact Kp.set (by simp),by rw[e];exact cO.set g (by decide),λr=>absurd r (by decide),λ_=>T⟩
    rw[ak M];clear D j T;cbv;rw[av A];refine ju g (kB _) (λF e1=>?_);have d:=d F e1;clear e1;cbv;refine⟨8,by constructor<;>cbv,d⟩
   rw[if_pos (by omega)]at T;have d:C 0 h:=by rw[D];exact⟨g,Kp.refl _ _,cO.refl _ _,λ_=>⟨by omega,T⟩,λr=>absurd rfl r⟩
   rw[bn M];clear D j T;cbv;refine⟨0,by constructor<;>cbv,d⟩
  rw[if_neg a]at t;subst t;have d:C err h:=by rw[D];exact⟨g,Kp.refl _ _,cO.refl _ _,λr=>absurd r a,λ_=>rfl⟩
  rw[bn a];clear D j;cbv;refine⟨err,by constructor<;>cbv,d⟩
 intro e F d;rw[D]at d;cbv;obtain⟨o,R,t1,Z,c1⟩:=d;have fe:A .aN .neq e 0=decide (e≠0):=az A ..;have J:=sl.mono (t1.sub);clear D C I fn t;rw[av A];refine cr o ?_;cbv;rw[fe];by_cases a:e≠0
 .rw[ak a];have T:=c1 a;rw[T]at j;have:=j F none 0 0 R ⟨bb,m,c,l,u,i,e,o,J,E,hi,by rw[if_neg a]⟩ Sl.nil;cbv;exact this
 rw[bn a];have a:e=0:=by omega
 obtain⟨fC,T⟩:=Z a;rw[T]at j;subst a;obtain⟨w,P⟩:∃w,w=A .aT .add .i64 u z:=⟨_,rfl⟩;have f:aZ w (i+n):=by rw[P];exact E.add (A:=A) H (by omega)
 obtain⟨v,O⟩:∃v,v=A .aT .sub .i64 w z:=⟨_,rfl⟩;have Q:aZ v i:=by
  have:=f.sub (A:=A) H (by omega) (by omega);rw[<-O]at this;have e:i+n-n=i:=by omega
  rw[e]at this;exact this
 obtain⟨V,U⟩:∃x,x=n:=⟨n,rfl⟩;obtain⟨c2,S⟩:∃x,x=c-i:=⟨_,rfl⟩;have Y:A .nt w v=V:=by rw[JO (A:=A) f Q,U];omega
 have X:A .nt (A .nat c) v=c2:=by rw[cJ (A:=A) Q,S]
 have ey:0<=w/\w<=(c:Int)/\0<=v/\v<=w:=by have:=f.eq;have:=Q.eq;omega
 have W:=(J.jD (A:=A) Q (by omega) (m:=m-i) rfl S).short (m:=V) (by omega);rw[U]at W;cbv;rw[av A];refine cr o ?_;cbv;rw[av A,<-P];refine ju o (by show 2<=3;decide) (λK y=>?_);obtain⟨k2,r2,t2⟩:=kP.wr (s:=some ((l.drop i).drop n)) (bb:=bb) (n:=m) (cc:=c) (l:=l) (z:=w) (i:=i+n) (err:=0) o y J f (by omega) (by rw[if_pos rfl,jKS]);have B:K p=zcL 370 [.slice bb m c,.int .i64 w,.int .i64 0]:=(congrFun y p).trans ae;have:=j K _ _ _ (R.trans k2) r2 (W.mono (t2.sub));clear y j;cbv;rw[av A];refine cr B ?_;cbv;rw[av A];refine cr B ?_;cbv;rw[av A,<-O];refine cr B ?_;cbv;refine⟨ey,?_⟩;cbv;rw[Y,X,U];exact this
def jt(s:St):jd×St:=
 if(aO 1 s).1=0 then(⟨0,0,⟨#[]⟩⟩,(aO 1 s).2)
 else if(aO 1 s).1=1 then(⟨1,((aO 1 (aO 1 s).2).1:Int),⟨#[]⟩⟩,(aO 1 (aO 1 s).2).2)
 else if(aO 1 s).1=2 then(⟨2,IntKind.i64.wrap ((aO 8 (aO 1 s).2).1:Int),⟨#[]⟩⟩,(aO 8 (aO 1 s).2).2)
 else if(aO 1 s).1=3 then(⟨3,0,strOf (bm (aO 1 s).2).1⟩,(bm (aO 1 s).2).2)
 else(⟨((aO 1 s).1:Int),0,⟨#[]⟩⟩,none)
def fy:Nat->St->Row×St
 |0,s=>([],s)
 |n+1,s=>((jt s).1::(fy n (jt s).2).1,(fy n (jt s).2).2)
def jJ(r:Row×St):Option Row:=if r.2=some []then if r.1.all (λv=>decide (dR v=0))=true then some r.1 else none else none
def gz(b:Bs):Option Row:=
 if(aO 1 (some b)).1>6 then jJ (fy 0 none)else jJ (fy (aO 1 (some b)).1 (aO 1 (some b)).2)
theorem CP{s:List Int}(q:Sl 3 dD h (.slice b n c) s)(W:n<=8)(C:∀h' a n' c',Le h h'->bt 5 cj h h' (.slice a n' c') (s.map cF).flatten->k (.slice a n' c') h'):
 Ct 255 [.slice none 0 0,.slice b n c] h k:=by
 have E:=q.len;obtain⟨J,D⟩:∃J:Nat->((Option Addr×Nat×Nat)×Int)->ad->Prop,∀w g h',J w g h'=(∃i,aZ g.2 i/\w=n-i/\i<=n/\Le h h'/\bt 5 cj h h' (.slice g.1.1 g.1.2.1 g.1.2.2) ((s.take i).map cF).flatten/\((s.take i).map cF).flatten.length=8*i):=⟨_,λ_ _ _=>rfl⟩;have m:J n ((none,0,0),0) h:=by rw[D];exact⟨0,⟨rfl⟩,rfl,by omega,Le.refl _,bt.nil,rfl⟩
 refine cg eXm Tryz.func255 λA K=>?_;cbv;refine aX.go (G:=(Option Addr×Nat×Nat)×Int) (λg=>[(0,.v (.slice g.1.1 g.1.2.1 g.1.2.2)),(9,.v (.int .i64 g.2))]) (λ_=>[]) (λw g h'=>J w g h') n ((none,0,0),0) (by constructor<;>cbv) m ?_
 intro w g f I;rw[D]at I;cbv;obtain⟨⟨v,o,y⟩,z⟩:=g;obtain⟨i,d,Y,T,l,e,S⟩:=I;have d:aZ z i:=d;have e:bt 5 cj h f (.slice v o y) ((s.take i).map cF).flatten:=e;have Z:=e.sl.len;have u:A .aN .lss z (A .nat n)=decide (i<n):=by rw[aR A,d.eq,K.nat];exact decide_eq_decide.2 (by show(i:Int)<(n:Int)↔_;omega)
 rw[u];by_cases j:i<n
 .rw[ak j];obtain⟨x,hx⟩:=cB s i;have ix:=d.ix j;have V:b.isSome=true:=q.bp;have U:n-(i+1)<w:=by omega
  have X:∀a m' c' h',Le f h'->bt 5 cj f h' (.slice a m' c') (((s.take i).map cF).flatten++cF x)->J (n-(i+1)) ((a,m',c'),A .aT .add .i64 z 1) h':=λa m' c' h' N Q=>by
   rw[D];have B:((s.take (i+1)).map cF).flatten=((s.take i).map cF).flatten++cF x:=by rw[qM,hx];simp
   exact⟨i+1,d.succ (A:=A),rfl,j,l.trans N,by rw[B];exact Q.base l,by rw[B,cy,bY];omega⟩
  have P:o<=2^37:=by omega
  clear u D m;generalize ((s.take i).map cF).flatten=L at *;cbv;refine⟨⟨V,ix⟩,?_⟩;cbv;refine(q.mono (l.t _)).load hx d.eq (λcs r=>?_);have r:cs=[.int .i64 x]:=r;subst r;cbv;refine Nc e.sl P x (λH p F t O R=>?_);have M:=X p F t H O R;clear X;cbv;refine⟨_,((p,F,t),A .aT .add .i64 z 1),U,by constructor<;>cbv,M⟩
 rw[bn j];rw[ie (by omega)]at e;have:=C f v o y l e;clear D m C;cbv;exact this
structure yh(c:cV):Prop where
 row:c.row.length<=2^16
 bZL:c.table.size<=2^40
 val:∀x∈c.row,x.s.size<=2^40
theorem Zw(id:Int)(s:Nat)(c:cV):(Uh id s c).length<=2^18:=by unfold Uh;have h:=fO c.table;have a:=fO (strOf (gn c.row));have b:=bY id;have d:=bY (s:Int);simp only[cy,wS,yk];omega
theorem aQp{e:Nat}(T:aZ z e){t:ByteArray}{o:Int}{r:Row}(q:Sl 45 bA h (.slice b n c) r)(B:yh ⟨t,o,r⟩)
 (j:∀h' g,Le h h'->hl g=aQ (cU id e ⟨t,o,r⟩)->k (.agg (hl g).toArray) h'):
 Ct 134 [.int .i64 id,.int .i64 z,.agg #[.string t,.int .i64 o,.slice b n c]] h k:=by
 have p:=q.len;have tq:r.length<=2^16:=B.row;have ni:t.size<=2^40:=B.bZL;have Z:∀x∈r,x.s.size<=2^40:=B.val;have m:cU id e ⟨t,o,r⟩=AA (cF id++cF z++[u8 o]++dS t++dS (strOf (gn r))):=by rw[T.eq];rfl
 rw[m]at j;clear m B;refine cg eJk Tryz.func134 λA hA=>?_;cbv;intro C d O e1;have V:Le h d:=by rw[e1];exact Le.set O
 have q1:Sl 3 dD d (.slice (zsA C) 2 2) [id,z]:=oN (s:=dD) rfl ((congrFun e1 C).trans ae) rfl rfl;clear e1;cbv;refine CP q1 (by decide) (λl J m2 L Y a=>?_);have N:=a.sl.len;have a:bt 5 cj d l (.slice J m2 L) (cF id++cF z):=by simpa using a
 have N:=a.sl.len;rw[cy,bY,bY]at N;cbv;refine pf a.sl (by omega) o (λh3 b3 m3 c3 l3 D=>?_);have I:=D.sl.len;rw[cy,cy,bY,bY,qA]at I;cbv;refine Bj (e1:=0) D.sl (by omega) t ni (λh4 b4 m4 c4 l4 E=>?_);have G:=E.sl.len;have zM:=fO t;unfold dS at zM;rw[cy,cy,cy,bY,bY,qA]at G;have F:=((V.trans Y).trans l3).trans l4;cbv;refine MW (q.mono (F.t _)) (by omega) Z (λh5 b5 m5 c5 w q5 U=>?_);have u:(strOf (gn r)).size<=2^40:=by show(gn r).toArray.size<=_;rw[List.size_toArray];omega
 have i:=E.sl.mono (w.t _);obtain⟨v,H⟩:∃v,v=strOf (gn r):=⟨_,rfl⟩;rw[<-H]at j u;cbv;refine rh q5.sl ?_;rw[<-H];cbv;refine Bj (e1:=0) i (by omega) v u (λP K y M l6 f=>?_);have f:Sl 5 cj P (.slice K y M) (cF id++cF z++[u8 o]++dS t++dS v):=f.sl;have Q:=f.len;have d:=fO t;have l:=fO v;simp only[cy,wS,yk,bY]at Q;have X:y<=2^37:=by omega
 generalize cF id++cF z++[u8 o]++dS t++dS v=W at *;cbv;refine bZp f (by decide) X (λR g l7 S=>?_);have:=j R g (((F.trans w).trans l6).trans l7) S;cbv;exact this
theorem An{c:cV}(h:L[i]? =some c):(iM id L)[i]? =some (cU id i c):=by unfold iM;rw[List.getElem?_mapIdx,h];rfl
theorem Am(id:Int)(L:List cV):(iM id L).length=L.length:=by unfold iM;simp
theorem lY{a:Type}{L:List a}{x:a}(h:L[i]? =some x):L.take (i+1)=L.take i++[x]:=by rw[qM,h];rfl
theorem PB(q:Sl 161 bz h (.slice b n c) L)(hB:∀x∈L,yh x)(hn:n<=2^30)
 (M:∀h' g,Le h h'->hl g=aQ (eL id L)->(eL id L).length=32->k (.agg (hl g).toArray) h'):Ct 135 [.agg #[.int .i64 id,.slice b n c]] h k:=by
 have N:=q.len;have C:eL id L=gP (iM id L):=rfl;rw[C]at M;have QK:=Am id L;have O:∀ {i:Nat} {c:cV},L[i]? =some c->(iM id L)[i]? =some (cU id i c):=λh=>An h;generalize iM id L=H at *;clear C;obtain⟨J,D⟩:∃J:Nat->((Option Addr×Nat×Nat)×Int)->ad->Prop,∀w g h',J w g h'=(∃i,aZ g.2 i/\w=n-i/\i<=n/\Le h h'/\bt 100 yj h h' (.slice g.1.1 g.1.2.1 g.1.2.2) (H.take i)):=⟨_,λ_ _ _=>rfl⟩;have j:J n ((none,0,0),0) h:=by rw[D];exact⟨0,⟨rfl⟩,rfl,by omega,Le.refl _,bt.nil⟩
 refine cg eJj Tryz.func135 λA hA=>?_;cbv;refine aX.go (G:=(Option Addr×Nat×Nat)×Int) (λg=>[(3,.v (.slice g.1.1 g.1.2.1 g.1.2.2)),(9,.v (.int .i64 g.2))]) (λ_=>[(1,[.int .i64 id,.slice b n c]),(2,List.replicate 32 (.int .u8 0))]) (λw g h'=>J w g h') n ((none,0,0),0) (by constructor<;>cbv) j ?_
 intro w g F K;rw[D]at K;cbv;obtain⟨⟨W,E,Y⟩,z⟩:=g;obtain⟨i,a,hw,hi,t,d⟩:=K;have a:aZ z i:=a;have d:bt 100 yj h F (.slice W E Y) (H.take i):=d;have nq:=d.sl.len;rw[eA]at nq;have B:A .aN .lss z (A .nat n)=decide (i<n):=by rw[aR A,a.eq,hA.nat];exact decide_eq_decide.2 (by show(i:Int)<(n:Int)↔_;omega)
 rw[B];by_cases e:i<n
 .rw[ak e];obtain⟨x,hx⟩:=cB L i;have S:=hB x (cK hx);have ix:=a.ix e;have iV:b.isSome=true:=q.bp;have U:n-(i+1)<w:=by omega
  have T:=lY (O hx);have X:∀f m' c' h',Le h h'->bt 100 yj h h' (.slice f m' c') (H.take i++[cU id i x])->J (n-(i+1)) ((f,m',c'),A .aT .add .i64 z 1) h':=λf m' c' h' l' q'=>by
   rw[D];exact⟨i+1,a.succ (A:=A),rfl,e,l',by rw[T];exact q'⟩
  have oF:E+1<=2^39:=by omega
  have lH:(cU id i x).length=32:=fL _;clear B D j T O;generalize H.take i=Lc at *;obtain⟨tb,op,r⟩:=x;cbv;refine⟨⟨iV,ix⟩,?_⟩;cbv;refine(q.mono (t.t _)).load hx a.eq (λcs V=>?_);obtain⟨rb,rn,rc,rfl,u⟩:=V;have u:Sl 45 bA F (.slice rb rn rc) r:=u;cbv;refine aQp a u S (λo g l p=>?_);generalize cU id i ⟨tb,op,r⟩=RH at *;cbv;intro n4 I R m;have P:Le o I:=by rw[m];exact Le.set R
  have q4:=bf (s:=yj) (cs:=hl g) ((congrFun m n4).trans ae) (EJ (h:=I) p lH);clear m;cbv;refine(d.mono ((l.trans P).t _)).append q4 (by decide) rfl (by decide) oF ((t.trans l).trans P) (λQ v y Z JJ l5 t5 k5 q5=>?_);have iD:=X v Q y Z l5 q5;clear X k5;cbv;refine⟨_,((v,Q,y),A .aT .add .i64 z 1),U,by constructor<;>cbv,iD⟩
 rw[bn e];rw[ie (by omega)]at d;clear D j O;cbv;refine bZl _ d.sl (kB _) (λo g l p oU=>?_);have:=M o g (t.trans l) p oU;cbv;exact this
theorem cZE(q:Sl 161 bz h (.slice b n c) L)(N:∀x∈L,yh x)(P:n<=2^30)
 (p:∀h' g,Le h h'->hl g=aQ (jN id L)->k (.agg (hl g).toArray) h'):Ct 245 [.agg #[.int .i64 id,.slice b n c]] h k:=by
 obtain⟨A,M⟩:=Ar.ex;have l:=q.len;have E:jN id L=AA (cF id++cF (A .nat n)++eL id L):=by rw[M.nat,l];rfl
 rw[E]at p;clear E;refine fz eXu A Tryz.func245 ?_;cbv;refine PB q N P (λG g r O Y=>?_);generalize eL id L=R at *;cbv;intro j m U e;have S:Le G m:=by rw[e];exact Le.set U
 have B:m j=zcL 100 (List.replicate 32 (.int .u8 0)):=(congrFun e j).trans ae;have z2:=r.none U;clear e;cbv;refine ju B (kB _) (λo d=>?_);have C:=rf d (wX _ _);have T:Le h o:=(r.trans S).aV (bs:=[j]) (by simpa using z2) (by rw[d];exact Kp.set (by simp));clear d;cbv;intro v i F f;have t:Le o i:=by rw[f];exact Le.set F
 have Z:Sl 3 dD i (.slice (zsA v) 2 2) [id,A .nat n]:=oN (s:=dD) rfl ((congrFun f v).trans ae) rfl rfl;clear f;cbv;refine CP Z (by decide) (λH w X y u a=>?_);have a:bt 5 cj i H (.slice w X y) (cF id++cF (A .nat n)):=by simpa using a
 have K:=a.sl.len;rw[cy,bY,bY]at K;have D:=u _ _ (t _ _ C);cbv;refine a.app (jR D O Y) (by decide) rfl (by decide) (by omega) u (λm6 b6 c6 h6 QJ V t6 Q q6=>?_);clear Q;cbv;refine bZp q6.sl (by decide) (by omega) (λJ z W I=>?_);have:=p J z ((T.trans t).trans (V.trans W)) I;cbv;exact this
def zT(n:Int)(p r:Nat->Int)(c:Int):List Value:=[.int .i64 n,.int .u8 (p 0),.int .u8 (p 1),.int .u8 (p 2),.int .u8 (p 3),.int .u8 (p 4),.int .u8 (p 5),.int .u8 (p 6),.int .u8 (p 7),.int .u8 (p 8),.int .u8 (p 9),.int .u8 (p 10),.int .u8 (p 11),.int .u8 (p 12),.int .u8 (p 13),.int .u8 (p 14),.int .u8 (p 15),.int .u8 (p 16),.int .u8 (p 17),.int .u8 (p 18),.int .u8 (p 19),.int .u8 (p 20),.int .u8 (p 21),.int .u8 (p 22),.int .u8 (p 23),.int .u8 (p 24),.int .u8 (p 25),.int .u8 (p 26),.int .u8 (p 27),.int .u8 (p 28),.int .u8 (p 29),.int .u8 (p 30),.int .u8 (p 31),.int .u8 (r 0),.int .u8 (r 1),.int .u8 (r 2),.int .u8 (r 3),.int .u8 (r 4),.int .u8 (r 5),.int .u8 (r 6),.int .u8 (r 7),.int .u8 (r 8),.int .u8 (r 9),.int .u8 (r 10),.int .u8 (r 11),.int .u8 (r 12),.int .u8 (r 13),.int .u8 (r 14),.int .u8 (r 15),.int .u8 (r 16),.int .u8 (r 17),.int .u8 (r 18),.int .u8 (r 19),.int .u8 (r 20),.int .u8 (r 21),.int .u8 (r 22),.int .u8 (r 23),.int .u8 (r 24),.int .u8 (r 25),.int .u8 (r 26),.int .u8 (r 27),.int .u8 (r 28),.int .u8 (r 29),.int .u8 (r 30),.int .u8 (r 31),.int .i64 c]
theorem mW(n:Int)(p r:Nat->Int)(c:Int):zT n p r c=.int .i64 n::(hl p++(hl r++[.int .i64 c])):=rfl
def dU:Sh sf where
 n:=66
 R _ cs b:=cs=.int .i64 b.n::(aQ b.prev++(aQ b.root++[.int .i64 b.count]))/\b.prev.length=32/\b.root.length=32
 len:=by rintro h cs b ⟨rfl,h1,h2⟩;simp[aQ,h1,h2]
 one:=by
  rintro h cs b ⟨rfl,h1,h2⟩;have key:∀l m:List Value,jv l=true->jv m=true->jv (l++m)=true:=λl m a b=>by
   induction l with
   |nil=>exact b
   |cons x t ih=>
    unfold jv at a;split at a
    .rename_i hx;show jv (x::(t++m))=true;unfold jv;rw[hx];exact ih a
    cases a
  show jv (_::_)=true;unfold jv;exact key _ _ (iN _) (key _ _ (iN _) rfl)
 tys:=[]
 mono:=λ_ q=>q
theorem xg{T o:Nat}{c:List Value}{x:Bs}(q:h n=zcL T c)(b:(c.drop o).take 32=aQ x)(hx:x.length=32):Sl T cj h (.slice (some ⟨n,o,none⟩) 32 32) x:=by
 refine⟨_,32,by rw[hx],by omega,by omega,.inr ⟨n,o,_,_,rfl,q,?_,λi y e=>?_⟩⟩
 .have:=congrArg List.length b;rw[eA,iz]at this;simp only[aQ,vi]at this;have f:cj.n=1:=rfl;rw[f];simp only[List.toArray,hx]at *;omega
 have g:i<x.length:=(ff.1 e).1;show((c.drop (o+i*1)).take 1)=[.int .u8 (y.toNat:Int)];have a:=congrArg (λl=>l[i]?) b;simp only[qH,rB,aQ,kS,e]at a;rw[if_pos (by omega)]at a;apply yr;intro j;rw[qH,rB];by_cases d:j<1
 .have:j=0:=by omega
  subst this;rw[if_pos d,jKp,kQt,a];rfl
 rw[if_neg d,yo (by simp;omega)]
theorem bZr{n G:Int}{gp gr:Nat->Int}{p r:Bs}(hp:hl gp=aQ p)(hr:hl gr=aQ r)(Cg:p.length=32)(lH:r.length=32)
 (T:∀h' g,Le h h'->hl g=aQ (ef ⟨n,p,r,G⟩)->k (.agg (hl g).toArray) h'):Ct 185 [.agg (zT n gp gr G).toArray] h k:=by
 have hH:ef ⟨n,p,r,G⟩=Sw ([cF n,p,r,cF G]:List Bs).flatten:=by unfold ef ZC;simp
 have W:([cF n,p,r,cF G]:List Bs).flatten.length<=2^38:=by simp only[jKR,List.flatten_nil,cy,yk,bY];omega
 rw[hH]at T;clear hH;refine cg eZv Tryz.func185 λA hA=>?_;cbv;intro n1 S fh e1;have la:Le h S:=by rw[e1];exact Le.set fh
 have y:S n1=zcL 224 (zT n gp gr G):=(congrFun e1 n1).trans ae;have sp:=xg (o:=1) (x:=p) y (by rw[mW,<-hp];rfl) Cg;have sr:=xg (o:=33) (x:=r) y (by rw[mW,<-hr];rfl) lH;clear e1;cbv;rw[av A];refine cr y ?_;cbv;rw[av A,av A,av A];refine cr y ?_;cbv;refine⟨?_,?_⟩
 .skip;intro N x0 Y w;have z:Le S x0:=by rw[w];exact Le.set Y
  have V:Sl 3 dD x0 (.slice (zsA N) 1 1) [n]:=bf (s:=dD) ((congrFun w N).trans ae) rfl;clear w;cbv
  (try rw[av A])
  refine cr (z _ _ y) ?_;cbv;refine⟨⟨_,rfl,rfl⟩,?_⟩;cbv;refine⟨?_,?_⟩
  .skip;refine CP V (by decide) (λa bb J C f q=>?_);have q:bt 5 cj x0 a (.slice bb J C) (cF n):=by simpa using q
   cbv
   (try rw[av A])
   refine cr ((z.trans f) _ _ y) ?_;cbv;refine⟨⟨_,rfl,rfl⟩,?_⟩;cbv;intro t b U Z;have j:Le a b:=by rw[Z];exact Le.set U
   have P:Sl 3 dD b (.slice (zsA t) 1 1) [G]:=bf (s:=dD) ((congrFun Z t).trans ae) rfl;clear Z;cbv;refine CP P (by decide) (λu B K D m d=>?_);have d:bt 5 cj b u (.slice B K D) (cF G):=by simpa using d
   cbv;intro M R O e;have l:Le u R:=by rw[e];exact Le.set O
   have E:=(congrFun e M).trans ae;have X:=(((z.trans f).trans j).trans m).trans l;have s1:=(((q.sl.mono (j.t _)).mono (m.t _)).mono (l.t _));have Q:=(d.sl.mono (l.t _));have s2:=sp.mono (X.t _);have s3:=sr.mono (X.t _);clear e;cbv;refine Px (L:=[cF n,p,r,cF G]) (Jm (s:=Dd) rfl E rfl (by show 4<=2^40;decide) (λi v x c hx=>?_) rfl) W (λF g I H=>?_)
   .have hi:i<4:=(ff.1 c).1;have:i=0\/i=1\/i=2\/i=3:=by omega
    rcases this with rfl|rfl|rfl|rfl<;>cases c<;>cases hx
    .exact eJ s1
    .exact eJ s2
    .exact eJ s3
    exact eJ Q
   have:=T F g ((la.trans X).trans I) H;cbv;exact this
  skip;intro t a U e1;have f:Le x0 a:=by rw[e1];exact Le.set U
  have P:Sl 3 dD a (.slice (zsA t) 1 1) [G]:=bf (s:=dD) ((congrFun e1 t).trans ae) rfl;clear e1;cbv;refine CP (V.mono (f.t _)) (by decide) (λb bb J C j q=>?_);have q:bt 5 cj a b (.slice bb J C) (cF n):=by simpa using q
  cbv;refine CP (P.mono (j.t _)) (by decide) (λu B K D m d=>?_);have d:bt 5 cj b u (.slice B K D) (cF G):=by simpa using d
  cbv;intro M R O e;have l:Le u R:=by rw[e];exact Le.set O
  have E:=(congrFun e M).trans ae;have X:=(((z.trans f).trans j).trans m).trans l;have s1:=((q.sl.mono (m.t _)).mono (l.t _));have Q:=(d.sl.mono (l.t _));have s2:=sp.mono (X.t _);have s3:=sr.mono (X.t _);clear e;cbv;refine Px (L:=[cF n,p,r,cF G]) (Jm (s:=Dd) rfl E rfl (by show 4<=2^40;decide) (λi v x c hx=>?_) rfl) W (λF g I H=>?_)
  .have hi:i<4:=(ff.1 c).1;have:i=0\/i=1\/i=2\/i=3:=by omega
   rcases this with rfl|rfl|rfl|rfl<;>cases c<;>cases hx
   .exact eJ s1
   .exact eJ s2
   .exact eJ s3
   exact eJ Q
  have:=T F g ((la.trans X).trans I) H;cbv;exact this
 skip;intro t x0 U w;have z:Le S x0:=by rw[w];exact Le.set U
 have P:Sl 3 dD x0 (.slice (zsA t) 1 1) [G]:=bf (s:=dD) ((congrFun w t).trans ae) rfl;clear w;cbv
 (try rw[av A])
 refine cr (z _ _ y) ?_;cbv;refine⟨⟨_,rfl,rfl⟩,?_⟩;cbv;intro N a Y e1;have f:Le x0 a:=by rw[e1];exact Le.set Y
 have V:Sl 3 dD a (.slice (zsA N) 1 1) [n]:=bf (s:=dD) ((congrFun e1 N).trans ae) rfl;clear e1;cbv;refine CP V (by decide) (λb bb J C j q=>?_);have q:bt 5 cj a b (.slice bb J C) (cF n):=by simpa using q
 cbv;refine CP ((P.mono (f.t _)).mono (j.t _)) (by decide) (λu B K D m d=>?_);have d:bt 5 cj b u (.slice B K D) (cF G):=by simpa using d
 cbv;intro M R O e;have l:Le u R:=by rw[e];exact Le.set O
 have E:=(congrFun e M).trans ae;have X:=(((z.trans f).trans j).trans m).trans l;have s1:=((q.sl.mono (m.t _)).mono (l.t _));have Q:=(d.sl.mono (l.t _));have s2:=sp.mono (X.t _);have s3:=sr.mono (X.t _);clear e;cbv;refine Px (L:=[cF n,p,r,cF G]) (Jm (s:=Dd) rfl E rfl (by show 4<=2^40;decide) (λi v x c hx=>?_) rfl) W (λF g I H=>?_)
 .have hi:i<4:=(ff.1 c).1;have:i=0\/i=1\/i=2\/i=3:=by omega
  rcases this with rfl|rfl|rfl|rfl<;>cases c<;>cases hx
  .exact eJ s1
  .exact eJ s2
  .exact eJ s3
  exact eJ Q
 have:=T F g ((la.trans X).trans I) H;cbv;exact this
set_option maxHeartbeats 8000000
theorem yq{x:W}(e:lp z x)(h0:0<n)(d:n<32)(b:m=(n:Int))(a:∀w,lp w (rr x n)->k (.int .u32 w) h):
 Ct 193 [.int .u32 z,.int .u64 m] h k:=by
 obtain⟨A,g⟩:=Ar.ex;obtain⟨s2,F,f⟩:∃s2,aZ s2 (32-n)/\A .aT .sub .u64 32 m=s2:=⟨_,⟨by
  rw[g.aT,b];have:∀m:Nat,m<32->Sx.aT .sub .u64 32 (m:Int)=((32-m:Nat):Int):=by decide
  exact this n d⟩,rfl⟩
 have c:0<=m/\0<=s2:=by have:=F.eq;omega
 have r:=a _ ((e.shr (A:=A) (n:=m) ⟨b⟩ d).or (A:=A) (e.shl (A:=A) F (by omega)));clear a;refine fz eZo A Tryz.func193 ?_;cbv;refine⟨c.1,?_⟩;cbv;rw[f];refine⟨c.2,?_⟩;cbv;exact r
theorem aXP(a:∀g:Nat->Int,(∀i,i<64->lp (g i) (GM.getD i 0))->k (.agg (wl g).toArray) h):Ct 192 [] h k:=by
 have r:=a (λi=>((GM.getD i 0).toNat:Int)) (λi c=>⟨rfl⟩);clear a;have e:wl (λi=>((GM.getD i 0).toNat:Int))=[.int .u32 1116352408,.int .u32 1899447441,.int .u32 3049323471,.int .u32 3921009573,.int .u32 961987163,.int .u32 1508970993,.int .u32 2453635748,.int .u32 2870763221,.int .u32 3624381080,.int .u32 310598401,.int .u32 607225278,.int .u32 1426881987,.int .u32 1925078388,.int .u32 2162078206,.int .u32 2614888103,.int .u32 3248222580,.int .u32 3835390401,.int .u32 4022224774,.int .u32 264347078,.int .u32 604807628,.int .u32 770255983,.int .u32 1249150122,.int .u32 1555081692,.int .u32 1996064986,.int .u32 2554220882,.int .u32 2821834349,.int .u32 2952996808,.int .u32 3210313671,.int .u32 3336571891,.int .u32 3584528711,.int .u32 113926993,.int .u32 338241895,.int .u32 666307205,.int .u32 773529912,.int .u32 1294757372,.int .u32 1396182291,.int .u32 1695183700,.int .u32 1986661051,.int .u32 2177026350,.int .u32 2456956037,.int .u32 2730485921,.int .u32 2820302411,.int .u32 3259730800,.int .u32 3345764771,.int .u32 3516065817,.int .u32 3600352804,.int .u32 4094571909,.int .u32 275423344,.int .u32 430227734,.int .u32 506948616,.int .u32 659060556,.int .u32 883997877,.int .u32 958139571,.int .u32 1322822218,.int .u32 1537002063,.int .u32 1747873779,.int .u32 1955562222,.int .u32 2024104815,.int .u32 2227730452,.int .u32 2361852424,.int .u32 2428436474,.int .u32 2756734187,.int .u32 3204031479,.int .u32 3329325298]:=by kernel_rfl
 rw[e]at r;clear e;refine cg eZp Tryz.func192 λA b=>?_;cbv;exact r
structure WP(l:Bs)(i:Nat)(xs:List W):Prop where
 len:xs.length=64
 get:∀j,j<i->xs[j]? =some (wF l j)
theorem WP.set{l:Bs}{xs:List W}(q:WP l i xs)(h:i<64):WP l (i+1) (xs.set i (wF l i)):=by
 refine⟨by rw[nM];exact q.len,λj a=>?_⟩;rw[VS];split
 .rename_i e;subst e;rw[if_pos (by rw[q.len];exact h)]
 rename_i e;exact q.get j (by omega)
theorem W8.add_comm(s t:W8):s.add t=t.add s:=by unfold W8.add;simp only[BitVec.add_comm]
def eKj(G:Nat->Int):List Value:=El (G 0) (G 1) (G 2) (G 3) (G 4) (G 5) (G 6) (G 7)
theorem aXh(G:Nat->Int)(h:i<8):(eKj G)[i]? =some (.int .u32 (G i)):=by
 have:i=0\/i=1\/i=2\/i=3\/i=4\/i=5\/i=6\/i=7:=by omega
 rcases this with rfl|rfl|rfl|rfl|rfl|rfl|rfl|rfl<;>rfl
theorem bZx{T:Nat}{s:W8}(o:cZ T pF h n 8 s.l):∃G,h n=zcL T (eKj G)/\∀i,i<8->lp (G i) (s.l.getD i 0):=by
 obtain⟨a,b,c,d,e,f,g,i,l,k⟩:=Vs o;refine⟨λj=>if j=0 then a else if j=1 then b else if j=2 then c else if j=3 then d else if j=4 then e else if j=5 then f else if j=6 then g else i,l,λj m=>?_⟩;have:j=0\/j=1\/j=2\/j=3\/j=4\/j=5\/j=6\/j=7:=by omega
 rcases this with rfl|rfl|rfl|rfl|rfl|rfl|rfl|rfl
 .exact k.a
 .exact k.b
 .exact k.c
 .exact k.d
 .exact k.e
 .exact k.f
 .exact k.g
 exact k.h
theorem lp.wB[e:bI A]{w:W}(d:lp u w)(f:j<4)(c:m=((24-8*j:Nat):Int)):A .conv .u8 (A .aT .shr .u32 u m)=((wB w j).toNat:Int):=by
 have b:=(d.shr (A:=A) (n:=m) (i:=24-8*j) ⟨c⟩ (by omega)).eq;rw[b];have a:=kQ (A:=A) (h:=λ_=>none) (((w >>> (24-8*j)).toNat:Nat):Int);have a:[Value.int .u8 (A .conv .u8 (((w >>> (24-8*j)).toNat:Nat):Int))]=[.int .u8 ((u8 (((w >>> (24-8*j)).toNat:Nat):Int)).toNat:Int)]:=a;injection a with a _
 injection a with _ a
theorem lp.iQG[c:bI A]{w:W}(b:lp u w):A .conv .u8 u=((Go.S.wB w 3).toNat:Int):=by
 rw[b.eq];have a:=kQ (A:=A) (h:=λ_=>none) ((w.toNat:Nat):Int);have a:[Value.int .u8 (A .conv .u8 ((w.toNat:Nat):Int))]=[.int .u8 ((u8 ((w.toNat:Nat):Int)).toNat:Int)]:=a;injection a with a _
 injection a with _ a
theorem TL{T:Bs}(h:j<64)(a:p+64<=T.length):T[p+j]? =some (((T.drop p).take 64).getD j 0):=by rw[yz,qH,if_pos h,rB,zG (by omega:p+j<T.length)];rfl
structure RS(h h':ad)(n3 n4 n8:Nat)(kg:Nat->Int)(S:W8)(xs:List W)(tv:Value)(T:Bs):Prop where
 le:Le h h'
 g3:h' n3=zcL 355 (wl kg)
 o4:cZ 357 pF h' n4 8 S.l
 o8:cZ 355 pF h' n8 64 xs
 st:Sl 5 cj h' tv T
theorem RS.mono{s:ad}{b:Nat}{k:Nat->Int}{S:W8}{xs:List W}{t:Value}{T:Bs}(q:RS h h' n a b k S xs t T)(l:Le h' s):RS h s n a b k S xs t T:=
 ⟨q.le.trans l,l _ _ q.g3,q.o4.mono (l.t _),q.o8.mono (l.t _),q.st.mono (l.t _)⟩
theorem RS.w8{s:ad}{b:Nat}{k:Nat->Int}{S:W8}{xs ys:List W}{v:Value}{T:Bs}(q:RS h h' a b n k S xs v T)(z:h n=none)(d:a≠n)(c:b≠n)(kp:Kp [n] h' s)(t:∀tys,355∉tys->cO tys h' s)(o:cZ 355 pF s n 64 ys):RS h s a b n k S ys v T:=
 ⟨q.le.aV (bs:=[n]) (by simpa using z) kp,kp _ _ q.g3 (by simpa using d),q.o4.kp kp (by simpa using Ne.symm c |>.symm) (λ_ _ _ _ m _=>by cases m),o,q.st.mono (t _ (by decide))⟩
theorem RS.gKS{s:ad}{b G:Nat}{k:Nat->Int}{S:W8}{xs:List W}{v:Value}{T:Bs}(q:RS h h' n a b k S xs v T)(z:h G=none)(d:n≠G)(c:a≠G)(e:b≠G)(kp:Kp [G] h' s)(t:cO [5] h' s):RS h s n a b k S xs v T:=
 ⟨q.le.aV (bs:=[G]) (by simpa using z) kp,kp _ _ q.g3 (by simpa using d),q.o4.kp kp (by simpa using c) (λ_ _ _ _ m _=>by cases m),q.o8.kp kp (by simpa using e) (λ_ _ _ _ m _=>by cases m),q.st.mono t⟩
theorem MS{S:W8}{T:Bs}(h:64<=T.length):jO S T=jO (Ha S (T.take 64)) (T.drop 64):=by rw[jO,dif_pos h]
theorem Pv(S:W8):jO S []=S:=by rw[jO,dif_neg (by simp)]
theorem MX{l:Bs}(q:Sl e1 cj h (.slice b n c) l)(hn:n<=2^38)
 (hk:∀h' g,Le h h'->hl g=aQ (Sw l)->k (.agg (hl g).toArray) h'):Ct 85 [.slice b n c] h k:=by
 obtain⟨A,hA⟩:=Ar.ex;have aA:=q.len;have XV:Sw l=SM (jO lS (EX l)):=rfl;rw[XV]at hk;clear XV;obtain⟨N,bB⟩:∃N,N=A .aT .mul .u64 (A .conv .u64 (A .nat n)) 8:=⟨_,rfl⟩;have hN:aZ N (l.length*8):=⟨by
  rw[bB,hA.nat,hA.conv,hA.aT,<-aA];show IntKind.u64.wrap (IntKind.u64.wrap (n:Int)*8)=_;rw[pk,pk];omega⟩
 refine fU A [4] (aj hJB.aw hJB.bq) Tryz.func85 rfl (by kernel_rfl) ?_;cbv;refine aXP (λZ eb=>?_);cbv;intro E h1 Jt e1;have l1:Le h h1:=by rw[e1];exact Le.set Jt
 have p:h1 E=zcL 355 (List.replicate 64 (.int .u32 0)):=(congrFun e1 E).trans ae;clear e1;cbv;refine ju p (kB _) (λh2 e2=>?_);have k2:Kp [E] h1 h2:=by rw[e2];exact Kp.set (by simp)
 have p:h2 E=zcL 355 (wl Z):=by rw[e2,ae];exact congrArg (λc=>some (Obj.cells (List.toArray c) 355 (0,0))) (IU _ Z)
 have l2:=l1.aV (bs:=[E]) (by simpa using Jt) k2;clear e2 k2 l1;cbv;intro u h3 FA e3;have Ok:Le h2 h3:=by rw[e3];exact Le.set FA
 have B:h3 u=zcL 357 (List.replicate 8 (.int .u32 0)):=(congrFun e3 u).trans ae;have br:E≠u:=mM p FA;have z3:=Jt;have z4:=l2.none FA;have p:=Ok _ _ p;have l3:=l2.trans Ok;clear e3 Ok;cbv;refine ju B (kB _) (λh4 e4=>?_);have k4:Kp [u] h3 h4:=by rw[e4];exact Kp.set (by simp)
 have B:h4 u=zcL 357 (El 0x6a09e667 0xbb67ae85 0x3c6ef372 0xa54ff53a 0x510e527f 0x9b05688c 0x1f83d9ab 0x5be0cd19):=(congrFun e4 u).trans ae;have h8:Vg 0x6a09e667 0xbb67ae85 0x3c6ef372 0xa54ff53a 0x510e527f 0x9b05688c 0x1f83d9ab 0x5be0cd19 lS:=⟨⟨rfl⟩,⟨rfl⟩,⟨rfl⟩,⟨rfl⟩,⟨rfl⟩,⟨rfl⟩,⟨rfl⟩,⟨rfl⟩⟩;have p:=k4 _ _ p (by simpa using br);have l4:=l3.aV (bs:=[u]) (by simpa using z4) k4;clear e4 k4 l3 l2;cbv;have H:=Em B h8;clear B h8;obtain⟨C,fD⟩:∃C:(Option Addr×Nat×Nat)->ad->Prop,∀g h',C g h'=(Le h h'/\h' E=zcL 355 (wl Z)/\cZ 357 pF h' u 8 lS.l/\bt 5 cj h h' (.slice g.1 g.2.1 g.2.2) l):=⟨_,λ_ _=>rfl⟩;refine ld.go (G:=Option Addr×Nat×Nat) (λg=>[(5,.v (.slice g.1 g.2.1 g.2.2))]) (λ_=>[(2,List.replicate 32 (.int .u8 0))]) C ?_ ?_
 .cbv;intro n5 h5 LU e5;have Oj:Le h4 h5:=by rw[e5];exact Le.set LU
  have p:=Oj _ _ p;have H:=H.mono (Oj.t _);have l5:=l4.trans Oj;clear e5;have JG:∀b1,n=0->C (b1,0,0) h5:=λb1 e0=>by
   rw[fD];have:l=[]:=kh (by omega);subst this;exact⟨l5,p,H,bt.nil⟩
  cbv;refine oI (q.mono (l5.t _)) rfl (by decide) (λe0=>?_) (λnb cap h6 eC mP l6 o6=>?_)
  .have hC:=JG (zsA n5) e0;clear JG fD;cbv;refine⟨(zsA n5,0,0),by constructor<;>cbv,hC⟩
  have hC:C (zsA nb,n,cap) h6:=by rw[fD];exact⟨l5.trans l6,l6 _ _ p,H.mono (l6.t _),o6.buf (l5.none eC) aA⟩
  clear JG fD;cbv;refine⟨(zsA nb,n,cap),by constructor<;>cbv,hC⟩
 intro g h6 hC;rw[fD]at hC;obtain⟨O,r,Y⟩:=g;obtain⟨l6,p,H,q6⟩:=hC;have q6:bt 5 cj h h6 (.slice O r Y) l:=q6;have nq:=q6.sl.len;clear fD C;cbv;intro n7 h7 Fy e7;have l7:Le h6 h7:=by rw[e7];exact Le.set Fy
 have q7:=bf (s:=cj) (x:=128) ((congrFun e7 n7).trans ae) rfl;clear e7;cbv;refine(q6.mono (l7.t _)).app q7 (by decide) rfl (by decide) (by omega) (l6.trans l7) (λm8 b8 c8 h8 ev l8 t8 k8 q8=>?_);have p:=k8 _ _ (l7 _ _ p) (.inr (.inr (λc fr e=>by cases e)));have H:=H.mono ((l7.t _).trans (t8 _ (by decide)));obtain⟨J,bD⟩:∃J:Nat->(Option Addr×Nat×Nat)->ad->Prop,∀w g h',J w g h'=(∃j,w=mZ l.length-j/\j<=mZ l.length/\Le h h'/\h' E=zcL 355 (wl Z)/\cZ 357 pF h' u 8 lS.l/\bt 5 cj h h' (.slice g.1 g.2.1 g.2.2) (l++[128]++List.replicate j 0)):=⟨_,λ_ _ _=>rfl⟩;have dL:J (mZ l.length) (b8,m8,c8) h8:=by rw[bD];exact⟨0,rfl,nr _,l8,p,H,by simpa using q8⟩
 clear k8 q8 q7 q6 H p t8 l8 l7 l6;cbv;refine aX.go (G:=Option Addr×Nat×Nat) (λg=>[(5,.v (.slice g.1 g.2.1 g.2.2))]) (λ_=>[(2,List.replicate 32 (.int .u8 0))]) (λw g h'=>J w g h') (mZ l.length) (b8,m8,c8) (by constructor<;>cbv) dL ?_
 intro w g h3 D;rw[bD]at D;cbv;obtain⟨O,r,Y⟩:=g;obtain⟨j,hw,hj,l3,p,H,q3⟩:=D;have q3:bt 5 cj h h3 (.slice O r Y) (l++[128]++List.replicate j 0):=q3;have nq:r=l.length+1+j:=by have:=q3.sl.len;simp at this;omega
 have ez:mZ l.length<64:=kQp _ (by decide);have f1:A .aN .neq (A .aT .rem .i64 (A .nat r) 64) 56=decide (j<mZ l.length):=by rw[az A,hA.aT,hA.nat];show decide (((r:Int)).tmod 64≠56)=_;rw[jKU (by omega)];refine decide_eq_decide.2 ?_;unfold mZ at *;omega
 have bX:∀h' b' m' c',j<mZ l.length->Le h h'->h' E=zcL 355 (wl Z)->cZ 357 pF h' u 8 lS.l->bt 5 cj h h' (.slice b' m' c') (l++[128]++List.replicate j 0++[0])->J (mZ l.length-(j+1)) (b',m',c') h':=λh' b' m' c' aU l' g' o' q'=>by
  rw[bD];refine⟨j+1,rfl,aU,l',g',o',?_⟩;rw[ym,<-List.replicate_succ']at q';exact q'
 refine⟨by decide,?_⟩;cbv;rw[f1];by_cases hc:j<mZ l.length
 .rw[ak hc];have aU:mZ l.length-(j+1)<w:=by omega
  clear f1 bD dL;generalize l++[128]++List.replicate j 0=cur at *;cbv;intro n9 h4 nj e4;have l4:Le h3 h4:=by rw[e4];exact Le.set nj
  have q4:=bf (s:=cj) (x:=0) ((congrFun e4 n9).trans ae) rfl;clear e4;cbv;refine(q3.mono (l4.t _)).app q4 (by decide) rfl (by decide) (by omega) (l3.trans l4) (λm5 b5 c5 h5 Kg l5 t5 k5 q5=>?_);have iD:=bX h5 b5 m5 c5 hc l5 (k5 _ _ (l4 _ _ p) (.inr (.inr (λc fr e=>by cases e)))) (H.mono ((l4.t _).trans (t5 _ (by decide)))) q5;clear k5 bX;cbv;refine⟨_,(b5,m5,c5),aU,by constructor<;>cbv,iD⟩
 rw[bn hc];have hj:j=mZ l.length:=by omega
 subst hj;clear f1 bX;obtain⟨P,hP⟩:∃P,P=l++[128]++List.replicate (mZ l.length) 0:=⟨_,rfl⟩;have ay:EX l=P++MJ l.length:=by rw[hP];rfl
 have Kk:P.length<=2^38+100:=by rw[hP];simp;omega
 rw[<-hP]at q3;have de:=Lk l;have dj:(EX l).length<=2^38+200:=by rw[ay,cy,xK];omega
 rw[ay]at hk de dj;obtain⟨I,V⟩:∃I:Nat->(Int×Option Addr×Nat×Nat)->ad->Prop,∀w g h',I w g h'=(∃i:Nat,g.1=7-(i:Int)/\w=8-i/\i<=8/\Le h h'/\h' E=zcL 355 (wl Z)/\cZ 357 pF h' u 8 lS.l/\bt 5 cj h h' (.slice g.2.1 g.2.2.1 g.2.2.2) (P++(MJ l.length).take i)):=⟨_,λ_ _ _=>rfl⟩;have jU:I 8 (7,O,r,Y) h3:=by rw[V];exact⟨0,rfl,rfl,by omega,l3,p,H,by simpa using q3⟩
 clear bD dL hP ay q3 H p;cbv;rw[<-bB];refine aX.go (G:=Int×Option Addr×Nat×Nat) (λg=>[(7,.v (.int .i64 g.1)),(5,.v (.slice g.2.1 g.2.2.1 g.2.2.2))]) (λ_=>[(2,List.replicate 32 (.int .u8 0))]) (λw g h'=>I w g h') 8 (7,O,r,Y) (by constructor<;>cbv) jU ?_
 intro w g h4 D;rw[V]at D;cbv;obtain⟨z,O,r,Y⟩:=g;obtain⟨i,hz,hw,hi,l4,p,H,q4⟩:=D;have hz:z=7-(i:Int):=hz;have q4:bt 5 cj h h4 (.slice O r Y) (P++(MJ l.length).take i):=q4;have nq:=q4.sl.len;rw[cy,eA,xK]at nq;have f1:A .aN .geq z 0=decide (i<8):=by rw[cH A];exact decide_eq_decide.2 (by omega)
 rw[f1];by_cases hc:i<8
 .rw[ak hc];obtain⟨sh,bl⟩:∃sh,sh=A .aT .mul .u64 8 (A .conv .u64 z):=⟨_,rfl⟩;have cE:sh=((56-8*i:Nat):Int):=by rw[bl,hA.conv,hA.aT];show IntKind.u64.wrap (8*IntKind.u64.wrap z)=_;rw[pk,pk,hz];omega
  have ey:0<=sh:=by omega
  have hR:cj.R h4 [.int .u8 (A .conv .u8 (A .aT .shr .u64 N sh))] (aXc l.length i):=by
   have h3:A .aT .shr .u64 N ((56-8*i:Nat):Int)=((l.length*8 % 2^64 / 2^(56-8*i):Nat):Int):=by rw[hA.aT,hN.eq];show((l.length*8:Nat):Int).fdiv (2^(min ((56-8*i:Nat):Int).toNat 64))=_;rw[show min ((56-8*i:Nat):Int).toNat 64=56-8*i by omega,jKN _ (Int.le_of_lt (Int.pow_pos (by decide))),Nat.mod_eq_of_lt (by omega)];norm_cast
   rw[cE,h3];exact kQ _
  have fT:(MJ l.length).take (i+1)=(MJ l.length).take i++[aXc l.length i]:=tP (aXc l.length) hc;have jT:∀h' m' b' c',Le h h'->h' E=zcL 355 (wl Z)->cZ 357 pF h' u 8 lS.l->bt 5 cj h h' (.slice b' m' c') (P++(MJ l.length).take i++[aXc l.length i])->I (8-(i+1)) (A .aT .sub .i64 z 1,b',m',c') h':=λh' m' b' c' l' g' o' q'=>by
   rw[V];exact⟨i+1,by
    show A .aT .sub .i64 z 1=_;rw[hA.aT];show IntKind.i64.wrap (z-1)=7-((i+1:Nat):Int);rw[IntWalk.i64_in _ (by omega)];omega,rfl,hc,l',g',o',by rw[fT,<-ym];exact q'⟩
  have aU:8-(i+1)<w:=by omega
  have oF:r+1<=2^39:=by omega
  clear f1 V jU fT nq;generalize aXc l.length i=y at *;generalize P++(MJ l.length).take i=cur at *;cbv;rw[<-bl];refine⟨ey,?_⟩;cbv;intro n9 h5 nj e5;have l5:Le h4 h5:=by rw[e5];exact Le.set nj
  have q5:=bf (s:=cj) ((congrFun e5 n9).trans ae) hR;clear e5;cbv;refine(q4.mono (l5.t _)).app q5 (by decide) rfl (by decide) oF (l4.trans l5) (λm6 b6 c6 h6 QJ l6 t6 k6 q6=>?_);have AP:=jT h6 m6 b6 c6 l6 (k6 _ _ (l5 _ _ p) (.inr (.inr (λc fr e=>by cases e)))) (H.mono ((l5.t _).trans (t6 _ (by decide)))) q6;clear jT k6;cbv;refine⟨8-(i+1),(_,b6,m6,c6),aU,by constructor<;>cbv,AP⟩
 rw[bn hc];have hi:i=8:=by omega
 rw[ie (by rw[xK];omega)]at q4;generalize P++MJ l.length=T at *;have q4:=q4.sl;have zM:=q4.len;clear V jU f1;cbv;intro n8 h5 pH e5;have l5:Le h4 h5:=by rw[e5];exact Le.set pH
 have bx:E≠n8:=mM p pH;have aC:u≠n8:=λe=>by rw[<-e]at pH;exact H.has pH
 have z8:=l4.none pH;have o8:cZ 355 pF h5 n8 64 (List.replicate 64 (0:W)):=HG (g:=λ_=>0) (f:=λ_=>0) ((congrFun e5 n8).trans ae) (λ_ _=>⟨rfl⟩);have r5:RS h h5 E u n8 Z lS (List.replicate 64 (0:W)) (.slice O r Y) T:=⟨l4.trans l5,l5 _ _ p,H.mono (l5.t _),o8,q4.mono (l5.t _)⟩;have et:r<=2^38+200:=by omega
 have dP:0<r->O.isSome=true:=λhh=>q4.bp hh;clear e5 o8 q4 H p l5 l4;obtain⟨J,bD⟩:∃J:Nat->Int->ad->Prop,∀w z h',J w z h'=(∃i S xs,aZ z (64*i)/\64*i<=T.length/\w=T.length-64*i/\xs.length=64/\RS h h' E u n8 Z S xs (.slice O r Y) T/\jO S (T.drop (64*i))=jO lS T):=⟨_,λ_ _ _=>rfl⟩;have dL:J T.length 0 h5:=by rw[bD];exact⟨0,_,_,⟨rfl⟩,by omega,rfl,rfl,r5,rfl⟩
 generalize jO lS T=F at *;clear r5;cbv;refine aX.go (G:=Int) (λz=>[(9,.v (.int .i64 z))]) (λ_=>[(2,List.replicate 32 (.int .u8 0))]) (λw z h'=>J w z h') T.length 0 (by constructor<;>cbv) dL ?_
 intro w z h6 D;rw[bD]at D;cbv;obtain⟨i,S,xs,hz,eS,hw,Nl,r6,hF⟩:=D;have f1:A .aN .lss z (A .nat r)=decide (64*i<T.length):=by rw[aR A,hz.eq,hA.nat];exact decide_eq_decide.2 (by show((64*i:Nat):Int)<(r:Int)↔_;omega)
 rw[f1];by_cases hc:64*i<T.length
 .rw[ak hc];have ee:64*i+64<=T.length:=by omega
  obtain⟨P,hP⟩:∃P,P=(T.drop (64*i)).take 64:=⟨_,rfl⟩;rw[MS (by rw[iz];omega),<-hP,jKS]at hF;have lO:∀j,j<64->T[64*i+j]? =some (P.getD j 0):=λj hj=>by rw[hP];exact TL hj ee
  have aU:T.length-64*(i+1)<w:=by omega
  have iV:=dP (by omega);have bX:∀h' ys,ys.length=64->RS h h' E u n8 Z (Ha S P) ys (.slice O r Y) T->J (T.length-64*(i+1)) (A .aT .add .i64 z 64) h':=λh' ys o r'=>by
   rw[bD];refine⟨i+1,_,ys,?_,by omega,rfl,o,r',hF⟩;have:=hz.add (A:=A) (w:=64) (j:=64) ⟨rfl⟩ (by omega);have e:64*i+64=64*(i+1):=by omega
   rw[e]at this;exact this
  clear bD dL f1 hF hP;obtain⟨K,L⟩:∃K:Nat->Nat->Int->ad->Prop,∀m w y h',K m w y h'=(∃j ys,aZ y j/\w=m-j/\j<=m/\(m=64->16<=j)/\WP P j ys/\RS h h' E u n8 Z S ys (.slice O r Y) T):=⟨_,λ_ _ _ _=>rfl⟩;have QP:K 16 16 0 h6:=by rw[L];exact⟨0,xs,⟨rfl⟩,rfl,by omega,by omega,⟨Nl,λj hj=>by omega⟩,r6⟩
  clear r6;cbv;refine aX.go (G:=Int) (λy=>[(10,.v (.int .i64 y))]) (λ_=>[(2,List.replicate 32 (.int .u8 0))]) (λw y h'=>K 16 w y h') 16 0 (by constructor<;>cbv) QP ?_
  intro w2 y h7 D;rw[L]at D;cbv;obtain⟨j,ys,o,HP,hj,-,QB,r7⟩:=D;have f2:A .aN .lss y 16=decide (j<16):=by rw[aR A,o.eq];exact decide_eq_decide.2 (by omega)
  rw[f2];by_cases kO:j<16
  .rw[ak kO];have m0:aZ (A .aT .mul .i64 4 y) (4*j):=⟨by
    rw[hA.aT,o.eq];show IntKind.i64.wrap (4*(j:Int))=_;rw[IntWalk.i64_in _ (by omega)];omega⟩
   have p0:=hz.add (A:=A) m0 (by omega);have p1:=p0.succ (A:=A);have p2:=p0.add (A:=A) (w:=2) (j:=2) ⟨rfl⟩ (by omega);have p3:=p0.add (A:=A) (w:=3) (j:=3) ⟨rfl⟩ (by omega);have c0:=p0.ix (len:=r) (by omega);have c1:=p1.ix (len:=r) (by omega);have c2:=p2.ix (len:=r) (by omega);have c3:=p3.ix (len:=r) (by omega);have R:=o.ix (len:=64) (by omega);have t0:=lO (4*j) (by omega);have t1:=lO (4*j+1) (by omega);have t2:=lO (4*j+2) (by omega);have t3:=lO (4*j+3) (by omega);have wE:wF P j=bw P (4*j) <<< 24|||bw P (4*j+1) <<< 16|||bw P (4*j+2) <<< 8|||bw P (4*j+3):=by rw[wF,if_pos kO];rfl
   obtain⟨y0,cb⟩:∃v:Int,v=((P.getD (4*j) 0).toNat:Int):=⟨_,rfl⟩;obtain⟨y1,bS⟩:∃v:Int,v=((P.getD (4*j+1) 0).toNat:Int):=⟨_,rfl⟩;obtain⟨y2,uB⟩:∃v:Int,v=((P.getD (4*j+2) 0).toNat:Int):=⟨_,rfl⟩;obtain⟨y3,Ta⟩:∃v:Int,v=((P.getD (4*j+3) 0).toNat:Int):=⟨_,rfl⟩;have hR:lp (A .aT .or .u32 (A .aT .or .u32 (A .aT .or .u32 (A .aT .shl .u32 (A .conv .u32 y0) 24) (A .aT .shl .u32 (A .conv .u32 y1) 16)) (A .aT .shl .u32 (A .conv .u32 y2) 8)) (A .conv .u32 y3)) (wF P j):=by rw[wE];exact((((lp.bQO (A:=A) cb).shl (A:=A) (n:=24) (i:=24) ⟨rfl⟩ (by decide)).or (A:=A) ((lp.bQO (A:=A) bS).shl (A:=A) (n:=16) (i:=16) ⟨rfl⟩ (by decide))).or (A:=A) ((lp.bQO (A:=A) uB).shl (A:=A) (n:=8) (i:=8) ⟨rfl⟩ (by decide))).or (A:=A) (lp.bQO (A:=A) Ta)
   have JF:∀h',RS h h' E u n8 Z S (ys.set j (wF P j)) (.slice O r Y) T->K 16 (16-(j+1)) (A .aT .add .i64 y 1) h':=λh' r'=>by
    rw[L];exact⟨j+1,_,o.succ (A:=A),rfl,kO,by omega,QB.set (by omega),r'⟩
   have tY:16-(j+1)<w2:=by omega
   have nF:j<ys.length:=by rw[QB.len];omega
   clear L QP f2 wE;cbv;refine⟨⟨iV,c0⟩,?_⟩;cbv;refine r7.st.load t0 p0.eq (λcs M=>?_);have M:cs=[.int .u8 y0]:=by rw[cb];exact M
   subst M;cbv;refine⟨by decide,?_⟩;cbv;refine⟨⟨iV,c1⟩,?_⟩;cbv;refine r7.st.load (i:=64*i+4*j+1) (by rw[kQc];exact t1) p1.eq (λcs M=>?_);have M:cs=[.int .u8 y1]:=by rw[bS];exact M
   subst M;cbv;refine⟨by decide,?_⟩;cbv;refine⟨⟨iV,c2⟩,?_⟩;cbv;refine r7.st.load (i:=64*i+4*j+2) (by rw[kQc];exact t2) p2.eq (λcs M=>?_);have M:cs=[.int .u8 y2]:=by rw[uB];exact M
   subst M;cbv;refine⟨by decide,?_⟩;cbv;refine⟨⟨iV,c3⟩,?_⟩;cbv;refine r7.st.load (i:=64*i+4*j+3) (by rw[kQc];exact t3) p3.eq (λcs M=>?_);have M:cs=[.int .u8 y3]:=by rw[Ta];exact M
   subst M;cbv;refine⟨R,?_⟩;cbv;refine r7.o8.setAt (s:=pF) (by simp[pF]) nF o.eq rfl (x:=wF P j) ⟨_,rfl,hR⟩ (λh8 k8 t8 o8=>?_);have Kl:=JF h8 (r7.w8 z8 bx aC k8 t8 o8);clear JF k8 t8;cbv;refine⟨16-(j+1),A .aT .add .i64 y 1,tY,by constructor<;>cbv,Kl⟩
  rw[bn kO];have ec:j=16:=by omega
  subst ec;have JF:K 64 48 16 h7:=by rw[L];exact⟨16,ys,⟨rfl⟩,rfl,by omega,λ_=>by omega,QB,r7⟩
  clear f2 r7 QP;cbv;refine aX.go (G:=Int) (λy=>[(12,.v (.int .i64 y))]) (λ_=>[(2,List.replicate 32 (.int .u8 0))]) (λw y h'=>K 64 w y h') 48 16 (by constructor<;>cbv) JF ?_
  intro w3 y h8 D;rw[L]at D;cbv;obtain⟨j,ys,o,eu,hj,bM,QB,r8⟩:=D;have bM:=bM rfl;have f3:A .aN .lss y 64=decide (j<64):=by rw[aR A,o.eq];exact decide_eq_decide.2 (by omega)
  obtain⟨g,oF,Nr⟩:=Hh r8.o8 QB.len;rw[f3];by_cases GB:j<64
  .rw[ak GB];have ct:=o.sub (A:=A) (w:=15) (j:=15) ⟨rfl⟩ (by omega) (by omega);have i2:=o.sub (A:=A) (w:=2) (j:=2) ⟨rfl⟩ (by omega) (by omega);have ag:=o.sub (A:=A) (w:=16) (j:=16) ⟨rfl⟩ (by omega) (by omega);have i7:=o.sub (A:=A) (w:=7) (j:=7) ⟨rfl⟩ (by omega) (by omega);have TN:=Nr _ _ (QB.get (j-15) (by omega));have g2:=Nr _ _ (QB.get (j-2) (by omega));have di:=Nr _ _ (QB.get (j-16) (by omega));have g7:=Nr _ _ (QB.get (j-7) (by omega));have dn:=ct.ix (len:=64) (by omega);have c2:=i2.ix (len:=64) (by omega);have dm:=ag.ix (len:=64) (by omega);have c7:=i7.ix (len:=64) (by omega);have R:=o.ix (len:=64) (by omega);have wE:wF P j=fJL (wF P (j-2))+wF P (j-7)+fJM (wF P (j-15))+wF P (j-16):=by rw[wF,if_neg (by omega),if_pos (by omega)];ac_rfl
   have Kl:∀h',RS h h' E u n8 Z S (ys.set j (wF P j)) (.slice O r Y) T->K 64 (64-(j+1)) (A .aT .add .i64 y 1) h':=λh' r'=>by
    rw[L];exact⟨j+1,_,o.succ (A:=A),rfl,GB,by omega,QB.set GB,r'⟩
   have Ju:64-(j+1)<w3:=by omega
   have nF:j<ys.length:=by rw[QB.len];omega
   have dk:j-15<64:=by omega
   have b2:j-2<64:=by omega
   have ZL:j-16<64:=by omega
   have b7:j-7<64:=by omega
   clear f3 L JF Nr bX;cbv;repeat (first|(refine oL oF ct dk ?_;cbv)|(refine oL oF i2 b2 ?_;cbv)|(refine oL oF i7 b7 ?_;cbv)|(refine oL oF ag ZL ?_;cbv)|(refine⟨dn,?_⟩;cbv)|(refine⟨c2,?_⟩;cbv)|(refine⟨c7,?_⟩;cbv)|(refine⟨dm,?_⟩;cbv)|(refine⟨by decide,?_⟩;cbv))
   refine yq g2 (n:=17) (by decide) (by decide) rfl (λw1 Nm=>?_);cbv;repeat (first|(refine oL oF i7 b7 ?_;cbv)|(refine oL oF ag ZL ?_;cbv)|(refine⟨⟨_,rfl,rfl⟩,?_⟩;cbv))
   refine yq g2 (n:=19) (by decide) (by decide) rfl (λeU dB=>?_);cbv;repeat (first|(refine oL oF i7 b7 ?_;cbv)|(refine oL oF ag ZL ?_;cbv)|(refine⟨⟨_,rfl,rfl⟩,?_⟩;cbv))
   refine yq TN (n:=7) (by decide) (by decide) rfl (λeT du=>?_);cbv;repeat (first|(refine oL oF i7 b7 ?_;cbv)|(refine oL oF ag ZL ?_;cbv)|(refine⟨⟨_,rfl,rfl⟩,?_⟩;cbv))
   refine yq TN (n:=18) (by decide) (by decide) rfl (λw4 cn=>?_);cbv;repeat (first|(refine oL oF i7 b7 ?_;cbv)|(refine oL oF ag ZL ?_;cbv)|(refine⟨⟨_,rfl,rfl⟩,?_⟩;cbv))
   have hR:=(((((Nm.xor (A:=A) dB).xor (A:=A) (g2.shr (A:=A) (n:=10) (i:=10) ⟨rfl⟩ (by decide)))).add (A:=A) g7).add (A:=A) ((du.xor (A:=A) cn).xor (A:=A) (TN.shr (A:=A) (n:=3) (i:=3) ⟨rfl⟩ (by decide)))).add (A:=A) di;refine⟨R,?_⟩;cbv;refine r8.o8.setAt (s:=pF) (by simp[pF]) nF o.eq rfl (x:=wF P j) ⟨_,rfl,by rw[wE];exact hR⟩ (λh9 k9 t9 o9=>?_);have Pc:=Kl h9 (r8.w8 z8 bx aC k9 t9 o9);clear Kl k9 t9;cbv;refine⟨64-(j+1),A .aT .add .i64 y 1,Ju,by constructor<;>cbv,Pc⟩
  have Yy:j=64:=by omega
  subst Yy;rw[bn GB];have Nr:∀j,j<64->lp (g j) (wF P j):=λj hj=>Nr j _ (QB.get j hj);have cP:=QB.len;obtain⟨a0,a1,a2,a3,a4,a5,a6,a7,B,w8⟩:=Vs r8.o4;clear f3 L JF QB;cbv;refine cr B ?_;cbv;intro GK h9 Yl e9;have l9:Le h8 h9:=by rw[e9];exact Le.set Yl
  have TN:h9 GK=zcL 357 (List.replicate 8 (.int .u32 0)):=(congrFun e9 GK).trans ae;have d3:E≠GK:=mM r8.g3 Yl;have d4:u≠GK:=mM B Yl;have d8:n8≠GK:=mM oF Yl;have cp:=r8.le.none Yl;have r9:=r8.mono l9;have cd:=l9 _ _ oF;clear e9 B oF;cbv;refine ju TN (kB _) (λiw qF=>?_);have AD:Kp [GK] h9 iw:=by rw[qF];exact Kp.set (by simp)
  have bq:=r9.gKS cp d3 d4 d8 AD (by rw[qF];exact cO.set TN (by decide));have TN:iw GK=zcL 357 (El a0 a1 a2 a3 a4 a5 a6 a7):=by rw[qF,ae];rfl
  have bo:=AD _ _ cd (by simpa using d8);obtain⟨Q,an⟩:∃Q:Nat->Int->ad->Prop,∀w y h',Q w y h'=(∃j b0 b1 b2 b3 b4 b5 b6 b7,aZ y j/\w=64-j/\j<=64/\RS h h' E u n8 Z S ys (.slice O r Y) T/\h' n8=zcL 355 (wl g)/\h' GK=zcL 357 (El b0 b1 b2 b3 b4 b5 b6 b7)/\Vg b0 b1 b2 b3 b4 b5 b6 b7 (yu P S j)):=⟨_,λ_ _ _=>rfl⟩;have bc:Q 64 0 iw:=by rw[an];exact⟨0,_,_,_,_,_,_,_,_,⟨rfl⟩,rfl,by omega,bq,bo,TN,w8⟩
  clear qF AD bq TN bo r9 r8 cd w8;cbv;refine aX.go (G:=Int) (λy=>[(16,.v (.int .i64 y))]) (λ_=>[(2,List.replicate 32 (.int .u8 0))]) (λw y h'=>Q w y h') 64 0 (by constructor<;>cbv) bc ?_
  intro w4 y oM D;rw[an]at D;cbv;obtain⟨j,b0,b1,b2,b3,b4,b5,b6,b7,o,cn,hj,UI,gw,d,w8⟩:=D;have f4:A .aN .lss y 64=decide (j<64):=by rw[aR A,o.eq];exact decide_eq_decide.2 (by omega)
  rw[f4];by_cases U:j<64
  .rw[ak U];have R:=o.ix (len:=64) (by omega);have gk:=eb j U;have en:=Nr j U;have cq:∀h' x v,RS h h' E u n8 Z S ys (.slice O r Y) T->h' n8=zcL 355 (wl g)->h' GK=zcL 357 (El x b0 b1 b2 v b4 b5 b6)->Vg x b0 b1 b2 v b4 b5 b6 (bJg (yu P S j) (GM.getD j 0) (wF P j))->Q (64-(j+1)) (A .aT .add .i64 y 1) h':=λh' x v r' q8 aH q=>by
    rw[an];exact⟨j+1,_,_,_,_,_,_,_,_,o.succ (A:=A),rfl,U,r',q8,aH,q⟩
   have dW:64-(j+1)<w4:=by omega
   have p:=UI.g3;clear an bc f4 bX;generalize yu P S j=t at *;cbv;repeat ((first|refine fI (i:=4) rfl d rfl ?_|refine fI (i:=0) rfl d rfl ?_|refine fI (i:=7) rfl d rfl ?_|refine fI (i:=5) rfl d rfl ?_|refine fI (i:=6) rfl d rfl ?_|refine fI (i:=1) rfl d rfl ?_|refine fI (i:=2) rfl d rfl ?_|refine fI (i:=3) rfl d rfl ?_|refine oL p o U ?_|refine oL gw o U ?_|refine⟨by decide,?_⟩ |refine⟨R,?_⟩ |refine⟨⟨_,rfl,rfl⟩,?_⟩);cbv)
   refine yq w8.e (n:=6) (by decide) (by decide) rfl (λw6 bk=>?_);cbv;repeat ((first|refine fI (i:=4) rfl d rfl ?_|refine fI (i:=0) rfl d rfl ?_|refine fI (i:=7) rfl d rfl ?_|refine fI (i:=5) rfl d rfl ?_|refine fI (i:=6) rfl d rfl ?_|refine fI (i:=1) rfl d rfl ?_|refine fI (i:=2) rfl d rfl ?_|refine fI (i:=3) rfl d rfl ?_|refine oL p o U ?_|refine oL gw o U ?_|refine⟨by decide,?_⟩ |refine⟨R,?_⟩ |refine⟨⟨_,rfl,rfl⟩,?_⟩);cbv)
   refine yq w8.e (n:=11) (by decide) (by decide) rfl (λew cw=>?_);cbv;repeat ((first|refine fI (i:=4) rfl d rfl ?_|refine fI (i:=0) rfl d rfl ?_|refine fI (i:=7) rfl d rfl ?_|refine fI (i:=5) rfl d rfl ?_|refine fI (i:=6) rfl d rfl ?_|refine fI (i:=1) rfl d rfl ?_|refine fI (i:=2) rfl d rfl ?_|refine fI (i:=3) rfl d rfl ?_|refine oL p o U ?_|refine oL gw o U ?_|refine⟨by decide,?_⟩ |refine⟨R,?_⟩ |refine⟨⟨_,rfl,rfl⟩,?_⟩);cbv)
   refine yq w8.e (n:=25) (by decide) (by decide) rfl (λeH cG=>?_);cbv;repeat ((first|refine fI (i:=4) rfl d rfl ?_|refine fI (i:=0) rfl d rfl ?_|refine fI (i:=7) rfl d rfl ?_|refine fI (i:=5) rfl d rfl ?_|refine fI (i:=6) rfl d rfl ?_|refine fI (i:=1) rfl d rfl ?_|refine fI (i:=2) rfl d rfl ?_|refine fI (i:=3) rfl d rfl ?_|refine oL p o U ?_|refine oL gw o U ?_|refine⟨by decide,?_⟩ |refine⟨R,?_⟩ |refine⟨⟨_,rfl,rfl⟩,?_⟩);cbv)
   refine yq w8.a (n:=2) (by decide) (by decide) rfl (λv2 Nn=>?_);cbv;repeat ((first|refine fI (i:=4) rfl d rfl ?_|refine fI (i:=0) rfl d rfl ?_|refine fI (i:=7) rfl d rfl ?_|refine fI (i:=5) rfl d rfl ?_|refine fI (i:=6) rfl d rfl ?_|refine fI (i:=1) rfl d rfl ?_|refine fI (i:=2) rfl d rfl ?_|refine fI (i:=3) rfl d rfl ?_|refine oL p o U ?_|refine oL gw o U ?_|refine⟨by decide,?_⟩ |refine⟨R,?_⟩ |refine⟨⟨_,rfl,rfl⟩,?_⟩);cbv)
   refine yq w8.a (n:=13) (by decide) (by decide) rfl (λfb dJ=>?_);cbv;repeat ((first|refine fI (i:=4) rfl d rfl ?_|refine fI (i:=0) rfl d rfl ?_|refine fI (i:=7) rfl d rfl ?_|refine fI (i:=5) rfl d rfl ?_|refine fI (i:=6) rfl d rfl ?_|refine fI (i:=1) rfl d rfl ?_|refine fI (i:=2) rfl d rfl ?_|refine fI (i:=3) rfl d rfl ?_|refine oL p o U ?_|refine oL gw o U ?_|refine⟨by decide,?_⟩ |refine⟨R,?_⟩ |refine⟨⟨_,rfl,rfl⟩,?_⟩);cbv)
   refine yq w8.a (n:=22) (by decide) (by decide) rfl (λeW dH=>?_);cbv;repeat ((first|refine fI (i:=4) rfl d rfl ?_|refine fI (i:=0) rfl d rfl ?_|refine fI (i:=7) rfl d rfl ?_|refine fI (i:=5) rfl d rfl ?_|refine fI (i:=6) rfl d rfl ?_|refine fI (i:=1) rfl d rfl ?_|refine fI (i:=2) rfl d rfl ?_|refine fI (i:=3) rfl d rfl ?_|refine oL p o U ?_|refine oL gw o U ?_|refine⟨by decide,?_⟩ |refine⟨R,?_⟩ |refine⟨⟨_,rfl,rfl⟩,?_⟩);cbv)
   have hX:=((((w8.h.add (A:=A) ((bk.xor (A:=A) cw).xor (A:=A) cG)).add (A:=A) ((w8.e.and (A:=A) w8.f).xor (A:=A) ((w8.e.not (A:=A)).and (A:=A) w8.g))).add (A:=A) gk).add (A:=A) en);have hY:=((Nn.xor (A:=A) dJ).xor (A:=A) dH).add (A:=A) (((w8.a.and (A:=A) w8.b).xor (A:=A) (w8.a.and (A:=A) w8.c)).xor (A:=A) (w8.b.and (A:=A) w8.c));refine ju d (kB _) (λtA aq=>?_);have bj:Kp [GK] oM tA:=by rw[aq];exact Kp.set (by simp)
   have aH:tA GK=zcL 357 (El _ b0 b1 b2 _ b4 b5 b6):=(congrFun aq GK).trans ae;have er:=cq tA _ _ (UI.gKS cp d3 d4 d8 bj (by rw[aq];exact cO.set d (by decide))) (bj _ _ gw (by simpa using d8)) aH ⟨hX.add (A:=A) hY,w8.a,w8.b,w8.c,w8.d.add (A:=A) hX,w8.e,w8.f,w8.g⟩;clear cq aq;cbv;refine⟨64-(j+1),A .aT .add .i64 y 1,dW,by constructor<;>cbv,er⟩
  rw[bn U];have Yy:j=64:=by omega
  subst Yy;generalize ht:yu P S 64=t at *;have ch:Ha S P=S.add t:=by unfold Ha;rw[ht,W8.add_comm]
  rw[ch]at bX;clear ch ht;obtain⟨I,V⟩:∃I:Nat->Int->ad->Prop,∀w y h',I w y h'=(∃j,aZ y j/\w=8-j/\j<=8/\Le h h'/\h' E=zcL 355 (wl Z)/\cZ 355 pF h' n8 64 ys/\Sl 5 cj h' (.slice O r Y) T/\cZ 357 pF h' GK 8 t.l/\cZ 357 pF h' u 8 (Bg S t j)):=⟨_,λ_ _ _=>rfl⟩;have jU:I 8 0 oM:=by rw[V];exact⟨0,⟨rfl⟩,rfl,by omega,UI.le,UI.g3,UI.o8,UI.st,Em d w8,UI.o4⟩
  clear d gw an bc f4 UI;cbv;refine aX.go (G:=Int) (λy=>[(20,.v (.int .i64 y))]) (λ_=>[(2,List.replicate 32 (.int .u8 0))]) (λw y h'=>I w y h') 8 0 (by constructor<;>cbv) jU ?_
  intro w5 y tA D;rw[V]at D;cbv;obtain⟨j,o,eO,hj,fa,p,o8,st,bQ,H⟩:=D;have f5:A .aN .lss y 8=decide (j<8):=by rw[aR A,o.eq];exact decide_eq_decide.2 (by omega)
  rw[f5];by_cases ab:j<8
  .rw[ak ab];have R:=o.ix (len:=8) (by omega);have dG:8-(j+1)<w5:=by omega
   have dc:=MQ S t ab;have dr:t.l[j]? =some (t.l.getD j 0):=by rw[yz,zG (show j<t.l.length from ab)];rfl
   have jT:∀h',Le h h'->h' E=zcL 355 (wl Z)->cZ 355 pF h' n8 64 ys->Sl 5 cj h' (.slice O r Y) T->cZ 357 pF h' GK 8 t.l->cZ 357 pF h' u 8 ((Bg S t j).set j (S.l.getD j 0+t.l.getD j 0))->I (8-(j+1)) (A .aT .add .i64 y 1) h':=λh' l' x1 x2 x3 x4 x5=>by
    rw[V];rw[MP S t ab]at x5;exact⟨j+1,o.succ (A:=A),rfl,ab,l',x1,x2,x3,x4,x5⟩
   have nF:j<(Bg S t j).length:=by unfold Bg;simpa using ab
   clear V jU f5 bX;cbv;refine⟨R,?_⟩;cbv;refine(H.sl (n:=8) rfl).load dc o.eq (λcs M=>?_);obtain⟨u4,rfl,cx⟩:=M;cbv;refine⟨R,?_⟩;cbv;refine(bQ.sl (n:=8) rfl).load dr o.eq (λcs M=>?_);obtain⟨fc,rfl,dO⟩:=M;cbv;refine⟨R,?_⟩;cbv;refine H.setAt (s:=pF) (by simp[pF]) nF o.eq rfl ⟨_,rfl,cx.add (A:=A) dO⟩ (λcL al cv db=>?_);have AP:=jT cL (fa.aV (bs:=[u]) (by simpa using z4) al) (al _ _ p (by simpa using br)) (o8.kp al (by simpa using Ne.symm aC) (λ_ _ _ _ hm _=>by cases hm)) (st.mono (cv _ (by decide))) (bQ.kp al (by simpa using Ne.symm d4) (λ_ _ _ _ hm _=>by cases hm)) db;clear jT al cv;cbv;refine⟨8-(j+1),A .aT .add .i64 y 1,dG,by constructor<;>cbv,AP⟩
  rw[bn ab];have bd:j=8:=by omega
  subst bd;rw[ZT]at H;have iD:=bX tA ys cP ⟨fa,p,H,o8,st⟩;clear bX V jU f5;cbv;refine⟨_,A .aT .add .i64 z 64,aU,by constructor<;>cbv,iD⟩
 rw[bn hc];have ed:64*i=T.length:=by omega
 rw[ed,kQF,Pv]at hF;subst hF;obtain⟨G,B,hG⟩:=bZx r6.o4;have l6:=r6.le;clear bD dL f1 r6;cbv;intro Nh h7 aB e7;have l7:Le h6 h7:=by rw[e7];exact Le.set aB
 have ao:u≠Nh:=mM B aB;have aw:=l6.none aB;obtain⟨I,V⟩:∃I:Nat->Int->ad->Prop,∀w y h',I w y h'=(∃j g,aZ y j/\w=8-j/\j<=8/\Le h h'/\h' u=zcL 357 (eKj G)/\h' Nh=zcL 100 (hl g)/\∀a,a<4*j->g a=((wB (S.l.getD (a / 4) 0) (a % 4)).toNat:Int)):=⟨_,λ_ _ _=>rfl⟩;have jU:I 8 0 h7:=by rw[V];exact⟨0,λ_=>0,⟨rfl⟩,rfl,by omega,l6.trans l7,l7 _ _ B,(congrFun e7 Nh).trans ae,λa ha=>by omega⟩
 clear e7 B;cbv;refine aX.go (G:=Int) (λy=>[(22,.v (.int .i64 y))]) (λ_=>[(2,List.replicate 32 (.int .u8 0))]) (λw y h'=>I w y h') 8 0 (by constructor<;>cbv) jU ?_
 intro w6 y h8 D;rw[V]at D;cbv;obtain⟨j,g,o,bk,hj,l8,B,X,hg⟩:=D;have f6:A .aN .lss y 8=decide (j<8):=by rw[aR A,o.eq];exact decide_eq_decide.2 (by omega)
 rw[f6];by_cases US:j<8
 .rw[ak US];have m0:aZ (A .aT .mul .i64 4 y) (4*j):=⟨by
   rw[hA.aT,o.eq];show IntKind.i64.wrap (4*(j:Int))=_;rw[IntWalk.i64_in _ (by omega)];omega⟩
  have m1:=m0.succ (A:=A);have m2:=m0.add (A:=A) (w:=2) (j:=2) ⟨rfl⟩ (by omega);have m3:=m0.add (A:=A) (w:=3) (j:=3) ⟨rfl⟩ (by omega);have c0:=m0.ix (len:=32) (by omega);have c1:=m1.ix (len:=32) (by omega);have c2:=m2.ix (len:=32) (by omega);have c3:=m3.ix (len:=32) (by omega);have R:=o.ix (len:=8) (by omega);have hu:=hG j US;have v0:=hu.wB (A:=A) (m:=24) (j:=0) (by decide) rfl;have v1:=hu.wB (A:=A) (m:=16) (j:=1) (by decide) rfl;have v2:=hu.wB (A:=A) (m:=8) (j:=2) (by decide) rfl;have v3:=hu.iQG (A:=A);have gj:=aXh G US;have ax:=o.eq;have dF:8-(j+1)<w6:=by omega
  have jT:∀h' x0 x1 x2 x3,x0=((wB (S.l.getD j 0) 0).toNat:Int)->x1=((wB (S.l.getD j 0) 1).toNat:Int)->x2=((wB (S.l.getD j 0) 2).toNat:Int)->x3=((wB (S.l.getD j 0) 3).toNat:Int)->Le h h'->h' u=zcL 357 (eKj G)->
   h' Nh=zcL 100 (((((hl g).set (4*j) (.int .u8 x0)).set (4*j+1) (.int .u8 x1)).set (4*j+2) (.int .u8 x2)).set (4*j+3) (.int .u8 x3))->I (8-(j+1)) (A .aT .add .i64 y 1) h':=λh' x0 x1 x2 x3 e0 e1 e2 e3 l' g' q'=>by
   rw[V];rw[Cl _ _ (by omega),Cl _ _ (by omega),Cl _ _ (by omega),Cl _ _ (by omega)]at q';refine⟨j+1,_,o.succ (A:=A),rfl,US,l',g',q',λa ha=>?_⟩;show(if a=4*j+3 then x3 else if a=4*j+2 then x2 else if a=4*j+1 then x1 else if a=4*j then x0 else g a)=_;by_cases a3:a=4*j+3
   .rw[if_pos a3,e3,a3,show(4*j+3) / 4=j by omega,show(4*j+3) % 4=3 by omega]
   rw[if_neg a3];by_cases a2:a=4*j+2
   .rw[if_pos a2,e2,a2,show(4*j+2) / 4=j by omega,show(4*j+2) % 4=2 by omega]
   rw[if_neg a2];by_cases a1:a=4*j+1
   .rw[if_pos a1,e1,a1,show(4*j+1) / 4=j by omega,show(4*j+1) % 4=1 by omega]
   rw[if_neg a1];by_cases a0:a=4*j
   .rw[if_pos a0,e0,a0,show(4*j) / 4=j by omega,show(4*j) % 4=0 by omega]
   rw[if_neg a0];exact hg a (by omega)
  clear V jU f6 hg;cbv;repeat (first|(refine fI ax B gj ?_;cbv)|(refine⟨R,?_⟩;cbv)|(refine⟨by decide,?_⟩;cbv))
  refine⟨c0,?_⟩;cbv;refine bZN m0 X (by show 0+4*j<32;omega) (λx0 aW=>?_);have aG:Kp [Nh] h8 x0:=by rw[aW];exact Kp.set (by simp)
  have B:=aG _ _ B (by simpa using ao);have ej:=l8.aV (bs:=[Nh]) (by simpa using aw) aG;have X:x0 Nh=zcL 100 ((hl g).set (4*j) (.int .u8 (A .conv .u8 (A .aT .shr .u32 (G j) 24)))):=by rw[aW,ae,tT]
  clear aW aG;cbv;repeat (first|(refine fI ax B gj ?_;cbv)|(refine⟨⟨_,rfl,rfl⟩,?_⟩;cbv))
  refine⟨c1,?_⟩;cbv;refine bZN m1 X (by rw[nM];show 0+(4*j+1)<32;omega) (λx1 aM=>?_);have aF:Kp [Nh] x0 x1:=by rw[aM];exact Kp.set (by simp)
  have B:=aF _ _ B (by simpa using ao);have dd:=ej.aV (bs:=[Nh]) (by simpa using aw) aF;have X:x1 Nh=zcL 100 (((hl g).set (4*j) (.int .u8 (A .conv .u8 (A .aT .shr .u32 (G j) 24)))).set (4*j+1) (.int .u8 (A .conv .u8 (A .aT .shr .u32 (G j) 16)))):=by rw[aM,ae,tT]
  clear aM aF;cbv;repeat (first|(refine fI ax B gj ?_;cbv)|(refine⟨⟨_,rfl,rfl⟩,?_⟩;cbv))
  refine⟨c2,?_⟩;cbv;refine bZN m2 X (by rw[nM];rw[nM];show 0+(4*j+2)<32;omega) (λx2 aK=>?_);have aE:Kp [Nh] x1 x2:=by rw[aK];exact Kp.set (by simp)
  have B:=aE _ _ B (by simpa using ao);have eh:=dd.aV (bs:=[Nh]) (by simpa using aw) aE;have X:x2 Nh=zcL 100 ((((hl g).set (4*j) (.int .u8 (A .conv .u8 (A .aT .shr .u32 (G j) 24)))).set (4*j+1) (.int .u8 (A .conv .u8 (A .aT .shr .u32 (G j) 16)))).set (4*j+2) (.int .u8 (A .conv .u8 (A .aT .shr .u32 (G j) 8)))):=by rw[aK,ae,tT]
  clear aK aE;cbv;repeat (first|(refine fI ax B gj ?_;cbv)|(refine⟨⟨_,rfl,rfl⟩,?_⟩;cbv))
  refine⟨c3,?_⟩;cbv;refine bZN m3 X (by rw[nM];rw[nM];rw[nM];show 0+(4*j+3)<32;omega) (λx3 aI=>?_);have aD:Kp [Nh] x2 x3:=by rw[aI];exact Kp.set (by simp)
  have B:=aD _ _ B (by simpa using ao);have eg:=eh.aV (bs:=[Nh]) (by simpa using aw) aD;have X:x3 Nh=zcL 100 (((((hl g).set (4*j) (.int .u8 (A .conv .u8 (A .aT .shr .u32 (G j) 24)))).set (4*j+1) (.int .u8 (A .conv .u8 (A .aT .shr .u32 (G j) 16)))).set (4*j+2) (.int .u8 (A .conv .u8 (A .aT .shr .u32 (G j) 8)))).set (4*j+3) (.int .u8 (A .conv .u8 (G j)))):=by rw[aI,ae,tT]
  clear aI aD;cbv;have AP:=jT x3 _ _ _ _ v0 v1 v2 v3 eg B X;clear jT;cbv;refine⟨_,A .aT .add .i64 y 1,dF,by constructor<;>cbv,AP⟩
 rw[bn US];have bd:j=8:=by omega
 subst bd;have:=hk h8 g l8 (AN (vQ _) λa x hx=>by
  have ha:a<32:=by have:=(ff.1 hx).1;rw[vQ]at this;exact this
  rw[Lm _ ha]at hx;cases hx;exact hg a (by omega))
 clear hk V jU;cbv;refine cr X ?_;cbv;exact this
theorem aQe{l:Bs}(q:Sl e1 cj h (.slice b n c) l)(C:n<=2^37)
 (o:∀h' g,Le h h'->hl g=aQ (AA l)->k (.agg (hl g).toArray) h'):Ct 300 [.slice b n c] h k:=by
 have e:=q.len;refine cg eQv Tryz.func300 λA B=>?_;cbv;intro i a f e1;have d:Le h a:=by rw[e1];exact Le.set f
 have u:bt 5 cj h a (.slice (zsA i) 1 1) [0]:=(DJ (s:=cj) (x:=0) ((congrFun e1 i).trans ae) rfl).buf f rfl;clear e1;cbv;refine u.app (q.mono (d.t _)) (by decide) rfl (by decide) (by omega) d (λD w y z N r E p v=>?_);clear p;cbv;refine MX v.sl (by omega) (λj g t m=>?_);have:=o j g (r.trans t) m;cbv;exact this
theorem eJI{i j:Nat->Int}{x y:Bs}(h0:hl i=aQ x)(u:hl j=aQ y)(hx:x.length=32)(z:y.length=32)
 (o:∀h' g,Le h h'->hl g=aQ (Ab x y)->k (.agg (hl g).toArray) h'):Ct 292 [.agg (hl i).toArray,.agg (hl j).toArray] h k:=by
 have T:Ab x y=Sw ([1]++x++y):=by unfold Ab;simp
 rw[T]at o;clear T;refine cg eQD Tryz.func292 λA X=>?_;cbv;intro q l U e;have D:Le h l:=by rw[e];exact Le.set U
 have a:l q=zcL 100 (hl i):=(congrFun e q).trans ae;clear e;cbv;intro r c J d;have p:Le l c:=by rw[d];exact Le.set J
 have b:c r=zcL 100 (hl j):=(congrFun d r).trans ae;have a:=p _ _ a;clear d;cbv;intro t n F f;have m:Le c n:=by rw[f];exact Le.set F
 have I:bt 5 cj c n (.slice (zsA t) 1 1) [1]:=(DJ (s:=cj) (x:=1) ((congrFun f t).trans ae) rfl).buf F rfl;have a:=m _ _ a;have b:=m _ _ b;clear f;cbv;refine I.app (jR a h0 hx) (by decide) rfl (by decide) (by decide) m (λY O R V N E M B K=>?_);have b:=M [100] (by decide) _ _ _ _ (by simp) b;clear B;cbv;refine K.app (jR b u z) (by decide) rfl (by decide) (by omega) E (λZ P S W Q G t6 C L=>?_);clear C;cbv;refine MX L.sl (by omega) (λv g H w=>?_);have:=o v g ((D.trans p).trans (G.trans H)) w;cbv;exact this
theorem bJa(p:aZ z n)(s:2<=n)(q:n<=2^60)(a:∀w,aZ w (AY n)->k (.int .i64 w) h):Ct 291 [.int .i64 z] h k:=by
 obtain⟨J,b⟩:∃J:Nat->Int->ad->Prop,∀w y h',J w y h'=(∃i,aZ y i/\w=n-i/\0<i/\i<n/\h'=h/\Cw i n=AY n):=⟨_,λ_ _ _=>rfl⟩;have d:J (n-1) 1 h:=by rw[b];exact⟨1,⟨rfl⟩,rfl,by omega,by omega,rfl,rfl⟩
 generalize AY n=C at *;refine cg eQE Tryz.func291 λA l=>?_;cbv;refine aX.go (G:=Int) (λy=>[(3,.v (.int .i64 y))]) (λ_=>[]) (λw y h'=>J w y h') (n-1) 1 (by constructor<;>cbv) d ?_
 intro w y j I;rw[b]at I;cbv;obtain⟨i,g,t,h0,r,rfl,e⟩:=I;have m:A .aT .mul .i64 2 y=((2*i:Nat):Int):=by rw[l.aT,g.eq];show IntKind.i64.wrap (2*(i:Int))=_;rw[IntWalk.i64_in _ (by omega)];omega
 have f:A .aN .lss (A .aT .mul .i64 2 y) z=decide (2*i<n):=by rw[m,aR A,p.eq];exact decide_eq_decide.2 (by omega)
 have F:Cw i n=if h:2*i<n/\0<i then Cw (2*i) n else i:=by rw[Cw]
 rw[f];by_cases c:2*i<n
 .rw[dif_pos ⟨c,h0⟩,e]at F;have D:J (n-2*i) (A .aT .mul .i64 2 y) j:=by rw[b];exact⟨2*i,⟨m⟩,rfl,by omega,c,rfl,F.symm⟩
  have U:n-2*i<w:=by omega
  rw[ak c];clear b d a f m;cbv;refine⟨_,A .aT .mul .i64 2 y,U,by constructor<;>cbv,D⟩
 rw[dif_neg (λo=>c o.1),e]at F;have:=a y (by rw[F];exact g);rw[bn c];clear b d a f m;cbv;exact this
theorem aQb(N:Nat):∀ {h:ad} {b:Option Addr} {n c:Nat} {L:List Bs} (q:Sl 100 yj h (.slice b n c) L) (F:L.length<=N) {k:Value->ad->Prop}
 (a:∀h' g,Le h h'->hl g=aQ (gP L)->(gP L).length=32->k (.agg (hl g).toArray) h'),Ct 186 [.slice b n c] h k:=by
 induction N with
 |zero=>
  intro h b n c L q F k a;obtain⟨A,u⟩:=Ar.ex;have e:=q.len;have o:L=[]:=kh (by omega);subst o;have s:A .aN .eql (A .nat n) 0=true:=by rw[au A,u.nat,e];rfl
  refine fz aKM A Tryz.func186 ?_;cbv;rw[s];cbv;refine MX (e1:=0) (l:=[]) Sl.nil (by simp) (λt g j d=>?_);have:=a t g j (by rw[d];rw[gP]) (by rw[gP];exact fL _);cbv;exact this
 |succ N p=>
  intro h b n c L q F k a;obtain⟨A,u⟩:=Ar.ex;have e:=q.len;have jQ:=q.bound;have s:A .aN .eql (A .nat n) 0=decide (L.length=0):=by rw[au A,u.nat,<-e];exact decide_eq_decide.2 (by show(n:Int)=0↔_;omega)
  have E:A .aN .eql (A .nat n) 1=decide (L.length=1):=by rw[au A,u.nat,<-e];exact decide_eq_decide.2 (by show(n:Int)=1↔_;omega)
  refine fz aKM A Tryz.func186 ?_;cbv;rw[s];by_cases v:L.length=0
  .have o:L=[]:=kh v;subst o;rw[ak v];clear p;cbv;refine MX (e1:=0) (l:=[]) Sl.nil (by simp) (λt g j d=>?_);have:=a t g j (by rw[d];rw[gP]) (by rw[gP];exact fL _);cbv;exact this
  rw[bn v];cbv;rw[E];by_cases B:L.length=1
  .obtain⟨x,hx⟩:=cB L 0;have o:L=[x]:=by
    match L,B with
    | [y],_=>cases hx;rfl
   have hR:gP L=x:=by rw[o,gP]
   rw[hR]at a;have V:b.isSome=true:=q.bp;have ix:(0:Int)<=0/\(0:Int)<(n:Int):=by omega
   rw[ak B];clear p;cbv;refine⟨⟨V,ix⟩,?_⟩;cbv;refine q.load hx rfl (λcs r=>?_);obtain⟨r,M⟩:=r;obtain⟨g,d⟩:=sK M;rw[<-d]at r;subst r;have:=a h g (Le.refl _) d M;cbv;exact this
  rw[bn B];have hR:=HA (L:=L) (by omega);obtain⟨U,P⟩:=DW (n:=L.length) (by omega);rw[hR]at a;have S:2<=n:=by omega
  have X:L.length=n:=e.symm;rw[X]at a U P;obtain⟨m,G⟩:∃m,m=AY n:=⟨_,rfl⟩;rw[<-G]at a U P;clear s E hR;cbv;refine bJa (aZ.nat n) S (by omega) (λw f=>?_);rw[<-G]at f;have oH:0<=w/\w<=(c:Int):=by have:=f.eq;omega
  have pe:0<=w/\w<=(n:Int):=by have:=f.eq;omega
  have O:=dy (A:=A) f;obtain⟨n2,D⟩:∃x,x=n-m:=⟨_,rfl⟩;obtain⟨c2,Y⟩:∃x,x=c-m:=⟨_,rfl⟩;have C:=cJ (A:=A) (n:=n) f;have R:=cJ (A:=A) (n:=c) f;rw[<-D]at C;rw[<-Y]at R;have tk:=q.vo (A:=A) (z:=A .nat c) (i:=m) (by omega) rfl;have H:=q.jD (A:=A) f (by omega) D Y;cbv;refine⟨oH,?_⟩;cbv;refine⟨pe,?_⟩;cbv;rw[O,C,R];refine p tk (by rw[eA];omega) (λt g1 j yB K=>?_);have J:=H.mono (j.t _);clear H tk;cbv;refine p J (by rw[iz];omega) (λh2 g2 W I Q=>?_);clear p;cbv;refine eJI yB I K Q (λT g Z d=>?_);have:=a T g ((j.trans W).trans Z) d (KC _ _);cbv;exact this
end Go.S
