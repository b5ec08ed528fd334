import Derived.Test.YthnbpiejemlbeaaGreatBR
set_option linter.all false
set_option maxRecDepth 100000
set_option maxHeartbeats 8000000
namespace Go.S
open Go.Sx Go.Proofs
variable {xs ys:Array Value}{s:Bs}{e n:Int}{G:Lg}{ts:List (List mQ)}{cs:List cR}{o:List mQ}{c d p:Nat}{g:Nat->Int}{b:Option Addr}{P:Program}{k:Value->ad->Prop}{w:World}{h:ad}{L L':eO}
theorem Wb{L:List mQ}{n:Nat}(q:Sl 172 eD h (.slice b n c) L)(hB:∀t∈L,Ej t)(hn:n<=2^30)
 (N:∀h' a n' c',Le h h'->Sl 100 yV h' (.slice a n' c') (xw L)->k (.slice a n' c') h'):Ct 187 [.slice b n c] h k:=by
 have O:=q.len;have Su:(xw L).length=L.length:=by unfold xw;simp
 have C:∀ {i:Nat} {t:mQ},L[i]? =some t->(xw L)[i]? =some (ko t.id t.KL):=λh=>Ny h;generalize xw L=H at *;obtain⟨J,j⟩:∃J:Nat->((Option Addr×Nat×Nat)×Int)->ad->Prop,∀w g h',J w g h'=(∃i,bg g.2 i/\w=n-i/\i<=n/\Le h h'/\bA 100 yV h h' (.slice g.1.1 g.1.2.1 g.1.2.2) (H.take i)):=⟨_,λ_ _ _=>rfl⟩;have P:J n ((none,0,0),0) h:=by rw[j];exact⟨0,⟨rfl⟩,rfl,ip,Le.refl _,bA.nil⟩
 refine cB eJQ Tryz.func187 λA hA=>?_;cbv;refine ba.gz (G:=(Option Addr×Nat×Nat)×Int) (λg=>[(3,.v (.slice g.1.1 g.1.2.1 g.1.2.2)),(4,.v (.zI g.2))]) (λ_=>[]) (λw g h'=>J w g h') n ((none,0,0),0) P ?_
 intro w g o K;rw[j]at K;cbv;obtain⟨⟨E,m,F⟩,z⟩:=g;obtain⟨i,e,hw,hi,p,f⟩:=K;have e:bg z i:=e;have f:bA 100 yV h o (.slice E m F) (H.take i):=f;have nQ:=f.sl.len;rw[kJI]at nQ;have D:A .aQ .lss z (A .nat n)=decide (i<n):=by rw[aV A,e.eq,hA.nat];grind
 rw[D];by_cases d:i<n
 .rw[kS d];obtain⟨x,hx⟩:=cK L i;have M:=hB x (kQR hx);have ix:=e.ix d;have iK:b.isSome=true:=q.bu;have X:n-(i+1)<w:=ip
  have fV:=mI (C hx);have B:∀a m' c' h',Le h h'->bA 100 yV h h' (.slice a m' c') (H.take i++[ko x.id x.KL])->J (n-(i+1)) ((a,m',c'),A .aX .add .i64 z 1) h':=λa m' c' h' l' q'=>by
   rw[j];exact⟨i+1,e.succ (A:=A),rfl,d,l',gg⟩
  have oU:m+1<=2^39:=ip
  have u:(ko x.id x.KL).length=32:=gu _;clear D j P fV C;generalize H.take i=Lc at *;obtain⟨T,Z⟩:=x;cbv;refine⟨⟨iK,ix⟩,?_⟩;cbv;refine(q.mono (p.t _)).load hx e.eq (λcs Y=>?_);obtain⟨rb,U,rc,rfl,r⟩:=Y;have r:Sl 161 bD o (.slice rb U rc) Z:=r;have V:U<=2^30:=by rw[r.len];exact M.len
  cbv;refine Wc r (λc d=>(M.dQK c d).row) V (λh3 g Q hg=>?_);have u:(ko T Z).length=32:=u;generalize ko T Z=RH at *;cbv;intro n4 I W l;have R:Le h3 I:=zqs l W
  have q4:=bh (s:=yV) (cs:=hl g) (zqt l) (FA (h:=I) hg u);clear l;cbv;refine(f.mono ((Q.trans R).t _)).append q4 dl rfl dl oU ((p.trans Q).trans R) (λS v y h5 KC l5 t5 k5 q5=>?_);have iL:=B v S y h5 l5 q5;clear B k5;cbv;refine zqn _ ((v,S,y),A .aX .add .i64 z 1) X iL
 rw[kQW d];rw[kXe ip]at f;have:=N o E m F p f.sl;clear j P C N;cbv;exact this
theorem bJK{F:Int}{m c o:Option Addr}{D s n e E t:Nat}{bs:List nV}(q:Sl 113 ek h (.slice c n e) bs)(M:bs.length<=2^20)
 (a:∀h' g,Le h h'->hl g=aT (cV bs).2.1->k (.tuple #[.agg (.zI (cV bs).1::hl g).toArray,.zI (cV bs).2.2]) h'):
 Ct 82 [.agg #[.zI F,.slice m D s,.slice c n e,.slice o E t]] h k:=by
 obtain⟨A,d⟩:=Ar.ex;have L:n=bs.length:=q.len;have f:A .aQ .eql (A .nat n) 0=decide (n=0):=by rw[au A,d.nat];grind
 obtain⟨z,y⟩:∃z,z=A .aX .sub .i64 (A .nat n) 1:=⟨_,rfl⟩;have Y:0<n->bg z (n-1):=λh=>⟨by
  rw[y,d.aX,d.nat];show IntKind.i64.wrap ((n:Int)-1)=_;rw[IntWalk.i64_in _ ip];omega⟩
 refine kh iQn A Tryz.func82 ?_;cbv;rw[f];by_cases i:n=0
 .have l:cV bs=(0,List.replicate 32 0,2):=by have:bs=[]:=kZh ip;subst this;rfl
  rw[l]at a;rw[kS i];have:=a h (λ_=>0) (Le.refl _) rfl;clear a;cbv;exact this
 obtain⟨x,hx⟩:=cK bs (n-1);have l:cV bs=(x.n,eo x,0):=by
  grind [cV,hx]
 rw[l]at a;have Y:=Y ip;have ix:=Y.ix (len:=n) ip;have K:c.isSome=true:=q.bu;rw[kQW i];clear f l;cbv;rw[<-y];refine⟨⟨K,ix⟩,?_⟩;cbv;obtain⟨H,J,xr,G⟩:=x;refine q.load hx Y.eq (λcs r=>?_);obtain⟨r,p,j⟩:=r;obtain⟨u,V⟩:=tJ (b:=J) p;obtain⟨v,I⟩:=tJ (b:=xr) j;have r:cs=Aw H u v G:=by rw[r,nF,V,I]
 subst r;cbv;refine Oo V I p j (λw g C B=>?_);have:=a w g C B;clear a;cbv;exact this
theorem Tp{w:Int}{R b2 b3:Option Addr}{n S c2 n3 c3:Nat}{bs:List nV}(ql:yR h R n S b2 d c2 b3 n3 c3 ⟨w,o,bs,ts⟩)
 (hB:∀t∈o,Ej t) (ho:o.length<=2^20) (hb:bs.length<=2^20) (ht:ts.length<=2^20) 
 (U:∀h' gM wQ fW fK me fU jH rH jG,Le h h'->yR h' gM wQ fW fK me fU jH rH jG (mZ ⟨w,o,bs,ts⟩).1->k (.tuple #[.agg #[.zI w,.slice gM wQ fW,.slice fK me fU,.slice jH rH jG],.zI (mZ ⟨w,o,bs,ts⟩).2]) h'):
 Ct 81 [.agg #[.zI w,.slice R n S,.slice b2 d c2,.slice b3 n3 c3]] h k:=by
 obtain⟨A,hA⟩:=Ar.ex;obtain⟨q1,q2,q3⟩:=ql;have q1:Sl 172 eD h (.slice R n S) o:=q1;have q2:Sl 113 ek h (.slice b2 d c2) bs:=q2;have q3:Sl 47 gN h (.slice b3 n3 c3) ts:=q3;have fG:n=o.length:=q1.len;have fA:d=bs.length:=q2.len;have Hq:n3=ts.length:=q3.len;have f1:A .aQ .eql (A .nat n) 0=decide (n=0):=by rw[au A,hA.nat];grind
 have ld:bg (A .aX .add .i64 (A .nat d) 1) (d+1):=(bg.nat d).succ (A:=A);obtain⟨z,PK⟩:∃z,z=A .aX .add .i64 (A .nat d) 1:=⟨_,rfl⟩;rw[<-PK]at ld;have an:z=((bs.length+1:Nat):Int):=by rw[ld.eq,fA]
 have hE:n≠0->mZ ⟨w,o,bs,ts⟩=(⟨w,[],bs++[⟨z,wv bs,gW (xw o),A .nat n⟩],ts++[o]⟩,0):=λh0=>by
  unfold mZ;rw[if_neg gg,an,hA.nat,fG];rfl
 have GF:n=0->mZ ⟨w,o,bs,ts⟩=(⟨w,o,bs,ts⟩,2):=λh0=>by
  grind [mZ]
 generalize mZ ⟨w,o,bs,ts⟩=RS at *;refine fT A [6,7] (aj iQo.aw iQo.bz) Tryz.func81 rfl (by kernel_rfl) ?_;cbv;rw[f1];by_cases hc:n=0
 .rw[GF hc]at U;have:=U h R n S b2 d c2 b3 n3 c3 (Le.refl _) ⟨q1,q2,q3⟩;rw[kS hc];clear U;cbv;exact this
 rw[hE hc]at U;rw[kQW hc];clear hE GF f1;have f2:A .aQ .gtr (A .nat d) 0=decide (0<d):=by rw[bF A,hA.nat];grind
 obtain⟨z0,yF⟩:∃z0,z0=A .aX .sub .i64 (A .nat d) 1:=⟨_,rfl⟩;have xY:0<d->bg z0 (d-1):=λh=>⟨by
  rw[yF,hA.aX,hA.nat];show IntKind.i64.wrap ((d:Int)-1)=_;rw[IntWalk.i64_in _ ip];omega⟩
 have ao:(xw o).length=o.length:=by unfold xw;simp
 have CN:(wv bs).length=32:=by
  grind [wv,BL]
 obtain⟨p,Gn⟩:∃p,p=wv bs:=⟨_,rfl⟩;rw[<-Gn]at U CN;obtain⟨E,Vk⟩:∃E,E=xw o:=⟨_,rfl⟩;rw[<-Vk]at U ao;obtain⟨r,DF⟩:∃r,r=gW E:=⟨_,rfl⟩;rw[<-DF]at U;obtain⟨C,fo⟩:∃C:(Nat->Int)->ad->Prop,∀g h',C g h'=(Le h h'/\hl g=aT p):=⟨_,λ_ _=>rfl⟩;cbv;rw[<-PK];refine Wb q1 hB ip (λh1 eb en ec l1 qe=>?_);rw[<-Vk]at qe;cbv
 (try rw[<-PK])
 refine aXA _ qe (qA _) (λh2 g1 l2 ui mg=>?_);have fk:=l1.trans l2;rw[<-DF]at ui mg;cbv
 (try rw[<-PK])
 refine kK.go (G:=Nat->Int) (λ_=>[]) (λg=>[(4,Aw z g g1 (A .nat n)),(1,[.zI w,.slice R n S,.slice b2 d c2,.slice b3 n3 c3]),(2,[.zI 0,.zN,.zN,.zN])]) C ?_ ?_
 .cbv;rw[f2];by_cases kD:0<d
  .obtain⟨x,hx⟩:=cK bs (d-1);have ak:p=eo x:=by
    grind [wv,hx]
   have P:∀g h',Le h h'->hl g=aT (eo x)->C g h':=λg h' l' hg=>gg
   have xY:=xY kD;have ix:=xY.ix (len:=d) ip;have iK:b2.isSome=true:=q2.bu;rw[kS kD];clear f2 fo;cbv;rw[<-yF];refine⟨⟨iK,ix⟩,?_⟩;cbv;refine q2.MB fk hx xY.eq (λcs ar=>?_);obtain⟨ar,hp,hr⟩:=ar;obtain⟨xn,xp,xr,xc⟩:=x;obtain⟨gp,IV⟩:=tJ (b:=xp) hp;obtain⟨gr,IU⟩:=tJ (b:=xr) hr;have ar:cs=Aw xn gp gr xc:=by rw[ar,nF,IV,IU]
   subst ar;cbv;refine Oo IV IU hp hr (λT g5 l al=>?_);have y:=P g5 T (fk.trans l) al;clear P;cbv;refine⟨g5,⟨?_,?_,?_⟩,y⟩<;>cbv
  have ak:p=List.replicate 32 0:=by rw[Gn];have:bs=[]:=kZh ip;subst this;rfl
  have y:C (λ_=>0) h2:=by rw[fo,ak];exact⟨fk,rfl⟩
  rw[kQW kD];clear f2 fo;cbv;refine⟨_,⟨?_,?_,?_⟩,y⟩<;>cbv
 intro g Y y;rw[fo]at y;cbv;obtain⟨ls,hg⟩:=y;have ag:=q2.mono (ls.t _);obtain⟨D,zo⟩:∃D:(Option Addr×Nat×Nat)->ad->Prop,∀v h',D v h'=(Le h h'/\Sl 113 ek h' (.slice v.1 v.2.1 v.2.2) (bs++[⟨z,p,r,A .nat n⟩])):=⟨_,λ_ _=>rfl⟩;have P:∀b m c h',Le Y h'->Sl 113 ek h' (.slice b m c) (bs++[⟨z,p,r,A .nat n⟩])->D (b,m,c) h':=λb m c h' l' q'=>by rw[zo];exact⟨ls.trans l',q'⟩
 clear fo f2 xY;cbv;refine kK.go (G:=Option Addr×Nat×Nat) (λ_=>[]) (λv=>[(4,Aw z g g1 (A .nat n)),(1,[.zI w,.slice R n S,.slice v.1 v.2.1 v.2.2,.slice b3 n3 c3]),(2,[.zI 0,.zN,.zN,.zN])]) D ?_ ?_
 .skip;cbv;refine⟨?_,?_⟩
  .skip;intro V f nI F;have i:Le Y f:=zqs F nI
   clear F;have O:bA 113 ek f f (.slice (zsA V) 0 0) ([]:List nV):=bA.nil;cbv;refine⟨?_,?_⟩
   .skip;refine O.append (ag.mono (i.t _)) dl rfl dl ip (Le.refl _) (λm5 b5 c5 T KC l t5 H u=>?_);rw[kZA]at u;clear H;cbv;intro j a L e;have K:Le T a:=zqs e L
    have q:=(i.trans l).trans K;have N:Sl 113 ek a (.slice (zsA j) 1 1) [⟨z,p,r,A .nat n⟩]:=bh (s:=ek) (cs:=Aw z g g1 (A .nat n)) (zqt e) (⟨(nF ..).trans (by rw[hg,ui]),CN,mg⟩);clear e;cbv;refine(u.mono (K.t _)).append N dl rfl dl ip (l.trans K) (λZ W X h6 Q J t6 I M=>?_);have B:=i.trans J;clear I;have y:=P _ _ _ _ B M.sl;clear P;cbv;refine⟨(W,Z,X),⟨?_,?_,?_⟩,y⟩<;>cbv
   skip;intro j a L e;have K:Le f a:=zqs e L
   have q:=i.trans K;have N:Sl 113 ek a (.slice (zsA j) 1 1) [⟨z,p,r,A .nat n⟩]:=bh (s:=ek) (cs:=Aw z g g1 (A .nat n)) (zqt e) (⟨(nF ..).trans (by rw[hg,ui]),CN,mg⟩);clear e;have O:bA 113 ek a a (.slice (zsA V) 0 0) ([]:List nV):=bA.nil;cbv;refine O.append (ag.mono (q.t _)) dl rfl dl ip (Le.refl _) (λm5 b5 c5 T KC l t5 H u=>?_);rw[kZA]at u;clear H;cbv;refine u.append (N.mono (l.t _)) dl rfl dl ip l (λZ W X h6 Q J t6 I M=>?_);have B:=q.trans J;clear I;have y:=P _ _ _ _ B M.sl;clear P;cbv;refine⟨(W,Z,X),⟨?_,?_,?_⟩,y⟩<;>cbv
  skip;intro j a L e;have q:Le Y a:=zqs e L
  have N:Sl 113 ek a (.slice (zsA j) 1 1) [⟨z,p,r,A .nat n⟩]:=bh (s:=ek) (cs:=Aw z g g1 (A .nat n)) (zqt e) (⟨(nF ..).trans (by rw[hg,ui]),CN,mg⟩);clear e;cbv;intro V f nI F;have i:Le a f:=zqs F nI
  clear F;have O:bA 113 ek f f (.slice (zsA V) 0 0) ([]:List nV):=bA.nil;cbv;refine O.append (ag.mono ((q.trans i).t _)) dl rfl dl ip (Le.refl _) (λm5 b5 c5 T KC l t5 H u=>?_);rw[kZA]at u;clear H;cbv;refine u.append (N.mono ((i.trans l).t _)) dl rfl dl ip l (λZ W X h6 Q J t6 I M=>?_);have B:=(q.trans i).trans J;clear I;have y:=P _ _ _ _ B M.sl;clear P;cbv;refine⟨(W,Z,X),⟨?_,?_,?_⟩,y⟩<;>cbv
 intro v Y hD;rw[zo]at hD;cbv;obtain⟨vb,vm,vc⟩:=v;obtain⟨ls,qv⟩:=hD;have qv:Sl 113 ek Y (.slice vb vm vc) (bs++[⟨z,p,r,A .nat n⟩]):=qv;have ab:=q3.mono (ls.t _);have qo:=q1.mono (ls.t _);have Ca:∀b m c h',Le Y h'->Sl 47 gN h' (.slice b m c) (ts++[o])->k (.tuple #[.agg #[.zI w,.zN,.slice vb vm vc,.slice b m c],.zI 0]) h':=λb m c h' l' q'=>U h' none 0 0 vb vm vc b m c (ls.trans l') ⟨Sl.nil,qv.mono (l'.t _),q'⟩;clear U zo P;cbv;refine⟨?_,?_⟩
 .skip;intro V f nI F;have i:Le Y f:=zqs F nI
  clear F;have O:bA 47 gN f f (.slice (zsA V) 0 0) ([]:List (List mQ)):=bA.nil;cbv;refine⟨?_,?_⟩
  .skip;refine O.append (ab.mono (i.t _)) dl rfl dl ip (Le.refl _) (λm5 b5 c5 T KC l t5 H u=>?_);rw[kZA]at u;clear H;cbv;intro j a L e;have K:Le T a:=zqs e L
   have q:=(i.trans l).trans K;have N:Sl 47 gN a (.slice (zsA j) 1 1) [o]:=bh (s:=gN) (cs:=[.slice R n S]) (zqt e) (⟨_,rfl,qo.mono ((q).t _)⟩);clear e;cbv;refine(u.mono (K.t _)).append N dl rfl dl ip (l.trans K) (λZ W X h6 Q J t6 I M=>?_);have B:=i.trans J;clear I;have az:=Ca _ _ _ _ B M.sl;clear Ca;cbv;exact az
  skip;intro j a L e;have K:Le f a:=zqs e L
  have q:=i.trans K;have N:Sl 47 gN a (.slice (zsA j) 1 1) [o]:=bh (s:=gN) (cs:=[.slice R n S]) (zqt e) (⟨_,rfl,qo.mono ((q).t _)⟩);clear e;have O:bA 47 gN a a (.slice (zsA V) 0 0) ([]:List (List mQ)):=bA.nil;cbv;refine O.append (ab.mono (q.t _)) dl rfl dl ip (Le.refl _) (λm5 b5 c5 T KC l t5 H u=>?_);rw[kZA]at u;clear H;cbv;refine u.append (N.mono (l.t _)) dl rfl dl ip l (λZ W X h6 Q J t6 I M=>?_);have B:=q.trans J;clear I;have az:=Ca _ _ _ _ B M.sl;clear Ca;cbv;exact az
 skip;intro j a L e;have q:Le Y a:=zqs e L
 have N:Sl 47 gN a (.slice (zsA j) 1 1) [o]:=bh (s:=gN) (cs:=[.slice R n S]) (zqt e) (⟨_,rfl,qo.mono ((q).t _)⟩);clear e;cbv;intro V f nI F;have i:Le a f:=zqs F nI
 clear F;have O:bA 47 gN f f (.slice (zsA V) 0 0) ([]:List (List mQ)):=bA.nil;cbv;refine O.append (ab.mono ((q.trans i).t _)) dl rfl dl ip (Le.refl _) (λm5 b5 c5 T KC l t5 H u=>?_);rw[kZA]at u;clear H;cbv;refine u.append (N.mono ((i.trans l).t _)) dl rfl dl ip l (λZ W X h6 Q J t6 I M=>?_);have B:=(q.trans i).trans J;clear I;have az:=Ca _ _ _ _ B M.sl;clear Ca;cbv;exact az
theorem fQj{x:Int}{b1 H I:Option Addr}{n1 c1 M J N K n:Nat}{bs:List nV}(ql:yR h b1 n1 c1 H M J I N K ⟨x,o,bs,ts⟩)(qc:Sl 161 bD h (.slice b n c) cs)
 (hL:xK ⟨x,o,bs,ts⟩) (ho:o.length<=3) (hc:Ej ⟨x,cs⟩)  (E:eZ ⟨x,o,bs,ts⟩ cs=L') 
 (F:∀h' gM wQ fW fK me fU jH rH jG b' n' c',Le h h'->yR h' gM wQ fW fK me fU jH rH jG L'->Sl 161 bD h' (.slice b' n' c') cs->k (.tuple #[.agg #[.zI L'.next,.slice gM wQ fW,.slice fK me fU,.slice jH rH jG],.agg #[.zI x,.slice b' n' c']]) h'):
 Ct 168 [.agg #[.zI x,.slice b1 n1 c1,.slice H M J,.slice I N K],.slice b n c] h k:=by
 obtain⟨A,hA⟩:=Ar.ex;obtain⟨q1,q2,q3⟩:=ql;have q1:Sl 172 eD h (.slice b1 n1 c1) o:=q1;have q2:Sl 113 ek h (.slice H M J) bs:=q2;have q3:Sl 47 gN h (.slice I N K) ts:=q3;have fG:n1=o.length:=q1.len;have Wu:n=cs.length:=qc.len;have qu:cs.length<=2^30:=hc.len;obtain⟨aq,ao⟩:0<=x/\x<2^40:=hL.nx;have ab:∀t∈o,Ej t:=hL.op;have Au:bs.length<=2^16:=hL.n2;have nO:ts.length<=2^16:=hL.n3;obtain⟨y,Y,kI⟩:∃y:Int,y=x+1/\A .aX .add .i64 x 1=y:=⟨_,rfl,by
  rw[hA.aX];exact IntWalk.i64_in _ ip⟩
 have ag:∀t∈o++[(⟨x,cs⟩:mQ)],Ej t:=λt Z=>by
  rcases kJj.1 Z with Z|Z
  .exact ab t Z
  rw[kXK.1 Z];exact hc
 have al:(o++[(⟨x,cs⟩:mQ)]).length=o.length+1:=io
 have d:o.length=3->mZ ⟨y,o++[⟨x,cs⟩],bs,ts⟩=(L',0)/\L'.next=y:=λL=>by
  unfold eZ at E;rw[if_pos (by show 4<=o.length+1;omega)]at E;unfold mZ;rw[if_neg (by show ¬(o++[(⟨x,cs⟩:mQ)]).length=0;omega),<-E,Y];exact⟨rfl,rfl⟩
 have f:o.length≠3->L'=⟨y,o++[⟨x,cs⟩],bs,ts⟩:=λL=>by
  unfold eZ at E;rw[if_neg (by show ¬4<=o.length+1;omega)]at E;rw[<-E,Y]
 clear E;refine fT A [4] (aj eKf.aw eKf.bz) Tryz.func168 rfl (by kernel_rfl) ?_;cbv;intro n7 h7 Gp e7;have l7:Le h h7:=zqs e7 Gp
 clear e7;have O:bA 161 bD h7 h7 (.slice (zsA n7) 0 0) ([]:List cR):=bA.nil;cbv;refine O.append (qc.mono (l7.t _)) dl rfl dl ip (Le.refl _) (λz db w hs ar l4 t4 k4 u4=>?_);rw[kZA]at u4;have qd:=u4.sl;have ls:=l7.trans l4;have qo:=q1.mono (ls.t _);obtain⟨C,V⟩:∃C:(Option Addr×Nat×Nat)->ad->Prop,∀v h',C v h'=(Le hs h'/\Sl 172 eD h' (.slice v.1 v.2.1 v.2.2) (o++[⟨x,cs⟩])):=⟨_,λ_ _=>rfl⟩;have B:∀b m c h',Le hs h'->Sl 172 eD h' (.slice b m c) (o++[⟨x,cs⟩])->C (b,m,c) h':=λb m c h' l' q'=>by rw[V];exact⟨l',q'⟩
 clear k4 O t4;cbv;rw[kI];refine kK.go (G:=Option Addr×Nat×Nat) (λ_=>[]) (λv=>[(2,[.zI y,.slice v.1 v.2.1 v.2.2,.slice H M J,.slice I N K]),(4,[.zI 0,.zN,.zN,.zN]),(5,[.zI 0,.zN]),(6,[.zI x,.slice db z w])]) C ?_ ?_
 .clear V d f F;cbv;refine⟨?_,?_⟩
  .skip;intro n8 i nI U;have q:Le hs i:=zqs U nI
   clear U;have O:bA 172 eD i i (.slice (zsA n8) 0 0) ([]:List mQ):=bA.nil;cbv;refine⟨?_,?_⟩
   .skip;refine O.append (qo.mono (q.t _)) dl rfl dl ip (Le.refl _) (λm5 b5 c5 D KC l t5 k5 u=>?_);rw[kZA]at u;clear k5;cbv;intro r a mh e;have l9:Le D a:=zqs e mh
    have g:=(q.trans l).trans l9;have v9:Sl 172 eD a (.slice (zsA r) 1 1) [⟨x,cs⟩]:=bh (s:=eD) (cs:=[.zI x,.slice db z w]) (zqt e) (⟨_,_,_,rfl,qd.mono ((g).t _)⟩);clear e;cbv;refine(u.mono (l9.t _)).append v9 dl rfl dl ip (l.trans l9) (λm6 Q S h6 R p t6 k6 u6=>?_);have P:=q.trans p;clear k6;have j:=B _ _ _ _ P u6.sl;clear B;cbv;refine⟨(Q,m6,S),⟨?_,?_,?_⟩,j⟩<;>cbv
   skip;intro r a mh e;have l9:Le i a:=zqs e mh
   have g:=q.trans l9;have v9:Sl 172 eD a (.slice (zsA r) 1 1) [⟨x,cs⟩]:=bh (s:=eD) (cs:=[.zI x,.slice db z w]) (zqt e) (⟨_,_,_,rfl,qd.mono ((g).t _)⟩);clear e;have O:bA 172 eD a a (.slice (zsA n8) 0 0) ([]:List mQ):=bA.nil;cbv;refine O.append (qo.mono (g.t _)) dl rfl dl ip (Le.refl _) (λm5 b5 c5 D KC l t5 k5 u=>?_);rw[kZA]at u;clear k5;cbv;refine u.append (v9.mono (l.t _)) dl rfl dl ip l (λm6 Q S h6 R p t6 k6 u6=>?_);have P:=g.trans p;clear k6;have j:=B _ _ _ _ P u6.sl;clear B;cbv;refine⟨(Q,m6,S),⟨?_,?_,?_⟩,j⟩<;>cbv
  skip;intro r a mh e;have g:Le hs a:=zqs e mh
  have v9:Sl 172 eD a (.slice (zsA r) 1 1) [⟨x,cs⟩]:=bh (s:=eD) (cs:=[.zI x,.slice db z w]) (zqt e) (⟨_,_,_,rfl,qd.mono ((g).t _)⟩);clear e;cbv;intro n8 i nI U;have q:Le a i:=zqs U nI
  clear U;have O:bA 172 eD i i (.slice (zsA n8) 0 0) ([]:List mQ):=bA.nil;cbv;refine O.append (qo.mono ((g.trans q).t _)) dl rfl dl ip (Le.refl _) (λm5 b5 c5 D KC l t5 k5 u=>?_);rw[kZA]at u;clear k5;cbv;refine u.append (v9.mono ((q.trans l).t _)) dl rfl dl ip l (λm6 Q S h6 R p t6 k6 u6=>?_);have P:=(g.trans q).trans p;clear k6;have j:=B _ _ _ _ P u6.sl;clear B;cbv;refine⟨(Q,m6,S),⟨?_,?_,?_⟩,j⟩<;>cbv
 intro v D j;rw[V]at j;cbv;obtain⟨vb,vm,vc⟩:=v;obtain⟨l,qv⟩:=j;have qv:Sl 172 eD D (.slice vb vm vc) (o++[⟨x,cs⟩]):=qv;have an:=qv.len;have X:=ls.trans l;have W:=q2.mono (X.t _);have T:=q3.mono (X.t _);have vK:=qd.mono (l.t _);have f4:A .aQ .eql (A .nat vm) 4=decide (o.length=3):=by rw[au A,hA.nat];exact decide_eq_decide.2 (by show(vm:Int)=4↔_;omega)
 rw[f4];by_cases L:o.length=3
 .obtain⟨d,ak⟩:=d L;rw[ak]at F;rw[kS L];clear f V B f4;cbv;refine Tp ⟨qv,W,T⟩ ag ip ip ip (λh6 gM wQ fW fK me fU jH rH jG p q6=>?_);rw[d]at q6 |-;have:=F h6 gM wQ fW fK me fU jH rH jG db z w (X.trans p) q6 (vK.mono (p.t _));clear F;cbv;refine zqr ?_;cbv;exact this
 rw[f L]at F;have:=F D vb vm vc H M J I N K db z w X ⟨qv,W,T⟩ vK;have:k (.tuple #[.agg #[.zI y,.slice vb vm vc,.slice H M J,.slice I N K],.agg #[.zI x,.slice db z w]]) D:=this;rw[kQW L];clear f d V B f4 F;cbv;refine zqr ?_;cbv;exact this
theorem bXB(w:hl g=aT s)(H:s.length=32)
 (b:∀h' c n' c',Le h h'->bA 5 cD h h' (.slice c n' c') (gq n s)->n'<=2^28->k (.slice c n' c') h'):
 Ct 84 [.zI n,.agg (hl g).toArray] h k:=by
 have hR:gq n s=([u8 4]++cP n)++s:=rfl;rw[hR]at b;clear hR;refine cB iQl Tryz.func84 λA I=>?_;cbv;intro i a d e1;have f:Le h a:=zqs e1 d
 have r:a i=zcL 100 (hl g):=zqt e1;clear e1;cbv;refine lS (h0:=a) (l:=[]) bA.nil (Le.refl _) ip 4 (m':=1) rfl (λu j o x J q=>?_);have q:bA 5 cD a u (.slice j 1 o) [u8 4]:=q;cbv;refine tX q x ip n (m':=9) rfl (λG E F e K C=>?_);have t:=e _ _ r;cbv;refine C.app (kG t w H) dl rfl dl dl e (λB m p v Y z L y D=>?_);have:=b v m B p (f.trans z) (D.base f) ip;clear y b;cbv;exact this
theorem bXz{id:Int}{n:Nat}(q:Sl 161 bD h (.slice b n c) cs)
 (hB:∀x∈cs,yT x) (hn:cs.length<=255) (N:Bool) {gh:Nat->Int}  (ax:hl gh=aT s) (Hu:s.length=32) 
 (j:∀h' a n' c',Le h h'->bA 5 cD h h' (.slice a n' c') (((jd id cs.length++(cs.mapIdx (dC id)).flatten)++fa id cs)++(if N=true then [u8 1]++s else [u8 0]))->n'<=2^28->k (.slice a n' c') h'):
 Ct 169 [.agg #[.zI id,.slice b n c],.bool N,.agg (hl gh).toArray] h k:=by
 obtain⟨A,hA⟩:=Ar.ex;have y:=q.len;have V:jd id cs.length=(([]++[u8 3])++cP id)++[u8 (A .nat n)]:=by rw[hA.nat,y];rfl
 have Su:(jd id cs.length).length=10:=by unfold jd;simp[ck]
 obtain⟨H,hH⟩:∃H,H=jd id cs.length:=⟨_,rfl⟩;rw[<-hH]at j V Su;clear hH;have T:=NO id cs;have Qc:∀ {i:Nat} {x:cR},cs[i]? =some x->(cs.mapIdx (dC id))[i]? =some (dC id i x):=λh=>by rw[List.getElem?_mapIdx,h];rfl
 have sS:(cs.mapIdx (dC id)).length=cs.length:=List.length_mapIdx;generalize cs.mapIdx (dC id)=M at *;have az:A .not N= !N:=by rw[hA.not]
 obtain⟨TR,u⟩:∃TR,TR=fa id cs:=⟨_,rfl⟩;rw[<-u]at j;refine kh eKe A Tryz.func169 ?_;cbv;intro nh h0 al e0;have B:Le h h0:=zqs e0 al
 have g0:h0 nh=zcL 100 (hl gh):=zqt e0;clear e0;have q0:=q.mono (B.t _);obtain⟨J,o⟩:∃J:Nat->((Option Addr×Nat×Nat)×Int)->ad->Prop,∀w g h',J w g h'=(∃i,bg g.2 i/\w=n-i/\i<=n/\Le h0 h'/\bA 5 cD h0 h' (.slice g.1.1 g.1.2.1 g.1.2.2) (H++(M.take i).flatten)):=⟨_,λ_ _ _=>rfl⟩;cbv;refine lS (h0:=h0) (l:=[]) bA.nil (Le.refl _) ip 3 (m':=1) rfl (λh1 b1 c1 k1 t1 q1=>?_);cbv;refine tX q1 k1 ip id (m':=9) rfl (λh2 b2 c2 k2 t2 q2=>?_);cbv;refine lS q2 k2 ip (A .nat n) (m':=10) rfl (λh3 b3 c3 k3 t3 q3=>?_);rw[<-V]at q3;have dP:J n ((b3,10,c3),0) h3:=by rw[o];exact⟨0,⟨rfl⟩,rfl,ip,k3,by rw[List.take_zero,List.flatten_nil,kJH];exact q3⟩
 clear q1 q2 q3 V;cbv;refine ba.gz (G:=(Option Addr×Nat×Nat)×Int) (λg=>[(7,.v (.slice g.1.1 g.1.2.1 g.1.2.2)),(8,.v (.zI g.2))]) (λ_=>[(3,[.zI id,.slice b n c])]) (λw g h'=>J w g h') n ((b3,10,c3),0) dP ?_
 intro w g h4 hI;rw[o]at hI;cbv;obtain⟨⟨gb,gm,gc⟩,z⟩:=g;obtain⟨i,d,hw,hi,O,f⟩:=hI;have d:bg z i:=d;have f:bA 5 cD h0 h4 (.slice gb gm gc) (H++(M.take i).flatten):=f;have nQ:=f.sl.len;have aC:=T i;rw[kXy,Su]at nQ;have f1:A .aQ .lss z (A .nat n)=decide (i<n):=by rw[aV A,d.eq,hA.nat];exact decide_eq_decide.2 (by show(i:Int)<(n:Int)↔_;omega)
 rw[f1];by_cases I:i<n
 .rw[kS I];obtain⟨x,hx⟩:=cK cs i;have MO:=hB x (kQR hx);have ix:=d.ix I;have iK:b.isSome=true:=q.bu;have aZ:n-(i+1)<w:=ip
  have fV:=mI (Qc hx);have F:∀a m' c' h',Le h0 h'->bA 5 cD h0 h' (.slice a m' c') (((((H++(M.take i).flatten)++[u8 x.op])++dZ x.table)++dZ (strOf (gH x.row)))++df id i x)->J (n-(i+1)) ((a,m',c'),A .aX .add .i64 z 1) h':=λa m' c' h' l' q'=>by
   rw[o];refine⟨i+1,d.succ (A:=A),rfl,I,l',?_⟩;rw[fV,List.flatten_append,kQG,List.flatten_nil,kJH];have e:H++((M.take i).flatten++dC id i x)=((((H++(M.take i).flatten)++[u8 x.op])++dZ x.table)++dZ (strOf (gH x.row)))++df id i x:=by unfold dC;simp only[kJk]
   rw[e];exact q'
  have ht:=gA x.table;have Bh:=gA (strOf (gH x.row));have mg:(df id i x).length=32:=gu _;clear f1 o dP fV Qc T;generalize H++(M.take i).flatten=P at *;obtain⟨U,xo,r⟩:=x;have aD:r.length<=2^16:=MO.row;obtain⟨D,Z⟩:∃D,D=strOf (gH r):=⟨_,rfl⟩;obtain⟨E,K⟩:∃E,E=df id i ⟨U,xo,r⟩:=⟨_,rfl⟩;have ht:(dZ U).length<=65537:=ht;have Bh:(dZ D).length<=65537:=by rw[Z];exact Bh
  have mg:E.length=32:=by rw[K];exact mg
  have F:∀a m' c' h',Le h0 h'->bA 5 cD h0 h' (.slice a m' c') ((((P++[u8 xo])++dZ U)++dZ D)++E)->J (n-(i+1)) ((a,m',c'),A .aX .add .i64 z 1) h':=by rw[Z,K];exact F
  cbv;refine⟨⟨iK,ix⟩,?_⟩;cbv;refine(q0.mono (O.t _)).load hx d.eq (λcs' ar=>?_);obtain⟨rb,rn,rc,rfl,S⟩:=ar;have S:Sl 45 bG h4 (.slice rb rn rc) r:=S;have Bj:=S.len;obtain⟨m5,Lf⟩:∃m5,m5=gm+1:=⟨_,rfl⟩;cbv;refine lS f O ip xo Lf (λh5 b5 c5 k5 t5 q5=>?_);have Al:=S.mono (t5 _ dl);cbv;refine uT q5 k5 ip U (λm6 Sr h6 b6 c6 k6 t6 q6=>?_);have yC:=Al.mono (t6 _ dl);cbv;refine Jv yC ip (λh7 b7 m7 c7 l7 q7 aE=>?_);have aq:=q6.mono (l7.t _);have Yp:=yC.mono (l7.t _);cbv;refine rU q7.sl ?_;rw[<-Z];cbv;refine uT aq (k6.trans l7) ip D (λm8 an h8 b8 c8 k8 t8 C=>?_);have ag:=Yp.mono (t8 _ dl);have aF:=C.sl.len;cbv;refine Tr d ag ip (λt g l9 v=>?_);rw[<-K]at v;have aw:=C.mono (l9.t _);have m:=k8.trans l9;cbv;intro W L zU rE;have gD:Le t L:=zqs rE zU
  have Ns:L W=zcL 100 (List.replicate 32 (.int .u8 0)):=zqt rE;have z9:=zU;clear rE;cbv;refine jE Ns (qA _) (λoV Y=>?_);have ak:=rS Y (xP _ _);have MI:Le t oV:=gD.bf (bs:=[W]) (iu z9) (by rw[Y];exact Kp.set io);clear Y;have vL:=aw.mono (MI.t _);cbv;refine vL.app (kG ak v mg) dl rfl dl ip (m.trans MI) (λX R Q tM aB fk aH ab KW=>?_);have iL:=F R X Q tM fk KW;clear F ab;cbv;refine zqn _ ((R,X,Q),A .aX .add .i64 z 1) aZ iL
 rw[kQW I];rw[kXe ip]at f;have ao:=T cs.length;rw[kXe ip]at ao;have nQ:=f.sl.len;rw[kXy,Su]at nQ;clear o dP Qc T;cbv;refine On (q0.mono (O.t _)) (λx hx=>(hB x hx).row) ip (λh5 g l5 v pw=>?_);rw[<-u]at v pw;have q5:=f.mono (l5.t _);have PE:=O.trans l5;cbv;intro n6 h6 MZ e6;have l6:Le h5 h6:=zqs e6 MZ
 have g6:h6 n6=zcL 100 (List.replicate 32 (.int .u8 0)):=zqt e6;have z6:=MZ;clear e6;cbv;refine jE g6 (qA _) (λh7 e7=>?_);have g7:=rS e7 (xP _ _);have PD:Le h5 h7:=l6.bf (bs:=[n6]) (iu z6) (by rw[e7];exact Kp.set io);clear e7;have q7:=q5.mono (PD.t _);cbv;refine q7.app (kG g7 v pw) dl rfl dl ip (PE.trans PD) (λm8 b8 c8 h8 an l8 t8 k8 C=>?_);clear k8;have g8:=l8 _ _ g0;obtain⟨m9,p⟩:∃m9,m9=m8+1:=⟨_,rfl⟩;cbv;rw[az];cases N with
 |false=>cbv;refine lS C l8 ip 0 p (λt b9 c9 m t9 q9=>?_);have:=j t b9 m9 c9 (B.trans m) (q9.base B) ip;clear j;cbv;exact this
 |true=>cbv;refine lS C l8 ip 1 p (λt b9 c9 m t9 q9=>?_);have g9:=m _ _ g0;cbv;refine q9.app (kG g9 ax Hu) dl rfl dl ip m (λII EO Jp L aA gD aG Be Am=>?_);have:=j L EO II Jp (B.trans gD) (by rw[show(if true=true then [u8 1]++s else [u8 0])=[u8 1]++s from rfl,<-kJk];exact Am.base B) ip;clear j Be;cbv;exact this
abbrev Mc:List Nat:=197::aJs
theorem aZN{bs:List nV}(h:eZ ⟨n,o,bs,ts⟩ cs=L'):kU L'=if decide (bs.length<L'.dq.length)=true then [u8 1]++(cV L'.dq).2.1 else [u8 0]:=by
 grind [eZ,dp,kU]
theorem rW{h':ad}{t:Nat}{cs cs':List Value}(g:h t=zcL 197 cs)(a:h'=bO h t (.cells (List.toArray cs') 197 (0,0))):
 h' t=zcL 197 cs'/\ep [197] h h':=by
 subst a
 grind [ae,gU]
theorem aXF{t:Nat}{d:DB}(q:sO nH h t p G d L)(hl:LB G.D)(gi:d.ao.Pairwise (λa b=>dy a.S.name b.S.name<0))(UW:d.ao.length<=8)(nm:ByteArray)(hs:G.s<=64*(G.D.now.length-1))(hn:G.n<=2^29)(hw:G.D.ws.length<=2^28)
 (c:∀h',ep Mc h h'->sO nH h' t p (mj G d nm).2.1 (mj G d nm).2.2 L->k (.zI (mj G d nm).1) h'):
 Ct 68 [.zP t,.string nm] h k:=by
 have f:mj G d nm=Hv G d (dY d nm) (eX nm):=rfl;obtain⟨l,Z,n1,c1,b2,n2,c2,b3,n3,c3,b4,n4,c4,e1,O,v,B,P,w,F,Q,y,g,ql,qk,qd,qL⟩:=q.out;obtain⟨S,op,bs,ts⟩:=L;have g:h t=zcL 197 [.zP l,.slice Z n1 c1,.slice b2 n2 c2,.slice b3 n3 c3,.slice b4 n4 c4,.zI S,.slice e1 O v,.slice B P w,.slice F Q y]:=g;refine cB iQw Tryz.func68 λA hA=>?_;cbv;rw[av A];refine cy g ?_;cbv;refine bQy qd gi UW nm rfl (λh3 gM wQ fW fK me fU jH rH jG V W vH s E=>?_);have U:=q.le s;have g3:=s _ _ g;generalize dY d nm=C at *;obtain⟨u,o⟩:=C;have E:RP h3 gM wQ fW fK me fU jH rH jG V W vH u:=E;have i:A .aQ .eql o 0=decide (o=0):=au A ..;by_cases r:o=0
 .have f:mj G d nm=((aY G (eX nm)).1,(aY G (eX nm)).2,if(aY G (eX nm)).1=0 then u else d):=by rw[f];exact if_neg (λh=>h r)
  rw[f]at c;rw[kS r]at i;clear f;cbv;rw[i];cbv;rw[av A];refine cy g3 ?_;cbv;refine aXE nm (λh4 rb rn rc N q4 Bj=>?_);have g4:=N _ _ g3;have z:=s.trans N;generalize eX nm=rec at *;cbv;refine cy g4 ?_;cbv;refine zqr ?_;cbv;refine BU (qk.le z) hl (ql.lt (z.t _)) q4.sl hs hn Bj hw (λj x D T=>?_);have H:=x _ _ g4 (λ_ _ _ I=>gg);have vK:=(qd.lt (z.t _)).lt (x.t dl);have K:=(E.lt (N.t _)).lt (x.t dl);have X:=(qL.ls (z.t _)).ls (x.t dl);have Y:ep Mc h j:=(z.x _).trans (x.sup dl);generalize aY G rec=R at *;obtain⟨e,n⟩:=R;have D:nU nH j p n.D:=D;have T:Tn nH j l p (n.s:Int) (n.n:Int):=T;have J:A .aQ .eql e 0=decide (e=0):=au A ..;by_cases I:e=0
  .subst I;have c:∀h',ep Mc h h'->sO nH h' t p n u ⟨S,op,bs,ts⟩->k (.zI 0) h':=c;have fin:∀h',h'=bO j t (.cells #[.zP l,.slice gM wQ fW,.slice fK me fU,.slice jH rH jG,.slice V W vH,.zI S,.slice e1 O v,.slice B P w,.slice F Q y] 197 (0,0))->k (.zI 0) h':=λh' M=>by
    obtain⟨g6,m⟩:=rW H M;exact c h' (Y.trans (m.sup dl)) ⟨⟨l,_,_,_,_,_,_,_,_,_,_,_,_,_,_,_,_,_,_,_,_,_,g6,T.lt (m.t dl),D.lt (m.t dl) (jU _),K.lt (m.t dl),X.ls (m.t dl)⟩,q.new⟩
   clear c U;cbv;rw[J];cbv;repeat rw[av A]
   refine jE H io (λh6 M=>?_);have:=fin h6 M;clear fin;cbv;exact this
  have:=c j Y ⟨⟨l,Z,n1,c1,b2,n2,c2,b3,n3,c3,b4,n4,c4,e1,O,v,B,P,w,F,Q,y,H,T,D,gg,X⟩,q.new⟩;rw[kQW I]at J;clear c U;cbv;rw[J];cbv;exact this
 have f:mj G d nm=(o,G,d):=by rw[f];exact if_pos r
 rw[f]at c;rw[kQW r]at i;have:=c h3 (s.x _) U;clear c f;cbv;rw[i];cbv;rw[i];cbv;exact this
theorem Om{t:Nat}{d:DB}(q:sO nH h t p G d L)(s:Int)(ab:-2^63<=s/\s<2^63)(hI:SI d)(lb:xK L)(DG:L.oO.length<=3)(qu:(bQ d s).2.1.length<=255)(HN:∀c∈(bQ d s).2.1,yT c)
 (BZ:LB G.D) (hs:G.s<=64*(G.D.now.length-1)) (hn:G.n<=2^29) (hw:G.D.ws.length<=2^28) {W:Int×Int×Lg×DB×eO} (a:lH G d L s=W) 
 (y:∀h',ep Mc h h'->sO nH h' t p W.2.2.1 W.2.2.2.1 W.2.2.2.2->k (.tuple #[.zI W.1,.zI W.2.1]) h'):
 Ct 66 [.zP t,.zI s] h k:=by
 obtain⟨l,b1,n1,c1,b2,n2,c2,b3,n3,c3,b4,n4,c4,e1,Z,N,U,z,O,V,m3,S,g,ql,qk,qd,qL⟩:=q.out;unfold lH at a;obtain⟨n,o,bs,ts⟩:=L;obtain⟨C,hC⟩:∃C,bQ d s=C:=⟨_,rfl⟩;rw[hC]at a qu HN;obtain⟨D1,cs,ce⟩:=C;have a:(if ce≠0 then((0,ce,G,d,⟨n,o,bs,ts⟩):Int×Int×Lg×DB×eO)
  else if cs.length=0 then(-1,0,G,D1,⟨n,o,bs,ts⟩)
  else if(aY G (iU ⟨n,cs⟩ (eZ ⟨n,o,bs,ts⟩ cs))).1=0 then(n,0,(aY G (iU ⟨n,cs⟩ (eZ ⟨n,o,bs,ts⟩ cs))).2,D1,eZ ⟨n,o,bs,ts⟩ cs)
  else(0,(aY G (iU ⟨n,cs⟩ (eZ ⟨n,o,bs,ts⟩ cs))).1,(aY G (iU ⟨n,cs⟩ (eZ ⟨n,o,bs,ts⟩ cs))).2,(cA d s).1,⟨n,o,bs,ts⟩))=W:=a
 have qu:cs.length<=255:=qu;have HN:∀c∈cs,yT c:=HN;have DG:o.length<=3:=DG;have zV:z=bs.length:=qL.dq.len;have g:h t=zcL 197 [.zP l,.slice b1 n1 c1,.slice b2 n2 c2,.slice b3 n3 c3,.slice b4 n4 c4,.zI n,.slice e1 Z N,.slice U z O,.slice V m3 S]:=g;refine cB iQy Tryz.func66 λA hA=>?_;cbv;rw[av A];refine cy g ?_;cbv;refine aQN qd hI s ab hC (λh1 y1 x1 z1 y2 x2 z2 y3 x3 z3 y4 x4 z4 y5 x z5 v Mm u=>?_);have Mm:RP h1 y1 x1 z1 y2 x2 z2 y3 x3 z3 y4 x4 z4 D1:=Mm;have u:Sl 161 bD h1 (.slice y5 x z5) cs:=u;have Na:x=cs.length:=u.len;have q1:=q.le v;have g1:=v _ _ g;have fe:A .aQ .neq ce 0=decide (ce≠0):=aJ A ..;have fl:A .aQ .eql (A .nat x) 0=decide (cs.length=0):=by rw[au A,hA.nat];grind
 cbv;rw[fe];by_cases hc:ce≠0
 .rw[if_pos hc]at a;subst a;have:=y h1 (v.x _) q1;rw[kS hc];clear y;cbv;exact this
 rw[if_neg hc]at a;rw[kQW hc];clear fe hC;cbv;rw[fl];by_cases Kx:cs.length=0
 .rw[if_pos Kx]at a;subst a;have fin:∀h',h'=bO h1 t (.cells #[.zP l,.slice y1 x1 z1,.slice y2 x2 z2,.slice y3 x3 z3,.slice y4 x4 z4,.zI n,.slice e1 Z N,.slice U z O,.slice V m3 S] 197 (0,0))->k (.tuple #[.zI (-1),.zI 0]) h':=λh' f=>by
   obtain⟨r,H⟩:=rW g1 f;exact y h' ((v.x _).trans (H.sup dl)) ⟨⟨l,_,_,_,_,_,_,_,_,_,_,_,_,_,_,_,_,_,_,_,_,_,r,(ql.lt (v.t _)).lt (H.t dl),(qk.le v).lt (H.t dl) (jU _),Mm.lt (H.t dl),(qL.ls (v.t _)).ls (H.t dl)⟩,q.new⟩
  rw[kS Kx];clear y;cbv;repeat rw[av A]
  refine jE g1 io (λi f=>?_);have:=fin i f;clear fin;cbv;exact this
 rw[if_neg Kx]at a;obtain⟨L',hL⟩:∃L',eZ ⟨n,o,bs,ts⟩ cs=L':=⟨_,rfl⟩;have Ap:=aZN hL;have K:L'.dq.length<=2^20:=by
  have h2:bs.length<=2^16:=lb.n2
  grind [eZ,dp]
 rw[hL]at a;have B:iU ⟨n,cs⟩ L'=((jd n cs.length++(cs.mapIdx (dC n)).flatten)++fa n cs)++(if decide (bs.length<L'.dq.length)=true then [u8 1]++(cV L'.dq).2.1 else [u8 0]):=by rw[<-Ap];rfl
 have pw:=jz L'.dq;obtain⟨M,Qm⟩:∃M,decide (bs.length<L'.dq.length)=M:=⟨_,rfl⟩;rw[Qm]at B;rw[kQW Kx];clear Ap fl;cbv;rw[av A];refine cy g1 ?_;cbv;refine fQj (qL.ls (v.t _)) u lb DG ⟨gg,HN⟩ hL (λh2 f1 p1 r1 f2 p2 r2 f3 p3 r3 f4 p4 r4 l2 ag ak=>?_);have fk:=v.trans l2;have g2:=l2 _ _ g1;have X:=ag.dq;have zT:p2=L'.dq.length:=X.len;obtain⟨Pu,RW,P,T⟩:=L';have aq:A .aQ .gtr (A .nat p2) (A .nat z)=M:=by
  rw[bF A,hA.nat]
  grind
 have X:Sl 113 ek h2 (.slice f2 p2 r2) P:=X;have K:P.length<=2^20:=K;have pw:(cV P).2.1.length=32:=pw;have B:iU ⟨n,cs⟩ ⟨Pu,RW,P,T⟩=((jd n cs.length++(cs.mapIdx (dC n)).flatten)++fa n cs)++(if M=true then [u8 1]++(cV P).2.1 else [u8 0]):=B;obtain⟨E,hE⟩:∃E,E=cV P:=⟨_,rfl⟩;rw[<-hE]at B pw;obtain⟨w,BX⟩:∃w,w=iU ⟨n,cs⟩ ⟨Pu,RW,P,T⟩:=⟨_,rfl⟩;rw[<-BX]at B a;clear Qm;cbv;repeat (first|rw[av A] | (refine cy g2 ?_;cbv)|(refine zqr ?_;cbv))
 rw[aq];refine bJK X K (λh3 gd l3 EE=>?_);rw[<-hE]at EE |-;obtain⟨en,m,ee⟩:=E;have EE:hl gd=aT m:=EE;have pw:m.length=32:=pw;have B:w=((jd n cs.length++(cs.mapIdx (dC n)).flatten)++fa n cs)++(if M=true then [u8 1]++m else [u8 0]):=B;have g3:=l3 _ _ g2;have nN:=fk.trans l3;cbv;repeat (first|rw[av A] | (refine cy g3 ?_;cbv)|(refine zqr ?_;cbv))
 refine bXz (id:=n) (ak.mono (l3.t _)) HN qu M EE pw (λh4 rb rn rc l4 qr Bj=>?_);rw[<-B]at qr;have sw:=nN.trans l4;have g4:=l4 _ _ g3;cbv;repeat (first|rw[av A] | (refine cy g4 ?_;cbv)|(refine zqr ?_;cbv))
 refine BU (qk.le sw) BZ (ql.lt (sw.t _)) qr.sl hs hn Bj hw (λh5 x Dx xT=>?_);have g5:=x _ _ g4 (λ_ _ _ Y=>by cases Y;decide);have vK:=(qd.lt (sw.t _)).lt (x.t dl);have an:=(Mm.lt ((l2.trans (l3.trans l4)).t _)).lt (x.t dl);have JV:=(qL.ls (sw.t _)).ls (x.t dl);have al:=(ag.ls ((l3.trans l4).t _)).ls (x.t dl);have WS:ep Mc h h5:=(sw.x _).trans (x.sup dl);clear qr ak X BX;generalize aY G w=R at *;obtain⟨e,G2⟩:=R;have Dx:nU nH h5 p G2.D:=Dx;have xT:Tn nH h5 l p (G2.s:Int) (G2.n:Int):=xT;have a:(if e=0 then((n,0,G2,D1,⟨Pu,RW,P,T⟩):Int×Int×Lg×DB×eO)else(0,e,G2,(cA d s).1,⟨n,o,bs,ts⟩))=W:=a;have fr:A .aQ .neq e 0=decide (e≠0):=aJ A ..;cbv;rw[fr];by_cases Y:e=0
 .rw[if_pos Y]at a;subst a;rw[kQW (λg=>g Y)];have fin:∀i b,i=bO h5 t (.cells #[.zP l,.slice y1 x1 z1,.slice y2 x2 z2,.slice y3 x3 z3,.slice y4 x4 z4,.zI n,.slice e1 Z N,.slice U z O,.slice V m3 S] 197 (0,0))->
   b=bO i t (.cells #[.zP l,.slice y1 x1 z1,.slice y2 x2 z2,.slice y3 x3 z3,.slice y4 x4 z4,.zI Pu,.slice f1 p1 r1,.slice f2 p2 r2,.slice f3 p3 r3] 197 (0,0))->k (.tuple #[.zI n,.zI 0]) b:=λi b f ao=>by
   obtain⟨r,H⟩:=rW g5 f;obtain⟨g7,I⟩:=rW r ao;have Q:=H.trans I;exact y b (WS.trans (Q.sup dl)) ⟨⟨l,_,_,_,_,_,_,_,_,_,_,_,_,_,_,_,_,_,_,_,_,_,g7,xT.lt (Q.t dl),Dx.lt (Q.t dl) (jU _),an.lt (Q.t dl),al.ls (Q.t dl)⟩,q.new⟩
  clear y;cbv;repeat rw[av A]
  refine jE g5 io (λi f=>?_);have r:i t=zcL 197 [.zP l,.slice y1 x1 z1,.slice y2 x2 z2,.slice y3 x3 z3,.slice y4 x4 z4,.zI n,.slice e1 Z N,.slice U z O,.slice V m3 S]:=zqt f;have fin:=λb=>fin i b f;clear f;cbv;repeat (first|rw[av A] | (refine zqr ?_;cbv))
  refine jE r io (λb f=>?_);have:=fin b f;clear fin f;cbv;exact this
 rw[if_neg Y]at a;subst a;rw[kS Y];have fin:∀i b a1 a2 a3 a4 a5 a6 a7 a8 a9 D j J,Le h5 i->RP i a1 a2 a3 a4 a5 a6 a7 a8 a9 D j J (cA d s).1->i t=zcL 197 [.zP l,.slice b1 n1 c1,.slice b2 n2 c2,.slice b3 n3 c3,.slice b4 n4 c4,.zI n,.slice e1 Z N,.slice U z O,.slice V m3 S]->
  b=bO i t (.cells #[.zP l,.slice a1 a2 a3,.slice a4 a5 a6,.slice a7 a8 a9,.slice D j J,.zI n,.slice e1 Z N,.slice U z O,.slice V m3 S] 197 (0,0))->k (.tuple #[.zI 0,.zI e]) b:=λi b a1 a2 a3 a4 a5 a6 a7 a8 a9 D j J F Ox r f=>by
  obtain⟨g7,I⟩:=rW r f;exact y b (WS.trans ((F.x _).trans (I.sup dl))) ⟨⟨l,_,_,_,_,_,_,_,_,_,_,_,_,_,_,_,_,_,_,_,_,_,g7,(xT.lt (F.t _)).lt (I.t dl),(Dx.le F).lt (I.t dl) (jU _),Ox.lt (I.t dl),(JV.ls (F.t _)).ls (I.t dl)⟩,q.new⟩
 clear y;cbv;rw[av A];refine cy g5 ?_;cbv;refine zM vK hI s ab rfl (λi a1 a2 a3 a4 a5 a6 a7 a8 a9 D j J F Ox=>?_);have fin:=fin i;have r:=F _ _ g5;generalize cA d s=RB at *;obtain⟨RD,ar⟩:=RB;have fin:=λb=>fin b a1 a2 a3 a4 a5 a6 a7 a8 a9 D j J F Ox r;cbv;repeat rw[av A]
 refine jE r io (λb f=>?_);have:=fin b f;clear fin f;cbv;exact this
def vE(G:Lg)(L:eO):(Int×Bs×Int)×Lg×eO:=
 if L.oO.length=0 then(cV L.dq,G,L)
 else if(aY G (gq (cV (dp L).dq).1 (cV (dp L).dq).2.1)).1=0 then(cV (dp L).dq,(aY G (gq (cV (dp L).dq).1 (cV (dp L).dq).2.1)).2,dp L)
 else((0,List.replicate 32 0,(aY G (gq (cV (dp L).dq).1 (cV (dp L).dq).2.1)).1),(aY G (gq (cV (dp L).dq).1 (cV (dp L).dq).2.1)).2,L)
theorem bXT(v:hl g=aT s)(H:s.length=32)
 (c:∀h' i n' c',Le h h'->bA 5 cD h h' (.slice i n' c') (gq n s)->n'<=2^28->k (.slice i n' c') h'):
 Ct 80 [.agg (.zI n::hl g).toArray] h k:=by
 have hR:gq n s=(([]++[u8 4])++cP n)++s:=rfl;rw[hR]at c;clear hR;refine cB iQp Tryz.func80 λA L=>?_;cbv;intro f b d e1;have j:Le h b:=zqs e1 d
 have a:b f=zcL 102 (.zI n::hl g):=zqt e1;have D:Sl 102 cD b (.slice (some ⟨f,1,none⟩) 32 32) s:=xU (o:=1) (x:=s) a (by rw[<-v];rfl) H;clear e1;cbv;repeat rw[av A]
 refine cy a ?_;cbv;refine pG (l:=[]) Sl.nil ip 4 (λJ E M G e q=>?_);have V:=q.sl.len;rw[kZA,kXm]at V;have t:=e _ _ a;cbv;repeat (first|rw[av A] | (refine cy t ?_;cbv)|(refine zqr ?_;cbv))
 refine Oq q.sl ip n (λK F N I y m=>?_);have O:=m.sl.len;rw[kXy,ck,kZA,kXm]at O;have P:=e.trans y;cbv;refine(m.base e).app (D.mono (P.t _)) dl rfl dl ip P (λB p r u Y z Q w C=>?_);have:=c u p B r (j.trans z) (C.base j) ip;clear w c;cbv;exact this
theorem aXQ{x:Int}{d f:Option Addr}{o i a j:Nat}{bs:List nV}(q:Sl 224 ek h (.slice b a c) bs)(m:bs.length<=2^20)(E:cV bs=(n,s,e))
 (t:∀h' g,Le h h'->hl g=aT s->k (.tuple #[.agg (.zI n::hl g).toArray,.zI e]) h'):
 Ct 79 [.agg #[.zI x,.slice d o i,.slice b a c,.slice f p j]] h k:=
 Tu q m (λh' g l r=>gg)
theorem aXG{x:Int}{d f:Option Addr}{o i a j:Nat}{bs:List nV}(q:Sl 113 ek h (.slice b a c) bs)(m:bs.length<=2^20)(E:cV bs=(n,s,e))
 (t:∀h' g,Le h h'->hl g=aT s->k (.tuple #[.agg (.zI n::hl g).toArray,.zI e]) h'):
 Ct 82 [.agg #[.zI x,.slice d o i,.slice b a c,.slice f p j]] h k:=
 bJK q m (λh' g l r=>gg)
theorem GY(h:L.dq.length<=2^16):(dp L).dq.length<=2^20:=by
 grind [dp]
theorem bXQ{s:Nat}{d:DB}(q:nT h s p G d L)(lb:xK L)(hs:G.s<=2^29)(hn:G.n<=2^29)(hw:G.D.ws.length<=2^28){W:(Int×Bs×Int)×Lg×eO}(b:vE G L=W)
 (i:∀h' g,ep JE h h'->nT h' s p W.2.1 d W.2.2->hl g=aT W.1.2.1->k (.tuple #[.agg (.zI W.1.1::hl g).toArray,.zI W.1.2.2]) h'):
 Ct 27 [.zP s] h k:=by
 obtain⟨A,hA⟩:=Ar.ex;obtain⟨OD,OA,OC,U,Y,MF,Gb,Oz,OB,qw,Yr⟩:=q.out;obtain⟨g,x,qs,ql,qk,qx⟩:=qw.out;obtain⟨d1,m1,e1,d2,m2,e2,d3,m3,e3,d4,m4,e4,t,qd⟩:=qx.out;have Q:=GY (L:=L) lb.n2;have Eh:=lb.n2;obtain⟨C,aq⟩:∃C,dp L=C:=⟨_,rfl⟩;obtain⟨c,I,r,z⟩:=L;have Av:A .aQ .eql 0 0=true:=by rw[au A];rfl
 have az:A .aQ .eql 2 0=false:=by rw[au A];rfl
 have t:h x=zcL 150 [.slice d1 m1 e1,.slice d2 m2 e2,.slice d3 m3 e3,.slice d4 m4 e4,.zI c,.slice OD OA OC,.slice U Y MF,.slice Gb Oz OB]:=t;have Eh:r.length<=2^16:=Eh;unfold vE at b;rw[aq]at b Q;obtain⟨⟨aD,aB,aE⟩,K⟩:∃X,cV r=X:=⟨_,rfl⟩;obtain⟨⟨e,a,ee⟩,V⟩:∃X,cV C.dq=X:=⟨_,rfl⟩;have pw:a.length=32:=by grind [jz]
 rw[V]at b;have b:(if I.length=0 then(cV r,G,(⟨c,I,r,z⟩:eO))else if(aY G (gq e a)).1=0 then((e,a,ee),(aY G (gq e a)).2,C)else((0,List.replicate 32 0,(aY G (gq e a)).1),(aY G (gq e a)).2,⟨c,I,r,z⟩))=W:=b;rw[K]at b;have F:I.length=0->mZ ⟨c,I,r,z⟩=(⟨c,I,r,z⟩,2):=λh0=>by
  unfold mZ;rw[if_pos h0]
 have m:¬I.length=0->mZ ⟨c,I,r,z⟩=(C,0):=λh0=>by
  unfold mZ;grind
 obtain⟨E,D⟩:∃E,mZ ⟨c,I,r,z⟩=E:=⟨_,rfl⟩;rw[D]at F m;refine kh iXe A Tryz.func27 ?_;cbv;rw[av A];refine zx (cJ qs.out rfl) t rfl ?_;cbv;repeat (first|rw[av A] | (refine cy t ?_;cbv)|(refine zqr ?_;cbv))
 refine Tv Yr lb D (λh1 a1 f1 r1 a2 B O a3 f3 r3 l Et=>?_);have q1:=q.le l;have Nq:=l _ _ t;have ao:=l _ _ qs.out;by_cases H:I.length=0
 .rw[if_pos H]at b;have F:=F H;subst F;subst b;have P:=(Yr.le l).dq;have P:Sl 224 ek h1 (.slice U Y MF) r:=P;clear m D;cbv;rw[az];cbv;rw[av A];refine zx (cJ ao rfl) Nq rfl ?_;cbv;repeat (first|rw[av A] | (refine cy Nq ?_;cbv)|(refine zqr ?_;cbv))
  refine aXQ P ip K (λh2 gd j S=>?_);have:=i h2 gd ((l.trans j).x _) (q1.le j) S;clear i;cbv;exact this
 rw[if_neg H]at b;have m:=m H;subst m;obtain⟨M,WG,T,o⟩:=C;have ax:Sl 224 ek h1 (.slice a2 B O) T:=Et.dq;have Q:T.length<=2^20:=Q;have V:cV T=(e,a,ee):=V;clear F D;cbv;rw[Av];cbv;refine aXQ ax Q V (λh2 gd j S=>?_);have fk:=l.trans j;have Np:=j _ _ Nq;have ag:=Et.le j;cbv;repeat (first|rw[av A] | (refine cy Np ?_;cbv)|(refine zqr ?_;cbv))
 refine bXT (n:=e) S pw (λh3 rb rn rc l3 qr Bj=>?_);have N:=fk.trans l3;have Cc:=l3 _ _ Np;have q3:=qw.lx N;have Ev:=qd.mono N;have ak:=ag.le l3;have ab:=Yr.le N;generalize gq e a=rec at *;cbv;repeat (first|rw[av A] | (refine cy Cc ?_;cbv)|(refine zqr ?_;cbv))
 refine bJy q3 qr.sl hs hn Bj hw Ev (L':=(.zI M,.slice a1 f1 r1,.slice a2 B O,.slice a3 f3 r3)) (λu x4 w=>?_);have Z:=ak.ls (x4.t dl);have al:=ab.ls (x4.t dl);have Rd:ep JE h u:=(N.x _).trans x4;clear qr;generalize aY G rec=R at *;obtain⟨f,y⟩:=R;have w:DO u s p y (if f=0 then d else d) (if f=0 then(.zI M,.slice a1 f1 r1,.slice a2 B O,.slice a3 f3 r3)else(.zI c,.slice OD OA OC,.slice U Y MF,.slice Gb Oz OB)):=w;have b:(if f=0 then((e,a,ee),y,(⟨M,WG,T,o⟩:eO))else((0,List.replicate 32 0,f),y,⟨c,I,r,z⟩))=W:=b;have fr:A .aQ .neq f 0=decide (f≠0):=aJ A ..;have wd:(if f=0 then d else d)=d:=by split<;>rfl
 rw[wd]at w;by_cases J:f=0
 .rw[if_pos J]at b w;subst b;rw[kQW (λg=>g J)]at fr;obtain⟨g4,y4,an,aC,Wi,ua⟩:=w.out;obtain⟨_,_,_,_,_,_,_,_,_,_,_,_,v,-⟩:=ua.out;have aw:Sl 224 ek u (.slice a2 B O) T:=Z.dq;have q4:nT u s p y d ⟨M,WG,T,o⟩:=⟨_,_,_,_,_,_,_,_,_,w,Z⟩;cbv;rw[fr];cbv;rw[av A];refine zx (cJ an.out rfl) v rfl ?_;cbv;repeat (first|rw[av A] | (refine cy v ?_;cbv)|(refine zqr ?_;cbv))
  refine aXQ aw Q V (λh5 aA l5 ar=>?_);have:=i h5 aA (Rd.trans (l5.x _)) (q4.le l5) ar;clear i;cbv;exact this
 rw[if_neg J]at b w;subst b;rw[kS J]at fr;have:=i u (λ_=>0) Rd ⟨_,_,_,_,_,_,_,_,_,w,al⟩ rfl;clear i;cbv;rw[fr];cbv;exact this
theorem bJJ{t:Nat}{d:DB}(q:sO nH h t p G d L)(u:xK L)(BZ:LB G.D)(hs:G.s<=64*(G.D.now.length-1))(hn:G.n<=2^29)(hw:G.D.ws.length<=2^28){W:(Int×Bs×Int)×Lg×eO}(a:vE G L=W)
 (m:∀h' g,ep Mc h h'->sO nH h' t p W.2.1 d W.2.2->hl g=aT W.1.2.1->k (.tuple #[.agg (.zI W.1.1::hl g).toArray,.zI W.1.2.2]) h'):
 Ct 28 [.zP t] h k:=by
 obtain⟨A,hA⟩:=Ar.ex;obtain⟨v,U,n1,c1,Y,n2,c2,Z,n3,c3,b4,n4,c4,e1,m1,d1,e2,m2,d2,e3,m3,d3,g,ql,qk,qd,qL⟩:=q.out;have Q:=GY (L:=L) u.n2;have Eh:=u.n2;obtain⟨C,B⟩:∃C,dp L=C:=⟨_,rfl⟩;obtain⟨x,r,f,P⟩:=L;have az:r.length<=2^16:=u.n1;have aB:f.length<=2^16:=u.n2;have aw:P.length<=2^16:=u.n3;have an:∀t∈r,Ej t:=u.op;have ax:m1=r.length:=qL.oO.len;have f1:A .aQ .gtr (A .nat m1) 0=decide (¬r.length=0):=by rw[bF A,hA.nat];grind
 have g:h t=zcL 197 [.zP v,.slice U n1 c1,.slice Y n2 c2,.slice Z n3 c3,.slice b4 n4 c4,.zI x,.slice e1 m1 d1,.slice e2 m2 d2,.slice e3 m3 d3]:=g;unfold vE at a;rw[B]at a Q;obtain⟨⟨aC,aA,aD⟩,K⟩:∃X,cV f=X:=⟨_,rfl⟩;obtain⟨⟨b,s,ee⟩,V⟩:∃X,cV C.dq=X:=⟨_,rfl⟩;have pw:s.length=32:=by grind [jz]
 rw[V]at a;have a:(if r.length=0 then(cV f,G,(⟨x,r,f,P⟩:eO))else if(aY G (gq b s)).1=0 then((b,s,ee),(aY G (gq b s)).2,C)else((0,List.replicate 32 0,(aY G (gq b s)).1),(aY G (gq b s)).2,⟨x,r,f,P⟩))=W:=a;rw[K]at a;have w:¬r.length=0->mZ ⟨x,r,f,P⟩=(C,0):=λh0=>by
  unfold mZ;grind
 have y:C.next=x:=by rw[<-B];rfl
 refine kh iXd A Tryz.func28 ?_;cbv;repeat (first|rw[av A] | (refine cy g ?_;cbv)|(refine zqr ?_;cbv))
 rw[f1];by_cases F:r.length=0
 .rw[if_pos F]at a;subst a;rw[kQW (λh=>h F)];have qb:Sl 113 ek h (.slice e2 m2 d2) f:=qL.dq;clear w;cbv;repeat (first|rw[av A] | (refine cy g ?_;cbv)|(refine zqr ?_;cbv))
  refine aXG qb ip K (λh2 gd o EE=>?_);have:=m h2 gd (o.x _) (q.le o) EE;clear m;cbv;exact this
 rw[if_neg F]at a;have w:=w F;rw[kS F];cbv;repeat (first|rw[av A] | (refine cy g ?_;cbv)|(refine zqr ?_;cbv))
 obtain⟨j,WG,T,i⟩:=C;refine Tp qL an ip ip ip (λh1 a1 p1 r1 a2 I J a3 p3 r3 l1 E=>?_);rw[w]at E |-;have y:j=x:=y;subst y;have E:yR h1 a1 p1 r1 a2 I J a3 p3 r3 ⟨j,WG,T,i⟩:=E;have aq:Sl 113 ek h1 (.slice a2 I J) T:=E.dq;have Q:T.length<=2^20:=Q;have V:cV T=(b,s,ee):=V;have g1:=l1 _ _ g;clear w;cbv;refine aXG aq Q V (λh2 gd o EE=>?_);have fk:=l1.trans o;have g2:=o _ _ g1;have ab:=E.ls (o.t _);cbv;repeat (first|rw[av A] | (refine cy g2 ?_;cbv)|(refine zqr ?_;cbv))
 refine bXB (n:=b) EE pw (λh3 rb rn rc l3 qr Bj=>?_);have N:=fk.trans l3;have g3:=l3 _ _ g2;generalize gq b s=rec at *;cbv;repeat (first|rw[av A] | (refine cy g3 ?_;cbv)|(refine zqr ?_;cbv))
 refine BU (qk.le N) BZ (ql.lt (N.t _)) qr.sl hs hn Bj hw (λD M S xT=>?_);have g5:=M _ _ g3 (λ_ _ _ H=>gg);have vK:=(qd.lt (N.t _)).lt (M.t dl);have JV:=(qL.ls (N.t _)).ls (M.t dl);have ag:=(ab.ls (l3.t _)).ls (M.t dl);have WS:ep Mc h D:=(N.x _).trans (M.sup dl);clear qr;generalize aY G rec=R at *;obtain⟨e,l⟩:=R;have S:nU nH D p l.D:=S;have xT:Tn nH D v p (l.s:Int) (l.n:Int):=xT;have a:(if e=0 then((b,s,ee),l,(⟨j,WG,T,i⟩:eO))else((0,List.replicate 32 0,e),l,⟨j,r,f,P⟩))=W:=a;have fr:A .aQ .neq e 0=decide (e≠0):=aJ A ..;by_cases H:e=0
 .rw[if_pos H]at a;subst a;rw[kQW (λg=>g H)]at fr;have fin:∀c,c=bO D t (.cells #[.zP v,.slice U n1 c1,.slice Y n2 c2,.slice Z n3 c3,.slice b4 n4 c4,.zI j,.slice a1 p1 r1,.slice a2 I J,.slice a3 p3 r3] 197 (0,0))->
   ep Mc h c/\c t=zcL 197 [.zP v,.slice U n1 c1,.slice Y n2 c2,.slice Z n3 c3,.slice b4 n4 c4,.zI j,.slice a1 p1 r1,.slice a2 I J,.slice a3 p3 r3]/\sO nH c t p l d ⟨j,WG,T,i⟩/\Sl 113 ek c (.slice a2 I J) T:=λc hh=>by
   obtain⟨g6,O⟩:=rW g5 hh;have z:=ag.ls (O.t dl);exact⟨WS.trans (O.sup dl),g6,⟨⟨v,_,_,_,_,_,_,_,_,_,_,_,_,_,_,_,_,_,_,_,_,_,g6,xT.lt (O.t dl),S.lt (O.t dl) (jU _),vK.lt (O.t dl),z⟩,q.new⟩,z.dq⟩
  cbv;rw[fr];cbv;repeat rw[av A]
  refine jE g5 io (λc hh=>?_);obtain⟨ak,g6,q6,al⟩:=fin c hh;clear fin hh;cbv;repeat (first|rw[av A] | (refine cy g6 ?_;cbv)|(refine zqr ?_;cbv))
  refine aXG al Q V (λh7 ar l7 ao=>?_);have:=m h7 ar (ak.trans (l7.x _)) (q6.le l7) ao;clear m;cbv;exact this
 rw[if_neg H]at a;subst a;rw[kS H]at fr;have:=m D (λ_=>0) WS ⟨⟨v,U,n1,c1,Y,n2,c2,Z,n3,c3,b4,n4,c4,e1,m1,d1,e2,m2,d2,e3,m3,d3,g5,xT,S,vK,JV⟩,q.new⟩ rfl;clear m;cbv;rw[fr];cbv;exact this
set_option maxHeartbeats 1000000
theorem aZG:Tryz.prog.underlying 102=some (.struct (Tryz.prog.fieldsOf 102)):=by kernel_rfl
theorem bQu:Tryz.prog.eqGuardType Tryz.prog.depth 102=false:=by kernel_rfl
theorem aKG:Tryz.prog.stoodInHeld 102=false:=by kernel_rfl
theorem AA:Tryz.prog.underlying 3=some (.int .i64):=by kernel_rfl
theorem bQe:((Tryz.prog.fieldsOf 102).toList.map λf=>(f.name,f.type,f.offset))=[("Block",3,0),("Hash",100,1)]:=by kernel_rfl
theorem Is(w:World):(Go.sizeOf 100).run Tryz.prog w=.ok 32 w:=by rfl
theorem bQk{fs:List Field}{t c:TypeId}{a b e g:Value}(h:(fs.map λf=>(f.name,f.type,f.offset))=[("Block",t,0),("Hash",c,1)])
 (p:(part t xs 0).run P w=.ok a w) (k:(part t ys 0).run P w=.ok b w) (l:(part c xs 1).run P w=.ok e w) (m:(part c ys 1).run P w=.ok g w) (e1:(Op.equalIn d t a b).run P w=.ok true w) (i:(Op.equalIn d c e g).run P w=.ok true w):
 (Op.eqFields d xs ys fs).run P w=.ok true w:=by
 match fs,h with
 | [⟨o,s1,o1,_,_,_,_⟩,⟨q,s2,o2,_,_,_,_⟩],h=>
  simp only[SW,List.map_nil,List.cons.injEq,Prod.mk.injEq,and_true]at h;obtain⟨⟨rfl,rfl,rfl⟩,rfl,rfl,rfl⟩:=h;have n:("Block" ≠ "_"):=dl
  have j:("Hash" ≠ "_"):=dl
  simp only[Op.eqFields,n,j,ne_eq,not_false_eq_true,if_true,kKm,p,k,l,m,e1,i,kXb,kXl,kXk,if_false,kXa]
theorem Gg{t:TypeId}(h:P.underlying t=some (.int .i64)):(Op.equalIn (d+1) t (.zI n) (.zI n)).run P w=.ok true w:=by rw[run_equalIn_int w d _ _ _ _ _ h];simp
theorem Ad{t e:TypeId}(b:P.underlying t=some (.array 32 e))(a:P.underlying e=some (.int .u8))(i:∀w,(Go.sizeOf e).run P w=.ok 1 w){l:Bs}(h:l.length=32):
 (Op.equalIn (d+2) t (.agg (aT l).toArray) (.agg (aT l).toArray)).run P w=.ok true w:=by
 have:=run_equalIn_bytes w d t e 32 b a i l l h h;rw[show(l==l)=true by simp]at this;exact this
theorem bQn(w:World){l:Bs}(b:l.length=32)(x0:xs[0]? =some (.zI n))(y:ys[0]? =some (.zI n))(x:xs.extract 1 33=List.toArray (aT l))(y1:ys.extract 1 33=List.toArray (aT l)):
 (Op.equalIn (d+3) 102 (.agg xs) (.agg ys)).run Tryz.prog w=.ok true w:=by
 have i:∀c:Array Value,c[0]? =some (.zI n)->(part 3 c 0).run Tryz.prog w=.ok (.zI n) w:=λc h=>by
  simp[part,isAgg,run_underlying AA,h]
 have p:∀c:Array Value,c.extract 1 33=List.toArray (aT l)->(part 100 c 1).run Tryz.prog w=.ok (.agg (aT l).toArray) w:=λc h=>by
  unfold part isAgg;simp only[kKm,run_underlying qC,kXb,kXa,if_true,Is];rw[show(1+32:Nat)=33 from rfl,h]
 rw[run_equalIn_agg w (d+2) _ _ _ aZG aKG];have g:=i xs x0;have j:=i ys y;have k:=p xs x;have m:=p ys y1;have e1:=Gg (P:=Tryz.prog) (w:=w) (d:=d+1) (t:=3) (n:=n) AA;have a:=Ad (P:=Tryz.prog) (w:=w) (d:=d) (t:=100) (e:=5) qC Fg AK b;have f:=bQe;clear i p;generalize (Tryz.prog.fieldsOf 102).toList=fs at *;generalize Tryz.prog=P at *;exact bQk f g j k m e1 a
theorem QB{x y:Operand}{a b:Nat->Int}{l:Bs}(f:hl a=aT l)(g:hl b=aT l)(h:l.length=32){k:Value->Prop}(j:k (.bool true)):
 uS (λ_=>Tryz.prog) (λ_=>do
  eqGuard .eql 102 x y (.agg (.zI n::hl a).toArray) (.agg (.zI n::hl b).toArray)
  Go.binOp .eql 102 (.agg (.zI n::hl a).toArray) (.agg (.zI n::hl b).toArray)) k:=by
 refine⟨_,λw=>?_,j⟩;have e:∀c:Nat->Int,hl c=aT l->(.zI n::hl c).toArray.extract 1 33=List.toArray (aT l):=λc i=>by
  rw[List.extract_toArray,<-i];exact congrArg List.toArray (show((Value.zI n::hl c).drop 1).take 32=hl c from rfl)
 have x0:=e a f;have o:=e b g;have z:∀c:Nat->Int,(Value.zI n::hl c).toArray[0]? =some (.zI n):=λc=>rfl;have m:=z a;have y1:=z b;generalize List.toArray (Value.zI n::hl a)=xs at *;generalize List.toArray (Value.zI n::hl b)=ys at *;rw[kKm,run_eqGuard_agg w _ _ _ _ _ _ bQu,kXb];rw[run_eql_struct,show(10000:Nat)=9997+3 from rfl];generalize 9997=d;rw[bQn w h m y1 x0 o];rfl
end Go.S
