import Derived.Test.YthnbpiejemlbeaaGreatBF
set_option linter.all false
set_option maxRecDepth 100000
set_option maxHeartbeats 4000000
namespace Go.S
open Go.Sx Go.Proofs
variable {A:Ar}{id m u z:Int}{L:List cR}{a c e1 i j n p:Nat}{b:Option Addr}{s:St}{k:Value->ad->Prop}{N h h':ad}
structure lC(h:ad)(p:Nat)(s:St):Prop where
 out:∃bb n c l z i err,h p=zcL 370 [.slice bb n c,.zI z,.zI err]/\Sl 5 cD h (.slice bb n c) l/\bg z i/\i<=n/\s=if err=0 then some (l.drop i)else none
theorem Ol{l:Bs}(q:Sl 5 cD h (.slice b n c) l)
 (f:∀h' p,h p=none->Le h h'->lC h' p (some l)->k (.zP p) h'):Ct 197 [.slice b n c] h k:=by
 refine cB eJG Tryz.func197 λA g=>?_;cbv;intro p a d e1;have e:Le h a:=zqs e1 d
 have:=f a p d e ⟨b,n,c,l,0,0,0,zqt e1,q.mono (e.t _),⟨rfl⟩,kXH _,rfl⟩;clear e1;cbv;exact this
theorem lC.wr{c:List Value}{bb:Option Addr}{cc:Nat}{l:Bs}{err:Int}(g:h p=zcL 370 c)(e:h'=bO h p (.cells #[.slice bb n cc,.zI z,.zI err] 370 (0,0)))(sl:Sl 5 cD h (.slice bb n cc) l)(d:bg z i)(a:i<=n)(b:s=if err=0 then some (l.drop i)else none):Kp [p] h h'/\lC h' p s/\cX [5] h h':=by
 have t:cX [5] h h':=by rw[e];exact cX.set g dl
 exact⟨by rw[e];exact Kp.set io,⟨bb,n,cc,l,z,i,err,zqt e,sl.mono t,d,a,b⟩,t⟩
theorem JP(q:lC h p s)(I:bg z n)
 (j:∀h' b m c,Kp [p] h h'->lC h' p (fw n s).2->Sl 5 cD h' (.slice b m c) (fw n s).1->k (.slice b m c) h'):Ct 297 [.zP p,.zI z] h k:=by
 obtain⟨A,L⟩:=Ar.ex;obtain⟨bb,m,c,l,y,i,err,g,sl,E,hi,u⟩:=q.out;have N:=sl.len;have kE:=sl.bound;have J:A .aQ .eql err 0=decide (err=0):=au A ..;have fn:A .aQ .neq err 0=decide (err≠0):=aJ A ..;refine fT A [3] (aj eXU.aw eXU.bz) Tryz.func297 rfl (by kernel_rfl) ?_;have g0:=g;obtain⟨C,o⟩:∃C:Int->ad->Prop,∀e h',C e h'=(h' p=zcL 370 [.slice bb m c,.zI y,.zI e]/\Kp [p] h h'/\cX [5] h h'/\(e=0->i+n<=m/\fw n s=((l.drop i).take n,some ((l.drop i).drop n)))/\(e≠0->fw n s=([],none))):=⟨_,λ_ _=>rfl⟩;cbv;refine kK.go (G:=Int) (λ_=>[]) (λ_=>[]) C ?_ ?_
 .cbv;rw[av A];refine cy g ?_;cbv;rw[J];by_cases a:err=0
  .rw[if_pos a]at u;have f1:A .aQ .lss (A .aX .sub .i64 (A .nat m) y) z=decide (m-i<n):=by rw[aV A,L.aX,L.nat,E.eq,I.eq];refine decide_eq_decide.2 ?_;show IntKind.i64.wrap ((m:Int)-(i:Int))<(n:Int)↔_;rw[IntWalk.i64_in _ ip];omega
   subst u a;have T:fw n (some (l.drop i))=if n<=(l.drop i).length then((l.drop i).take n,some ((l.drop i).drop n))else([],none):=rfl
   rw[kJb]at T;rw[kS rfl];cbv;rw[av A];refine cy g ?_;cbv;rw[av A];refine cy g ?_;cbv;rw[f1];by_cases M:m-i<n
   .rw[if_neg ip]at T;have d:∀h',h'=bO h p (.cells #[.slice bb m c,.zI y,.zI 8] 370 (0,0))->C 8 h':=λh' e=>by
     rw[o];exact⟨zqt e,by rw[e];exact Kp.set io,by rw[e];exact cX.set g dl,λt=>absurd t dl,λ_=>T⟩
    rw[kS M];clear o j T;cbv;rw[av A];refine jE g (qA _) (λH e1=>?_);have d:=d H e1;clear e1;cbv;refine zqc 8 d
   rw[if_pos ip]at T;have d:C 0 h:=by rw[o];exact⟨g,Kp.refl _ _,cX.refl _ _,λ_=>⟨ip,T⟩,λt=>absurd rfl t⟩
   rw[kQW M];clear o j T;cbv;refine zqc 0 d
  rw[if_neg a]at u;subst u;have d:C err h:=by rw[o];exact⟨g,Kp.refl _ _,cX.refl _ _,λt=>absurd t a,λ_=>rfl⟩
  rw[kQW a];clear o j;cbv;refine zqc err d
 intro e H d;rw[o]at d;cbv;obtain⟨r,R,t1,Z,c1⟩:=d;have fe:A .aQ .neq e 0=decide (e≠0):=aJ A ..;have Q:=sl.mono (t1.sub);clear o C J fn u;rw[av A];refine cy r ?_;cbv;rw[fe];by_cases a:e≠0
 .rw[kS a];have T:=c1 a;rw[T]at j;have:=j H none 0 0 R ⟨bb,m,c,l,y,i,e,r,Q,E,hi,by rw[if_neg a]⟩ Sl.nil;cbv;exact this
 rw[kQW a];have a:e=0:=ip
 obtain⟨fN,T⟩:=Z a;rw[T]at j;subst a;obtain⟨w,P⟩:∃w,w=A .aX .add .i64 y z:=⟨_,rfl⟩;have f:bg w (i+n):=by rw[P];exact E.add (A:=A) I ip
 obtain⟨v,O⟩:∃v,v=A .aX .sub .i64 w z:=⟨_,rfl⟩;have X:bg v i:=by
  have:=f.sub (A:=A) I ip ip;rw[<-O]at this;have e:i+n-n=i:=ip
  rw[e]at this;exact this
 obtain⟨U,D⟩:∃x,x=n:=⟨n,rfl⟩;obtain⟨c2,S⟩:∃x,x=c-i:=⟨_,rfl⟩;have Y:A .nR w v=U:=by rw[KI (A:=A) f X,D];omega
 have W:A .nR (A .nat c) v=c2:=by rw[cS (A:=A) X,S]
 have eL:0<=w/\w<=(c:Int)/\0<=v/\v<=w:=by have:=f.eq;have:=X.eq;omega
 have V:=(Q.jX (A:=A) X ip (m:=m-i) rfl S).short (m:=U) ip;rw[D]at V;cbv;rw[av A];refine cy r ?_;cbv;rw[av A,<-P];refine jE r (by show 2<=3;decide) (λK B=>?_);obtain⟨k2,r2,t2⟩:=lC.wr (s:=some ((l.drop i).drop n)) (bb:=bb) (n:=m) (cc:=c) (l:=l) (z:=w) (i:=i+n) (err:=0) r B Q f ip (by rw[if_pos rfl,kJO]);have F:K p=zcL 370 [.slice bb m c,.zI w,.zI 0]:=zqt B;have:=j K _ _ _ (R.trans k2) r2 (V.mono (t2.sub));clear B j;cbv;rw[av A];refine cy F ?_;cbv;rw[av A];refine cy F ?_;cbv;rw[av A,<-O];refine cy F ?_;cbv;refine⟨eL,?_⟩;cbv;rw[Y,W,D];exact this
def jK(s:St):jq×St:=
 if(aR 1 s).1=0 then(⟨0,0,⟨#[]⟩⟩,(aR 1 s).2)
 else if(aR 1 s).1=1 then(⟨1,((aR 1 (aR 1 s).2).1:Int),⟨#[]⟩⟩,(aR 1 (aR 1 s).2).2)
 else if(aR 1 s).1=2 then(⟨2,IntKind.i64.wrap ((aR 8 (aR 1 s).2).1:Int),⟨#[]⟩⟩,(aR 8 (aR 1 s).2).2)
 else if(aR 1 s).1=3 then(⟨3,0,strOf (bq (aR 1 s).2).1⟩,(bq (aR 1 s).2).2)
 else(⟨((aR 1 s).1:Int),0,⟨#[]⟩⟩,none)
def fM:Nat->St->Row×St
 |0,s=>([],s)
 |n+1,s=>((jK s).1::(fM n (jK s).2).1,(fM n (jK s).2).2)
def kf(r:Row×St):Option Row:=if r.2=some []then if r.1.all (λv=>decide (dS v=0))=true then some r.1 else none else none
def gJ(b:Bs):Option Row:=
 if(aR 1 (some b)).1>6 then kf (fM 0 none)else kf (fM (aR 1 (some b)).1 (aR 1 (some b)).2)
theorem cJR(q:gR h p s)(d:∀h' v,v=(jK s).1->Kp [p] h h'->gR h' p (jK s).2->k (.agg #[.zI v.k,.zI v.n,.string v.s]) h'):
 Ct 366 [.agg #[.zP p]] h k:=by
 have V:jK s=if(aR 1 s).1=0 then(⟨0,0,⟨#[]⟩⟩,(aR 1 s).2)
  else if(aR 1 s).1=1 then(⟨1,((aR 1 (aR 1 s).2).1:Int),⟨#[]⟩⟩,(aR 1 (aR 1 s).2).2)
  else if(aR 1 s).1=2 then(⟨2,IntKind.i64.wrap ((aR 8 (aR 1 s).2).1:Int),⟨#[]⟩⟩,(aR 8 (aR 1 s).2).2)
  else if(aR 1 s).1=3 then(⟨3,0,strOf (bq (aR 1 s).2).1⟩,(bq (aR 1 s).2).2)
  else(⟨((aR 1 s).1:Int),0,⟨#[]⟩⟩,none):=rfl
 refine cB eQP Tryz.func366 λA z=>?_;cbv;refine tY q (λu x hx i r=>?_);have f:A .aQ .eql x 0=decide ((aR 1 s).1=0):=by rw[au A];grind
 have c:A .aQ .eql x 1=decide ((aR 1 s).1=1):=by rw[au A];grind
 have e:A .aQ .eql x 2=decide ((aR 1 s).1=2):=by rw[au A];grind
 have o:A .aQ .eql x 3=decide ((aR 1 s).1=3):=by rw[au A];grind
 by_cases j:(aR 1 s).1=0
 .rw[if_pos j]at V;have N:x=0:=ip
  have:=d u ⟨0,0,⟨#[]⟩⟩ (by rw[V]) i gg;rw[kS j]at f;subst N;cbv;rw[f];cbv;exact this
 rw[if_neg j]at V;rw[kQW j]at f;by_cases l:(aR 1 s).1=1
 .rw[if_pos l]at V;have N:x=1:=ip
  rw[kS l]at c;subst N;cbv;rw[f];cbv;rw[c];cbv;refine tY r (λa y g b t=>?_);have:=d a ⟨1,y,⟨#[]⟩⟩ (by rw[V,g]) (i.trans b) gg;cbv;exact this
 rw[if_neg l]at V;rw[kQW l]at c;by_cases m:(aR 1 s).1=2
 .rw[if_pos m]at V;have N:x=2:=ip
  rw[kS m]at e;subst N;cbv;rw[f];cbv;rw[c];cbv;rw[e];cbv;refine bXG r (λa y g b t=>?_);have:=d a ⟨2,y,⟨#[]⟩⟩ (by rw[V,g]) (i.trans b) gg;cbv;exact this
 rw[if_neg m]at V;rw[kQW m]at e;by_cases n:(aR 1 s).1=3
 .rw[if_pos n]at V;have N:x=3:=ip
  rw[kS n]at o;subst N;cbv;rw[f];cbv;rw[c];cbv;rw[e];cbv;rw[o];cbv;refine BR r (λa y g b t=>?_);have:=d a ⟨3,0,y⟩ (by rw[V,g]) (i.trans b) gg;cbv;exact this
 rw[if_neg n]at V;rw[kQW n]at o;have U:∀h',Kp [p] h h'->gR h' p none->k (.agg #[.zI x,.zI 0,.string ⟨#[]⟩]) h':=λh' w B=>d h' ⟨x,0,⟨#[]⟩⟩ (by rw[V,hx]) w gg;clear d V hx;cbv;rw[f];cbv;rw[c];cbv;rw[e];cbv;rw[o];cbv;refine Tz r 3 (λa b t=>?_);have:=U a (i.trans b) t;cbv;exact this
theorem bXC{m:Nat}{l:Bs}(q:Sl e1 cD h (.slice b m c) l)
 (u:gJ l=none->∀h' (e:Int),Le h h'->e≠0->k (.tuple #[.zN,.zI e]) h')
 (S:∀r h' b n c,gJ l=some r->Le h h'->Sl 45 bG h' (.slice b n c) r->n<=6->k (.tuple #[.slice b n c,.zI 0]) h'):
 Ct 339 [.slice b m c] h k:=by
 obtain⟨A,hA⟩:=Ar.ex;have P:gJ l=if(aR 1 (some l)).1>6 then kf (fM 0 none)else kf (fM (aR 1 (some l)).1 (aR 1 (some l)).2):=rfl
 refine fT A [7] (aj eXk.aw eXk.bz) Tryz.func339 rfl (by kernel_rfl) ?_;cbv;refine Wd q (λh1 p hp l1 q1=>?_);cbv;refine tY q1 (λh2 x hx k2 q2=>?_);have l2:Le h h2:=l1.bf (bs:=[p]) (iu hp) k2;generalize aR 1 (some l)=R at *;obtain⟨O,s1⟩:=R;have q2:gR h2 p s1:=q2;have hx:x=(O:Int):=hx;have P:gJ l=if O>6 then kf (fM 0 none)else kf (fM O s1):=P
 have f1:A .aQ .gtr x 6=decide (O>6):=by rw[bF A];grind
 obtain⟨C,M⟩:∃C:Int->ad->Prop,∀z h1,C z h1=(∃d B,bg z d/\d<=6/\Le h h1/\gR h1 p B/\gJ l=kf (fM d B)):=⟨_,λ_ _=>rfl⟩;cbv;refine kK.go (G:=Int) (λz=>[(6,.v (.zI z))]) (λ_=>[(4,[.zP p])]) C ?_ ?_
 .cbv;rw[f1];by_cases o:O>6
  .rw[if_pos o]at P;have W:∀h',Kp [p] h2 h'->gR h' p none->C 0 h':=λh' k' q'=>by
    rw[M];exact⟨0,none,⟨rfl⟩,ip,l2.bf (bs:=[p]) (iu hp) k',q',P⟩
   rw[kS o];clear M P f1 u S;cbv;refine Tz q2 4 (λh4 k4 q4=>?_);have W:=W h4 k4 q4;cbv;refine zqc 0 W
  rw[if_neg o]at P;have W:C x h2:=by rw[M];exact⟨O,s1,⟨hx⟩,ip,l2,q2,P⟩
  rw[kQW o];clear M P f1 u S;cbv;refine zqc x W
 intro z h4 o;rw[M]at o;obtain⟨d,B,ag,Sr,l4,q4,P⟩:=o;clear M f1 q1 q2 k2 l1 l2;obtain⟨J,T⟩:∃J:Nat->((Option Addr×Nat×Nat)×Int)->ad->Prop,∀w g h',J w g h'=(∃i si f,bg g.2 i/\w=d-i/\i<=d/\Le h h'/\gR h' p si/\bA 45 bG h h' (.slice g.1.1 g.1.2.1 g.1.2.2) f/\f.length=i/\f++(fM (d-i) si).1=(fM d B).1/\(fM (d-i) si).2=(fM d B).2):=⟨_,λ_ _ _=>rfl⟩;have dP:J d ((none,0,0),0) h4:=by rw[T];exact⟨0,B,[],⟨rfl⟩,rfl,ip,l4,q4,bA.nil,rfl,rfl,rfl⟩
 cbv;refine ba.gz (G:=(Option Addr×Nat×Nat)×Int) (λg=>[(7,.v (.slice g.1.1 g.1.2.1 g.1.2.2)),(26,.v (.zI g.2))]) (λ_=>[(4,[.zP p])]) (λw g h'=>J w g h') d ((none,0,0),0) dP ?_
 intro w g V Z;rw[T]at Z;cbv;obtain⟨⟨gb,D,gc⟩,zi⟩:=g;obtain⟨i,si,f,fv,hw,hi,l5,q5,Q,yJ,Y,L⟩:=Z;have fv:bg zi i:=fv;have Q:bA 45 bG h V (.slice gb D gc) f:=Q;have nQ:=Q.sl.len;have f2:A .aQ .lss zi z=decide (i<d):=by rw[aV A,fv.eq,ag.eq];grind
 rw[f2];by_cases o:i<d
 .have H:fM (d-i) si=((jK si).1::(fM (d-(i+1)) (jK si).2).1,(fM (d-(i+1)) (jK si).2).2):=by
   have:d-i=(d-(i+1))+1:=ip
   rw[this];rfl
  rw[H]at Y L;have U:∀h' t m' c',m'=D+1->Le h h'->gR h' p (jK si).2->bA 45 bG h h' (.slice t m' c') (f++[(jK si).1])->J (d-(i+1)) ((t,m',c'),A .aX .add .i64 zi 1) h':=λh' t m' c' e l' q' t=>by
   rw[T];refine⟨i+1,_,_,fv.succ (A:=A),rfl,ip,l',q',t,?_,?_,L⟩
   .grind
   grind
  have aZ:d-(i+1)<w:=ip
  have ab:D+1<=2^39:=ip
  rw[kS o];clear T dP H Y L f2 u S P o;cbv;refine cJR q5 (λN v hv k6 q6=>?_);have t6:cX [45] V N:=q5.lt k6 dl;have F:Le h N:=l5.bf (bs:=[p]) (iu hp) k6;rw[<-hv]at U;generalize jK si=R1 at *;obtain⟨v0,s3⟩:=R1;have q6:gR N p s3:=q6;have U:∀h' t m' c',m'=D+1->Le h h'->gR h' p s3->bA 45 bG h h' (.slice t m' c') (f++[v])->J (d-(i+1)) ((t,m',c'),A .aX .add .i64 zi 1) h':=U;have b6:=Q.mono t6;obtain⟨vk,vn,vs⟩:=v;cbv;intro n7 E Gp e7;have HC:Le N E:=zqs e7 Gp
  have s7:Sl 45 bG E (.slice (zsA n7) 1 1) [⟨vk,vn,vs⟩]:=bh (s:=bG) (zqt e7) rfl;clear e7;cbv;refine(b6.mono (HC.t _)).append s7 dl rfl dl ab (F.trans HC) (λm8 b8 c8 h8 ak l8 t8 k8 al=>?_);have q8:=(q6.le HC).mt (t8 _ dl);have iL:=U h8 b8 m8 c8 ak l8 q8 al;clear U k8;cbv;refine zqn _ ((b8,m8,c8),A .aX .add .i64 zi 1) aZ iL
 have hi:i=d:=ip
 subst hi;rw[kKd]at Y L;have Y:f=(fM i B).1:=by rw[<-Y];show f=f++[];simp
 have L:si=(fM i B).2:=L;generalize fM i B=RR at *;obtain⟨r0,s9⟩:=RR;have Y:f=r0:=Y;have L:si=s9:=L;subst Y L;have P:gJ l=if si=some []then if f.all (λv=>decide (dS v=0))=true then some f else none else none:=P
 rw[kQW o];clear T dP f2 o;cbv;refine Ot q5 (λe he=>?_);have f3:A .aQ .neq e 0=decide (e≠0):=aJ A ..;by_cases c3:e≠0
 .rw[if_neg (λhh=>c3 (he.2 hh))]at P;rw[kS c3]at f3;have:=u P V e l5 c3;clear u S;cbv;rw[f3];cbv;exact this
 have yI:e=0:=ip
 rw[if_pos (he.1 yI)]at P;rw[kQW c3]at f3;have K:=Q.sl;obtain⟨I,X⟩:∃I:Nat->Int->ad->Prop,∀w y h',I w y h'=(∃j,bg y j/\w=i-j/\j<=i/\Le V h'/\∀a x,a<j->f[a]? =some x->dS x=0):=⟨_,λ_ _ _=>rfl⟩;have kM:I i 0 V:=by rw[X];exact⟨0,⟨rfl⟩,rfl,ip,Le.refl _,λa x ha=>ip⟩
 cbv;rw[f3];cbv;refine ba.gz (G:=Int) (λy=>[(42,.v (.zI y))]) (λ_=>[(4,[.zP p])]) (λw y h'=>I w y h') i 0 kM ?_
 intro w y N Z;rw[X]at Z;cbv;obtain⟨j,hy,hw,hj,F,bR⟩:=Z;have f4:A .aQ .lss y (A .nat D)=decide (j<i):=by rw[aV A,hy.eq,hA.nat];grind
 rw[f4];by_cases c4:j<i
 .rw[kS c4];obtain⟨x,hx⟩:=cK f j;have iK:gb.isSome=true:=K.bu;have iy:=hy.ix (len:=D) ip;have aZ:i-(j+1)<w:=ip
  clear f4;cbv;refine⟨⟨iK,iy⟩,?_⟩;cbv;refine(K.mono (F.t _)).load hx hy.eq (λcs H=>?_);have H:cs=[.zI x.k,.zI x.n,.string x.s]:=H;subst H;cbv;refine(NQ x N).mono (λv E hR=>?_);obtain⟨l7,ze,rfl,dI⟩:=hR;have f5:A .aQ .neq ze 0=decide (ze≠0):=aJ A ..;by_cases c5:ze≠0
  .rw[if_neg (λhh=>by
    grind)]at P
   have:=u P E ze ((l5.trans F).trans l7) c5;rw[kS c5]at f5;clear u S X kM;cbv;rw[f5];cbv;exact this
  have Bv:I (i-(j+1)) (A .aX .add .i64 y 1) E:=by
   rw[X];refine⟨j+1,hy.succ (A:=A),rfl,ip,F.trans l7,λa x' ha DD=>?_⟩
   grind
  rw[kQW c5]at f5;clear u S X kM;cbv;rw[f5];cbv;refine zqn _ (A .aX .add .i64 y 1) aZ Bv
 rw[kQW c4];have Nc:j=i:=ip
 subst Nc;rw[if_pos (zG.2 λx hx=>by
  obtain⟨a,ha⟩:=kZO.1 hx
  grind)]at P
 have sU:=S f;clear u S X kM f4;cbv;refine(Dm (K.mono (F.t _))).mono (λv E hR=>?_);obtain⟨l7,t,c',rfl,s7⟩:=hR;have:=sU E t D c' P ((l5.trans F).trans l7) s7.sl ip;clear sU;cbv;exact this
theorem DC{s:List Int}(q:Sl 3 dK h (.slice b n c) s)(W:n<=8)(C:∀h' a n' c',Le h h'->bA 5 cD h h' (.slice a n' c') (s.map cP).flatten->k (.slice a n' c') h'):
 Ct 255 [.zN,.slice b n c] h k:=by
 have D:=q.len;obtain⟨J,H⟩:∃J:Nat->((Option Addr×Nat×Nat)×Int)->ad->Prop,∀w g h',J w g h'=(∃i,bg g.2 i/\w=n-i/\i<=n/\Le h h'/\bA 5 cD h h' (.slice g.1.1 g.1.2.1 g.1.2.2) ((s.take i).map cP).flatten/\((s.take i).map cP).flatten.length=8*i):=⟨_,λ_ _ _=>rfl⟩;have P:J n ((none,0,0),0) h:=by rw[H];exact⟨0,⟨rfl⟩,rfl,ip,Le.refl _,bA.nil,rfl⟩
 refine cB eZI Tryz.func255 λA K=>?_;cbv;refine ba.gz (G:=(Option Addr×Nat×Nat)×Int) (λg=>[(0,.v (.slice g.1.1 g.1.2.1 g.1.2.2)),(9,.v (.zI g.2))]) (λ_=>[]) (λw g h'=>J w g h') n ((none,0,0),0) P ?_
 intro w g f I;rw[H]at I;cbv;obtain⟨⟨v,m,y⟩,z⟩:=g;obtain⟨i,d,X,V,l,e,T⟩:=I;have d:bg z i:=d;have e:bA 5 cD h f (.slice v m y) ((s.take i).map cP).flatten:=e;have Y:=e.sl.len;have u:A .aQ .lss z (A .nat n)=decide (i<n):=by rw[aV A,d.eq,K.nat];exact decide_eq_decide.2 (by show(i:Int)<(n:Int)↔_;omega)
 rw[u];by_cases j:i<n
 .rw[kS j];obtain⟨x,hx⟩:=cK s i;have ix:=d.ix j;have M:b.isSome=true:=q.bu;have Z:n-(i+1)<w:=ip
  have t:∀a m' c' h',Le f h'->bA 5 cD f h' (.slice a m' c') (((s.take i).map cP).flatten++cP x)->J (n-(i+1)) ((a,m',c'),A .aX .add .i64 z 1) h':=λa m' c' h' O R=>by
   rw[H];have B:((s.take (i+1)).map cP).flatten=((s.take i).map cP).flatten++cP x:=by rw[kJG,hx];simp
   exact⟨i+1,d.succ (A:=A),rfl,j,l.trans O,by rw[B];exact R.base l,by rw[B,kXy,ck];omega⟩
  have U:m<=2^37:=ip
  clear u H P;generalize ((s.take i).map cP).flatten=L at *;cbv;refine⟨⟨M,ix⟩,?_⟩;cbv;refine(q.mono (l.t _)).load hx d.eq (λcs r=>?_);have r:cs=[.zI x]:=r;subst r;cbv;refine Oq e.sl U x (λF o E p Q S=>?_);have N:=t o E p F Q S;clear t;cbv;refine zqn _ ((o,E,p),A .aX .add .i64 z 1) Z N
 rw[kQW j];rw[kXe ip]at e;have:=C f v m y l e;clear H P C;cbv;exact this
structure yT(c:cR):Prop where
 row:c.row.length<=2^16
 bXX:c.table.size<=2^40
 val:∀x∈c.row,x.s.size<=2^40
theorem aQV(id:Int)(s:Nat)(c:cR):(VF id s c).length<=2^18:=by unfold VF;have h:=gA c.table;have a:=gA (strOf (gH c.row));have b:=ck id;have d:=ck (s:Int);simp only[kXy,kZs,kXw];omega
theorem aXO{e:Nat}(U:bg z e){t:ByteArray}{o:Int}{r:Row}(q:Sl 45 bG h (.slice b n c) r)(B:yT ⟨t,o,r⟩)
 (i:∀h' g,Le h h'->hl g=aT (df id e ⟨t,o,r⟩)->k (.agg (hl g).toArray) h'):
 Ct 134 [.zI id,.zI z,.agg #[.string t,.zI o,.slice b n c]] h k:=by
 have l:=q.len;have uf:r.length<=2^16:=B.row;have nO:t.size<=2^40:=B.bXX;have K:∀x∈r,x.s.size<=2^40:=B.val;have H:df id e ⟨t,o,r⟩=Bc (cP id++cP z++[u8 o]++dZ t++dZ (strOf (gH r))):=by rw[U.eq];rfl
 rw[H]at i;clear H B;refine cB eKG Tryz.func134 λA hA=>?_;cbv;intro w d P e1;have Z:Le h d:=zqs e1 P
 have q1:Sl 3 dK d (.slice (zsA w) 2 2) [id,z]:=pf (s:=dK) rfl (zqt e1) rfl rfl;clear e1;cbv;refine DC q1 dl (λj G m2 M l2 a=>?_);have V:=a.sl.len;have a:bA 5 cD d j (.slice G m2 M) (cP id++cP z):=iu a
 have V:=a.sl.len;rw[kXy,ck,ck]at V;cbv;refine pG a.sl ip o (λh3 b3 m3 c3 l3 y=>?_);have O:=y.sl.len;rw[kXy,kXy,ck,ck,kXm]at O;cbv;refine BS (e1:=0) y.sl ip t nO (λh4 b4 m4 c4 l4 C=>?_);have Y:=C.sl.len;have E:=gA t;unfold dZ at E;rw[kXy,kXy,kXy,ck,ck,kXm]at Y;have D:=((Z.trans l2).trans l3).trans l4;cbv;refine Oj (q.mono (D.t _)) ip K (λh5 b5 m5 c5 p q5 X=>?_);have m:(strOf (gH r)).size<=2^40:=by show(gH r).toArray.size<=_;rw[List.size_toArray];omega
 have F:=C.sl.mono (p.t _);obtain⟨v,I⟩:∃v,v=strOf (gH r):=⟨_,rfl⟩;rw[<-I]at i m;cbv;refine rU q5.sl ?_;rw[<-I];cbv;refine BS (e1:=0) F ip v m (λQ L u N l6 f=>?_);have f:Sl 5 cD Q (.slice L u N) (cP id++cP z++[u8 o]++dZ t++dZ v):=f.sl;have S:=f.len;have d:=gA t;have j:=gA v;simp only[kXy,kZs,kXw,ck]at S;have J:u<=2^37:=ip
 generalize cP id++cP z++[u8 o]++dZ t++dZ v=W at *;cbv;refine bJM f dl J (λR g l7 T=>?_);have:=i R g (((D.trans p).trans l6).trans l7) T;cbv;exact this
theorem AR{c:cR}(h:L[i]? =some c):(iW id L)[i]? =some (df id i c):=by unfold iW;rw[List.getElem?_mapIdx,h];rfl
theorem AQ(id:Int)(L:List cR):(iW id L).length=L.length:=by unfold iW;simp
theorem mI{a:Type}{L:List a}{x:a}(h:L[i]? =some x):L.take (i+1)=L.take i++[x]:=by rw[kJG,h];rfl
theorem QW(q:Sl 161 bD h (.slice b n c) L)(hB:∀x∈L,yT x)(hn:n<=2^30)
 (N:∀h' g,Le h h'->hl g=aT (fa id L)->(fa id L).length=32->k (.agg (hl g).toArray) h'):Ct 135 [.agg #[.zI id,.slice b n c]] h k:=by
 have O:=q.len;have D:fa id L=gW (iW id L):=rfl;rw[D]at N;have Su:=AQ id L;have C:∀ {i:Nat} {c:cR},L[i]? =some c->(iW id L)[i]? =some (df id i c):=λh=>AR h;generalize iW id L=H at *;clear D;obtain⟨J,e⟩:∃J:Nat->((Option Addr×Nat×Nat)×Int)->ad->Prop,∀w g h',J w g h'=(∃i,bg g.2 i/\w=n-i/\i<=n/\Le h h'/\bA 100 yV h h' (.slice g.1.1 g.1.2.1 g.1.2.2) (H.take i)):=⟨_,λ_ _ _=>rfl⟩;have P:J n ((none,0,0),0) h:=by rw[e];exact⟨0,⟨rfl⟩,rfl,ip,Le.refl _,bA.nil⟩
 refine cB eKF Tryz.func135 λA hA=>?_;cbv;refine ba.gz (G:=(Option Addr×Nat×Nat)×Int) (λg=>[(3,.v (.slice g.1.1 g.1.2.1 g.1.2.2)),(9,.v (.zI g.2))]) (λ_=>[(1,[.zI id,.slice b n c]),(2,List.replicate 32 (.int .u8 0))]) (λw g h'=>J w g h') n ((none,0,0),0) P ?_
 intro w g I M;rw[e]at M;cbv;obtain⟨⟨W,F,X⟩,z⟩:=g;obtain⟨i,a,hw,hi,t,d⟩:=M;have a:bg z i:=a;have d:bA 100 yV h I (.slice W F X) (H.take i):=d;have nQ:=d.sl.len;rw[kJI]at nQ;have E:A .aQ .lss z (A .nat n)=decide (i<n):=by rw[aV A,a.eq,hA.nat];exact decide_eq_decide.2 (by show(i:Int)<(n:Int)↔_;omega)
 rw[E];by_cases f:i<n
 .rw[kS f];obtain⟨x,hx⟩:=cK L i;have T:=hB x (kQR hx);have ix:=a.ix f;have iK:b.isSome=true:=q.bu;have Z:n-(i+1)<w:=ip
  have V:=mI (C hx);have B:∀j m' c' h',Le h h'->bA 100 yV h h' (.slice j m' c') (H.take i++[df id i x])->J (n-(i+1)) ((j,m',c'),A .aX .add .i64 z 1) h':=λj m' c' h' l' q'=>by
   rw[e];exact⟨i+1,a.succ (A:=A),rfl,f,l',by rw[V];exact q'⟩
  have oU:F+1<=2^39:=ip
  have mg:(df id i x).length=32:=gu _;clear E e P V C;generalize H.take i=Lc at *;obtain⟨tb,op,r⟩:=x;cbv;refine⟨⟨iK,ix⟩,?_⟩;cbv;refine(q.mono (t.t _)).load hx a.eq (λcs U=>?_);obtain⟨rb,rn,rc,rfl,u⟩:=U;have u:Sl 45 bG I (.slice rb rn rc) r:=u;cbv;refine aXO a u T (λo g l p=>?_);generalize df id i ⟨tb,op,r⟩=RH at *;cbv;intro n4 K S m;have Q:Le o K:=zqs m S
  have q4:=bh (s:=yV) (cs:=hl g) (zqt m) (FA (h:=K) p mg);clear m;cbv;refine(d.mono ((l.trans Q).t _)).append q4 dl rfl dl oU ((t.trans l).trans Q) (λR v y Y KC l5 t5 k5 q5=>?_);have iL:=B v R y Y l5 q5;clear B k5;cbv;refine zqn _ ((v,R,y),A .aX .add .i64 z 1) Z iL
 rw[kQW f];rw[kXe ip]at d;clear e P C;cbv;refine bJH _ d.sl (qA _) (λo g l p pw=>?_);have:=N o g (t.trans l) p pw;cbv;exact this
theorem cKk(q:Sl 161 bD h (.slice b n c) L)(O:∀x∈L,yT x)(Q:n<=2^30)
 (r:∀h' g,Le h h'->hl g=aT (ko id L)->k (.agg (hl g).toArray) h'):Ct 245 [.agg #[.zI id,.slice b n c]] h k:=by
 obtain⟨A,N⟩:=Ar.ex;have l:=q.len;have E:ko id L=Bc (cP id++cP (A .nat n)++fa id L):=by rw[N.nat,l];rfl
 rw[E]at r;clear E;refine kh eZQ A Tryz.func245 ?_;cbv;refine QW q O Q (λJ g t P Y=>?_);generalize fa id L=R at *;cbv;intro j o m e;have T:Le J o:=zqs e m
 have F:o j=zcL 100 (List.replicate 32 (.int .u8 0)):=zqt e;have z2:=t.none m;clear e;cbv;refine jE F (qA _) (λp d=>?_);have H:=rS d (xP _ _);have U:Le h p:=(t.trans T).bf (bs:=[j]) (iu z2) (by rw[d];exact Kp.set io);clear d;cbv;intro w i G f;have u:Le p i:=zqs f G
 have Z:Sl 3 dK i (.slice (zsA w) 2 2) [id,A .nat n]:=pf (s:=dK) rfl (zqt f) rfl rfl;clear f;cbv;refine DC Z dl (λK B X C v a=>?_);have a:bA 5 cD i K (.slice B X C) (cP id++cP (A .nat n)):=iu a
 have z:=a.sl.len;rw[kXy,ck,ck]at z;have I:=v _ _ (u _ _ H);cbv;refine a.app (kG I P Y) dl rfl dl ip v (λm6 b6 c6 h6 Sr V t6 S q6=>?_);clear S;cbv;refine bJM q6.sl dl ip (λM D W y=>?_);have:=r M D ((U.trans u).trans (V.trans W)) y;cbv;exact this
def Aw(n:Int)(p r:Nat->Int)(c:Int):List Value:=[.zI n,.int .u8 (p 0),.int .u8 (p 1),.int .u8 (p 2),.int .u8 (p 3),.int .u8 (p 4),.int .u8 (p 5),.int .u8 (p 6),.int .u8 (p 7),.int .u8 (p 8),.int .u8 (p 9),.int .u8 (p 10),.int .u8 (p 11),.int .u8 (p 12),.int .u8 (p 13),.int .u8 (p 14),.int .u8 (p 15),.int .u8 (p 16),.int .u8 (p 17),.int .u8 (p 18),.int .u8 (p 19),.int .u8 (p 20),.int .u8 (p 21),.int .u8 (p 22),.int .u8 (p 23),.int .u8 (p 24),.int .u8 (p 25),.int .u8 (p 26),.int .u8 (p 27),.int .u8 (p 28),.int .u8 (p 29),.int .u8 (p 30),.int .u8 (p 31),.int .u8 (r 0),.int .u8 (r 1),.int .u8 (r 2),.int .u8 (r 3),.int .u8 (r 4),.int .u8 (r 5),.int .u8 (r 6),.int .u8 (r 7),.int .u8 (r 8),.int .u8 (r 9),.int .u8 (r 10),.int .u8 (r 11),.int .u8 (r 12),.int .u8 (r 13),.int .u8 (r 14),.int .u8 (r 15),.int .u8 (r 16),.int .u8 (r 17),.int .u8 (r 18),.int .u8 (r 19),.int .u8 (r 20),.int .u8 (r 21),.int .u8 (r 22),.int .u8 (r 23),.int .u8 (r 24),.int .u8 (r 25),.int .u8 (r 26),.int .u8 (r 27),.int .u8 (r 28),.int .u8 (r 29),.int .u8 (r 30),.int .u8 (r 31),.zI c]
theorem nF(n:Int)(p r:Nat->Int)(c:Int):Aw n p r c=.zI n::(hl p++(hl r++[.zI c])):=rfl
def ek:Sh nV where
 n:=66
 R _ cs b:=cs=.zI b.n::(aT b.prev++(aT b.root++[.zI b.count]))/\b.prev.length=32/\b.root.length=32
 len:=by grind [aT]
 one:=by
  rintro h cs b ⟨rfl,h1,h2⟩;have key:∀l m:List Value,jL l=true->jL m=true->jL (l++m)=true:=λl m a b=>by
   induction l with
   |nil=>exact b
   |cons x t ih=>
    grind [jL,hx]
  show jL (_::_)=true;unfold jL;exact key _ _ (iX _) (key _ _ (iX _) rfl)
 tys:=[]
 mono:=λ_ q=>q
theorem xU{T o:Nat}{c:List Value}{x:Bs}(q:h n=zcL T c)(b:(c.drop o).take 32=aT x)(hx:x.length=32):Sl T cD h (.slice (some ⟨n,o,none⟩) 32 32) x:=by
 refine⟨_,32,by rw[hx],ip,ip,.inr ⟨n,o,_,_,rfl,q,?_,λi y d=>?_⟩⟩
 .have:=congrArg List.length b;rw[kJI,kJb]at this;simp only[aT,kZl]at this;have f:cD.n=1:=rfl
  grind
 have e:i<x.length:=(HH.1 d).1;show((c.drop (o+i*1)).take 1)=[.int .u8 (y.toNat:Int)];have a:=congrArg (λl=>l[i]?) b;simp only[kZo,kXz,aT,kZf,d]at a;rw[if_pos ip]at a;apply kZq;intro j;rw[kZo,kXz]
 grind
theorem bJO{n X:Int}{gp gr:Nat->Int}{p r:Bs}(hp:hl gp=aT p)(hr:hl gr=aT r)(CN:p.length=32)(mg:r.length=32)
 (S:∀h' g,Le h h'->hl g=aT (eo ⟨n,p,r,X⟩)->k (.agg (hl g).toArray) h'):Ct 185 [.agg (Aw n gp gr X).toArray] h k:=by
 have hH:eo ⟨n,p,r,X⟩=Ul ([cP n,p,r,cP X]:List Bs).flatten:=by unfold eo aXc;simp
 have U:([cP n,p,r,cP X]:List Bs).flatten.length<=2^38:=by
  grind [ck]
 rw[hH]at S;clear hH;refine cB eJR Tryz.func185 λA hA=>?_;cbv;intro n1 R fG e1;have la:Le h R:=zqs e1 fG
 have y:R n1=zcL 224 (Aw n gp gr X):=zqt e1;have sp:=xU (o:=1) (x:=p) y (by rw[nF,<-hp];rfl) CN;have sr:=xU (o:=33) (x:=r) y (by rw[nF,<-hr];rfl) mg;clear e1;cbv;rw[av A];refine cy y ?_;cbv;rw[av A,av A,av A];refine cy y ?_;cbv;refine⟨?_,?_⟩
 .skip;intro N x0 V w;have z:Le R x0:=zqs w V
  have T:Sl 3 dK x0 (.slice (zsA N) 1 1) [n]:=bh (s:=dK) (zqt w) rfl;clear w;cbv
  (try rw[av A])
  refine cy (z _ _ y) ?_;cbv;refine zqr ?_;cbv;refine⟨?_,?_⟩
  .skip;refine DC T dl (λa bb I C f q=>?_);have q:bA 5 cD x0 a (.slice bb I C) (cP n):=iu q
   cbv
   (try rw[av A])
   refine cy ((z.trans f) _ _ y) ?_;cbv;refine zqr ?_;cbv;intro t b W Z;have j:Le a b:=zqs Z W
   have O:Sl 3 dK b (.slice (zsA t) 1 1) [X]:=bh (s:=dK) (zqt Z) rfl;clear Z;cbv;refine DC O dl (λu B J D m d=>?_);have d:bA 5 cD b u (.slice B J D) (cP X):=iu d
   cbv;intro M Q K e;have l:Le u Q:=zqs e K
   have E:=zqt e;have Y:=(((z.trans f).trans j).trans m).trans l;have s1:=(((q.sl.mono (j.t _)).mono (m.t _)).mono (l.t _));have P:=(d.sl.mono (l.t _));have s2:=sp.mono (Y.t _);have s3:=sr.mono (Y.t _);clear e;cbv;refine QR (L:=[cP n,p,r,cP X]) (Kg (s:=DS) rfl E rfl gg (λi v x c hx=>?_) rfl) U (λF g H G=>?_)
   .have hi:i<4:=(HH.1 c).1;have:i=0\/i=1\/i=2\/i=3:=ip
    rcases this with rfl|rfl|rfl|rfl<;>cases c<;>cases hx
    .exact eU s1
    .exact eU s2
    .exact eU s3
    exact eU P
   have:=S F g ((la.trans Y).trans H) G;cbv;exact this
  skip;intro t a W e1;have f:Le x0 a:=zqs e1 W
  have O:Sl 3 dK a (.slice (zsA t) 1 1) [X]:=bh (s:=dK) (zqt e1) rfl;clear e1;cbv;refine DC (T.mono (f.t _)) dl (λb bb I C j q=>?_);have q:bA 5 cD a b (.slice bb I C) (cP n):=iu q
  cbv;refine DC (O.mono (j.t _)) dl (λu B J D m d=>?_);have d:bA 5 cD b u (.slice B J D) (cP X):=iu d
  cbv;intro M Q K e;have l:Le u Q:=zqs e K
  have E:=zqt e;have Y:=(((z.trans f).trans j).trans m).trans l;have s1:=((q.sl.mono (m.t _)).mono (l.t _));have P:=(d.sl.mono (l.t _));have s2:=sp.mono (Y.t _);have s3:=sr.mono (Y.t _);clear e;cbv;refine QR (L:=[cP n,p,r,cP X]) (Kg (s:=DS) rfl E rfl gg (λi v x c hx=>?_) rfl) U (λF g H G=>?_)
  .have hi:i<4:=(HH.1 c).1;have:i=0\/i=1\/i=2\/i=3:=ip
   rcases this with rfl|rfl|rfl|rfl<;>cases c<;>cases hx
   .exact eU s1
   .exact eU s2
   .exact eU s3
   exact eU P
  have:=S F g ((la.trans Y).trans H) G;cbv;exact this
 skip;intro t x0 W w;have z:Le R x0:=zqs w W
 have O:Sl 3 dK x0 (.slice (zsA t) 1 1) [X]:=bh (s:=dK) (zqt w) rfl;clear w;cbv
 (try rw[av A])
 refine cy (z _ _ y) ?_;cbv;refine zqr ?_;cbv;intro N a V e1;have f:Le x0 a:=zqs e1 V
 have T:Sl 3 dK a (.slice (zsA N) 1 1) [n]:=bh (s:=dK) (zqt e1) rfl;clear e1;cbv;refine DC T dl (λb bb I C j q=>?_);have q:bA 5 cD a b (.slice bb I C) (cP n):=iu q
 cbv;refine DC ((O.mono (f.t _)).mono (j.t _)) dl (λu B J D m d=>?_);have d:bA 5 cD b u (.slice B J D) (cP X):=iu d
 cbv;intro M Q K e;have l:Le u Q:=zqs e K
 have E:=zqt e;have Y:=(((z.trans f).trans j).trans m).trans l;have s1:=((q.sl.mono (m.t _)).mono (l.t _));have P:=(d.sl.mono (l.t _));have s2:=sp.mono (Y.t _);have s3:=sr.mono (Y.t _);clear e;cbv;refine QR (L:=[cP n,p,r,cP X]) (Kg (s:=DS) rfl E rfl gg (λi v x c hx=>?_) rfl) U (λF g H G=>?_)
 .have hi:i<4:=(HH.1 c).1;have:i=0\/i=1\/i=2\/i=3:=ip
  rcases this with rfl|rfl|rfl|rfl<;>cases c<;>cases hx
  .exact eU s1
  .exact eU s2
  .exact eU s3
  exact eU P
 have:=S F g ((la.trans Y).trans H) G;cbv;exact this
set_option maxHeartbeats 8000000
theorem yX{x:W}(d:lM z x)(h0:0<n)(g:n<32)(b:m=(n:Int))(a:∀w,lM w (rr x n)->k (.zU w) h):
 Ct 193 [.zU z,.int .u64 m] h k:=by
 obtain⟨A,f⟩:=Ar.ex;obtain⟨s2,E,e⟩:∃s2,bg s2 (32-n)/\A .aX .sub .u64 32 m=s2:=⟨_,⟨by
  rw[f.aX,b];have:∀m:Nat,m<32->Sx.aX .sub .u64 32 (m:Int)=((32-m:Nat):Int):=dl
  grind⟩,rfl⟩
 have c:0<=m/\0<=s2:=by have:=E.eq;omega
 have r:=a _ ((d.shr (A:=A) (n:=m) ⟨b⟩ g).or (A:=A) (d.shl (A:=A) E ip));clear a;refine kh eJK A Tryz.func193 ?_;cbv;refine⟨c.1,?_⟩;cbv;rw[e];refine⟨c.2,?_⟩;cbv;exact r
theorem aJl(a:∀g:Nat->Int,(∀i,i<64->lM (g i) (HD.getD i 0))->k (.agg (wl g).toArray) h):Ct 192 [] h k:=by
 have r:=a (λi=>((HD.getD i 0).toNat:Int)) (λi c=>⟨rfl⟩);clear a;have e:wl (λi=>((HD.getD i 0).toNat:Int))=[.zU 1116352408,.zU 1899447441,.zU 3049323471,.zU 3921009573,.zU 961987163,.zU 1508970993,.zU 2453635748,.zU 2870763221,.zU 3624381080,.zU 310598401,.zU 607225278,.zU 1426881987,.zU 1925078388,.zU 2162078206,.zU 2614888103,.zU 3248222580,.zU 3835390401,.zU 4022224774,.zU 264347078,.zU 604807628,.zU 770255983,.zU 1249150122,.zU 1555081692,.zU 1996064986,.zU 2554220882,.zU 2821834349,.zU 2952996808,.zU 3210313671,.zU 3336571891,.zU 3584528711,.zU 113926993,.zU 338241895,.zU 666307205,.zU 773529912,.zU 1294757372,.zU 1396182291,.zU 1695183700,.zU 1986661051,.zU 2177026350,.zU 2456956037,.zU 2730485921,.zU 2820302411,.zU 3259730800,.zU 3345764771,.zU 3516065817,.zU 3600352804,.zU 4094571909,.zU 275423344,.zU 430227734,.zU 506948616,.zU 659060556,.zU 883997877,.zU 958139571,.zU 1322822218,.zU 1537002063,.zU 1747873779,.zU 1955562222,.zU 2024104815,.zU 2227730452,.zU 2361852424,.zU 2428436474,.zU 2756734187,.zU 3204031479,.zU 3329325298]:=by kernel_rfl
 rw[e]at r;clear e;refine cB eJL Tryz.func192 λA b=>?_;cbv;exact r
structure WP(l:Bs)(i:Nat)(xs:List W):Prop where
 len:xs.length=64
 get:∀j,j<i->xs[j]? =some (wF l j)
theorem WP.set{l:Bs}{xs:List W}(q:WP l i xs)(h:i<64):WP l (i+1) (xs.set i (wF l i)):=by
 refine⟨by rw[kJE];exact q.len,λj a=>?_⟩;rw[kKl];split
 .rename_i e;subst e;rw[if_pos (by rw[q.len];exact h)]
 rename_i e;exact q.get j ip
theorem W8.add_comm(s t:W8):s.add t=t.add s:=by unfold W8.add;simp only[BitVec.add_comm]
def fQD(G:Nat->Int):List Value:=Fa (G 0) (G 1) (G 2) (G 3) (G 4) (G 5) (G 6) (G 7)
theorem aZD(G:Nat->Int)(h:i<8):(fQD G)[i]? =some (.zU (G i)):=by
 have:i=0\/i=1\/i=2\/i=3\/i=4\/i=5\/i=6\/i=7:=ip
 rcases this with rfl|rfl|rfl|rfl|rfl|rfl|rfl|rfl<;>rfl
theorem bJX{T:Nat}{s:W8}(o:dt T qf h n 8 s.l):∃G,h n=zcL T (fQD G)/\∀i,i<8->lM (G i) (s.l.getD i 0):=by
 obtain⟨a,b,c,d,e,f,g,i,l,k⟩:=WZ o;refine⟨λj=>if j=0 then a else if j=1 then b else if j=2 then c else if j=3 then d else if j=4 then e else if j=5 then f else if j=6 then g else i,l,λj m=>?_⟩;have:j=0\/j=1\/j=2\/j=3\/j=4\/j=5\/j=6\/j=7:=ip
 rcases this with rfl|rfl|rfl|rfl|rfl|rfl|rfl|rfl
 .exact k.a
 .exact k.b
 .exact k.c
 .exact k.d
 .exact k.e
 .exact k.f
 .exact k.g
 exact k.h
theorem lM.wB[e:bM A]{w:W}(d:lM u w)(f:j<4)(c:m=((24-8*j:Nat):Int)):A .conv .u8 (A .aX .shr .u32 u m)=((wB w j).toNat:Int):=by
 have b:=(d.shr (A:=A) (n:=m) (i:=24-8*j) ⟨c⟩ ip).eq;rw[b];have a:=lD (A:=A) (h:=λ_=>none) (((w >>> (24-8*j)).toNat:Nat):Int);have a:[Value.int .u8 (A .conv .u8 (((w >>> (24-8*j)).toNat:Nat):Int))]=[.int .u8 ((u8 (((w >>> (24-8*j)).toNat:Nat):Int)).toNat:Int)]:=a;injection a with a _
 injection a with _ a
theorem lM.iZq[c:bM A]{w:W}(b:lM u w):A .conv .u8 u=((Go.S.wB w 3).toNat:Int):=by
 rw[b.eq];have a:=lD (A:=A) (h:=λ_=>none) ((w.toNat:Nat):Int);have a:[Value.int .u8 (A .conv .u8 ((w.toNat:Nat):Int))]=[.int .u8 ((u8 ((w.toNat:Nat):Int)).toNat:Int)]:=a;injection a with a _
 injection a with _ a
theorem Vp{T:Bs}(h:j<64)(a:p+64<=T.length):T[p+j]? =some (((T.drop p).take 64).getD j 0):=by
 grind
structure RS(h h':ad)(n3 n4 n8:Nat)(kg:Nat->Int)(S:W8)(xs:List W)(tv:Value)(T:Bs):Prop where
 le:Le h h'
 g3:h' n3=zcL 355 (wl kg)
 o4:dt 357 qf h' n4 8 S.l
 o8:dt 355 qf h' n8 64 xs
 st:Sl 5 cD h' tv T
theorem RS.mono{t:ad}{b:Nat}{k:Nat->Int}{S:W8}{xs:List W}{v:Value}{T:Bs}(q:RS h h' n a b k S xs v T)(l:Le h' t):RS h t n a b k S xs v T:=
 ⟨q.le.trans l,l _ _ q.g3,q.o4.mono (l.t _),q.o8.mono (l.t _),q.st.mono (l.t _)⟩
theorem RS.w8{b:Nat}{k:Nat->Int}{S:W8}{xs ys:List W}{v:Value}{T:Bs}(q:RS h h' a b n k S xs v T)(z:h n=none)(d:a≠n)(c:b≠n)(kp:Kp [n] h' N)(t:∀tys,355∉tys->cX tys h' N)(o:dt 355 qf N n 64 ys):RS h N a b n k S ys v T:=
 ⟨q.le.bf (bs:=[n]) (iu z) kp,kp _ _ q.g3 (iu d),q.o4.kp kp (by simpa using Ne.symm c |>.symm) (λ_ _ _ _ m _=>by cases m),o,q.st.mono (t _ dl)⟩
theorem RS.hXF{b H:Nat}{k:Nat->Int}{S:W8}{xs:List W}{v:Value}{T:Bs}(q:RS h h' n a b k S xs v T)(z:h H=none)(d:n≠H)(c:a≠H)(e:b≠H)(kp:Kp [H] h' N)(t:cX [5] h' N):RS h N n a b k S xs v T:=
 ⟨q.le.bf (bs:=[H]) (iu z) kp,kp _ _ q.g3 (iu d),q.o4.kp kp (iu c) (λ_ _ _ _ m _=>by cases m),q.o8.kp kp (iu e) (λ_ _ _ _ m _=>by cases m),q.st.mono t⟩
theorem Of{S:W8}{T:Bs}(h:64<=T.length):ku S T=ku (HW S (T.take 64)) (T.drop 64):=by rw[ku,dif_pos h]
theorem QP(S:W8):ku S []=S:=by rw[ku,dif_neg io]
theorem Ok{l:Bs}(q:Sl e1 cD h (.slice b n c) l)(hn:n<=2^38)
 (hk:∀h' g,Le h h'->hl g=aT (Ul l)->k (.agg (hl g).toArray) h'):Ct 85 [.slice b n c] h k:=by
 obtain⟨A,hA⟩:=Ar.ex;have aA:=q.len;have Zu:Ul l=Uy (ku mE (FN l)):=rfl;rw[Zu]at hk;clear Zu;obtain⟨N,bo⟩:∃N,N=A .aX .mul .u64 (A .conv .u64 (A .nat n)) 8:=⟨_,rfl⟩;have hN:bg N (l.length*8):=⟨by
  rw[bo,hA.nat,hA.conv,hA.aX,<-aA];show IntKind.u64.wrap (IntKind.u64.wrap (n:Int)*8)=_;rw[pJ,pJ];omega⟩
 refine fT A [4] (aj iQk.aw iQk.bz) Tryz.func85 rfl (by kernel_rfl) ?_;cbv;refine aJl (λV de=>?_);cbv;intro E h1 Hq e1;have l1:Le h h1:=zqs e1 Hq
 have p:h1 E=zcL 355 (List.replicate 64 (.zU 0)):=zqt e1;clear e1;cbv;refine jE p (qA _) (λh2 e2=>?_);have k2:Kp [E] h1 h2:=by rw[e2];exact Kp.set io
 have p:h2 E=zcL 355 (wl V):=by rw[e2,ae];exact congrArg (λc=>some (Obj.cells (List.toArray c) 355 (0,0))) (JM _ V)
 have l2:=l1.bf (bs:=[E]) (iu Hq) k2;clear e2 k2 l1;cbv;intro u h3 Gq e3;have PF:Le h2 h3:=zqs e3 Gq
 have B:h3 u=zcL 357 (List.replicate 8 (.zU 0)):=zqt e3;have bl:E≠u:=nt p Gq;have z3:=Hq;have z4:=l2.none Gq;have p:=PF _ _ p;have l3:=l2.trans PF;clear e3 PF;cbv;refine jE B (qA _) (λh4 e4=>?_);have k4:Kp [u] h3 h4:=by rw[e4];exact Kp.set io
 have B:h4 u=zcL 357 (Fa 0x6a09e667 0xbb67ae85 0x3c6ef372 0xa54ff53a 0x510e527f 0x9b05688c 0x1f83d9ab 0x5be0cd19):=zqt e4;have h8:WL 0x6a09e667 0xbb67ae85 0x3c6ef372 0xa54ff53a 0x510e527f 0x9b05688c 0x1f83d9ab 0x5be0cd19 mE:=⟨⟨rfl⟩,⟨rfl⟩,⟨rfl⟩,⟨rfl⟩,⟨rfl⟩,⟨rfl⟩,⟨rfl⟩,⟨rfl⟩⟩;have p:=k4 _ _ p (iu bl);have l4:=l3.bf (bs:=[u]) (iu z4) k4;clear e4 k4 l3 l2;cbv;have H:=Fb B h8;clear B h8;obtain⟨C,fo⟩:∃C:(Option Addr×Nat×Nat)->ad->Prop,∀g h',C g h'=(Le h h'/\h' E=zcL 355 (wl V)/\dt 357 qf h' u 8 mE.l/\bA 5 cD h h' (.slice g.1 g.2.1 g.2.2) l):=⟨_,λ_ _=>rfl⟩;refine kK.go (G:=Option Addr×Nat×Nat) (λg=>[(5,.v (.slice g.1 g.2.1 g.2.2))]) (λ_=>[(2,List.replicate 32 (.int .u8 0))]) C ?_ ?_
 .cbv;intro n5 h5 Na e5;have PE:Le h4 h5:=zqs e5 Na
  have p:=PE _ _ p;have H:=H.mono (PE.t _);have l5:=l4.trans PE;clear e5;have Bx:∀b1,n=0->C (b1,0,0) h5:=λb1 e0=>by
   grind [bA.nil]
  cbv;refine oZ (q.mono (l5.t _)) rfl dl (λe0=>?_) (λnb cap h6 eM nB l6 o6=>?_)
  .have hC:=Bx (zsA n5) e0;clear Bx fo;cbv;refine zqc (zsA n5,0,0) hC
  have hC:C (zsA nb,n,cap) h6:=by rw[fo];exact⟨l5.trans l6,l6 _ _ p,H.mono (l6.t _),o6.buf (l5.none eM) aA⟩
  clear Bx fo;cbv;refine zqc (zsA nb,n,cap) hC
 intro g h6 hC;rw[fo]at hC;obtain⟨O,r,U⟩:=g;obtain⟨l6,p,H,q6⟩:=hC;have q6:bA 5 cD h h6 (.slice O r U) l:=q6;have nQ:=q6.sl.len;clear fo C;cbv;intro n7 h7 Gp e7;have l7:Le h6 h7:=zqs e7 Gp
 have q7:=bh (s:=cD) (x:=128) (zqt e7) rfl;clear e7;cbv;refine(q6.mono (l7.t _)).app q7 dl rfl dl ip (l6.trans l7) (λm8 b8 c8 h8 ej l8 t8 k8 q8=>?_);have p:=k8 _ _ (l7 _ _ p) (.inr (.inr (λc fr e=>by cases e)));have H:=H.mono ((l7.t _).trans (t8 _ dl));obtain⟨J,bH⟩:∃J:Nat->(Option Addr×Nat×Nat)->ad->Prop,∀w g h',J w g h'=(∃j,w=nK l.length-j/\j<=nK l.length/\Le h h'/\h' E=zcL 355 (wl V)/\dt 357 qf h' u 8 mE.l/\bA 5 cD h h' (.slice g.1 g.2.1 g.2.2) (l++[128]++List.replicate j 0)):=⟨_,λ_ _ _=>rfl⟩;have dP:J (nK l.length) (b8,m8,c8) h8:=by rw[bH];exact⟨0,rfl,kXH _,l8,p,H,iu q8⟩
 clear k8 q8 q7 q6 H p t8 l8 l7 l6;cbv;refine ba.gz (G:=Option Addr×Nat×Nat) (λg=>[(5,.v (.slice g.1 g.2.1 g.2.2))]) (λ_=>[(2,List.replicate 32 (.int .u8 0))]) (λw g h'=>J w g h') (nK l.length) (b8,m8,c8) dP ?_
 intro w g h3 D;rw[bH]at D;cbv;obtain⟨O,r,U⟩:=g;obtain⟨j,hw,hj,l3,p,H,q3⟩:=D;have q3:bA 5 cD h h3 (.slice O r U) (l++[128]++List.replicate j 0):=q3;have nQ:r=l.length+1+j:=by have:=q3.sl.len;grind
 have er:nK l.length<64:=kZy _ dl;have f1:A .aQ .neq (A .aX .rem .i64 (A .nat r) 64) 56=decide (j<nK l.length):=by
  rw[aJ A,hA.aX,hA.nat];show decide (((r:Int)).tmod 64≠56)=_
  grind [nK]
 have cm:∀h' b' m' c',j<nK l.length->Le h h'->h' E=zcL 355 (wl V)->dt 357 qf h' u 8 mE.l->bA 5 cD h h' (.slice b' m' c') (l++[128]++List.replicate j 0++[0])->J (nK l.length-(j+1)) (b',m',c') h':=λh' b' m' c' aZ l' g' o' q'=>by
  rw[bH];refine⟨j+1,rfl,aZ,l',g',o',?_⟩;rw[kJk,<-List.replicate_succ']at q';exact q'
 refine⟨dl,?_⟩;cbv;rw[f1];by_cases hc:j<nK l.length
 .rw[kS hc];have aZ:nK l.length-(j+1)<w:=ip
  clear f1 bH dP;generalize l++[128]++List.replicate j 0=cur at *;cbv;intro n9 h4 mh e4;have l4:Le h3 h4:=zqs e4 mh
  have q4:=bh (s:=cD) (x:=0) (zqt e4) rfl;clear e4;cbv;refine(q3.mono (l4.t _)).app q4 dl rfl dl ip (l3.trans l4) (λm5 b5 c5 h5 Lf l5 t5 k5 q5=>?_);have iL:=cm h5 b5 m5 c5 hc l5 (k5 _ _ (l4 _ _ p) (.inr (.inr (λc fr e=>by cases e)))) (H.mono ((l4.t _).trans (t5 _ dl))) q5;clear k5 cm;cbv;refine zqn _ (b5,m5,c5) aZ iL
 rw[kQW hc];have hj:j=nK l.length:=ip
 subst hj;clear f1 cm;obtain⟨P,hP⟩:∃P,P=l++[128]++List.replicate (nK l.length) 0:=⟨_,rfl⟩;have az:FN l=P++NV l.length:=by rw[hP];rfl
 have Lj:P.length<=2^38+100:=gg
 rw[<-hP]at q3;have cG:=Mq l;have dj:(FN l).length<=2^38+200:=by grind [yA]
 rw[az]at hk cG dj;obtain⟨I,gX⟩:∃I:Nat->(Int×Option Addr×Nat×Nat)->ad->Prop,∀w g h',I w g h'=(∃i:Nat,g.1=7-(i:Int)/\w=8-i/\i<=8/\Le h h'/\h' E=zcL 355 (wl V)/\dt 357 qf h' u 8 mE.l/\bA 5 cD h h' (.slice g.2.1 g.2.2.1 g.2.2.2) (P++(NV l.length).take i)):=⟨_,λ_ _ _=>rfl⟩;have kM:I 8 (7,O,r,U) h3:=gg
 clear bH dP hP az q3 H p;cbv;rw[<-bo];refine ba.gz (G:=Int×Option Addr×Nat×Nat) (λg=>[(7,.v (.zI g.1)),(5,.v (.slice g.2.1 g.2.2.1 g.2.2.2))]) (λ_=>[(2,List.replicate 32 (.int .u8 0))]) (λw g h'=>I w g h') 8 (7,O,r,U) kM ?_
 intro w g h4 D;rw[gX]at D;cbv;obtain⟨z,O,r,U⟩:=g;obtain⟨i,hz,hw,hi,l4,p,H,q4⟩:=D;have hz:z=7-(i:Int):=hz;have q4:bA 5 cD h h4 (.slice O r U) (P++(NV l.length).take i):=q4;have nQ:=q4.sl.len;rw[kXy,kJI,yA]at nQ;have f1:A .aQ .geq z 0=decide (i<8):=by rw[cF A];grind
 rw[f1];by_cases hc:i<8
 .rw[kS hc];obtain⟨sh,bk⟩:∃sh,sh=A .aX .mul .u64 8 (A .conv .u64 z):=⟨_,rfl⟩;have cv:sh=((56-8*i:Nat):Int):=by rw[bk,hA.conv,hA.aX];show IntKind.u64.wrap (8*IntKind.u64.wrap z)=_;rw[pJ,pJ,hz];omega
  have eL:0<=sh:=ip
  have hR:cD.R h4 [.int .u8 (A .conv .u8 (A .aX .shr .u64 N sh))] (aZy l.length i):=by
   have h3:A .aX .shr .u64 N ((56-8*i:Nat):Int)=((l.length*8 % 2^64 / 2^(56-8*i):Nat):Int):=by
    rw[hA.aX,hN.eq];show((l.length*8:Nat):Int).fdiv (2^(min ((56-8*i:Nat):Int).toNat 64))=_
    grind
   rw[cv,h3];exact lD _
  have fV:(NV l.length).take (i+1)=(NV l.length).take i++[aZy l.length i]:=uC (aZy l.length) hc;have kL:∀h' m' b' c',Le h h'->h' E=zcL 355 (wl V)->dt 357 qf h' u 8 mE.l->bA 5 cD h h' (.slice b' m' c') (P++(NV l.length).take i++[aZy l.length i])->I (8-(i+1)) (A .aX .sub .i64 z 1,b',m',c') h':=λh' m' b' c' l' g' o' q'=>by
   rw[gX];exact⟨i+1,by
    show A .aX .sub .i64 z 1=_;rw[hA.aX];show IntKind.i64.wrap (z-1)=7-((i+1:Nat):Int);rw[IntWalk.i64_in _ ip];omega,rfl,hc,l',g',o',gg⟩
  have aZ:8-(i+1)<w:=ip
  have Y:r+1<=2^39:=ip
  clear f1 gX kM fV nQ;generalize aZy l.length i=y at *;generalize P++(NV l.length).take i=cur at *;cbv;rw[<-bk];refine⟨eL,?_⟩;cbv;intro n9 h5 mh e5;have l5:Le h4 h5:=zqs e5 mh
  have q5:=bh (s:=cD) (zqt e5) hR;clear e5;cbv;refine(q4.mono (l5.t _)).app q5 dl rfl dl Y (l4.trans l5) (λm6 b6 c6 h6 Sr l6 t6 k6 q6=>?_);have Bv:=kL h6 m6 b6 c6 l6 (k6 _ _ (l5 _ _ p) (.inr (.inr (λc fr e=>by cases e)))) (H.mono ((l5.t _).trans (t6 _ dl))) q6;clear kL k6;cbv;refine zqn (8-(i+1)) (_,b6,m6,c6) aZ Bv
 rw[kQW hc];have hi:i=8:=ip
 rw[kXe (by rw[yA];omega)]at q4;generalize P++NV l.length=T at *;have q4:=q4.sl;have Ap:=q4.len;clear gX kM f1;cbv;intro X h5 nI e5;have l5:Le h4 h5:=zqs e5 nI
 have bn:E≠X:=nt p nI;have aC:u≠X:=λe=>by rw[<-e]at nI;exact H.has nI
 have z8:=l4.none nI;have o8:dt 355 qf h5 X 64 (List.replicate 64 (0:W)):=IE (g:=λ_=>0) (f:=λ_=>0) (zqt e5) (λ_ _=>⟨rfl⟩);have r5:RS h h5 E u X V mE (List.replicate 64 (0:W)) (.slice O r U) T:=⟨l4.trans l5,l5 _ _ p,H.mono (l5.t _),o8,q4.mono (l5.t _)⟩;have eg:r<=2^38+200:=ip
 have dB:0<r->O.isSome=true:=λhh=>q4.bu hh;clear e5 o8 q4 H p l5 l4;obtain⟨J,bH⟩:∃J:Nat->Int->ad->Prop,∀w z h',J w z h'=(∃i S xs,bg z (64*i)/\64*i<=T.length/\w=T.length-64*i/\xs.length=64/\RS h h' E u X V S xs (.slice O r U) T/\ku S (T.drop (64*i))=ku mE T):=⟨_,λ_ _ _=>rfl⟩;have dP:J T.length 0 h5:=by rw[bH];exact⟨0,_,_,⟨rfl⟩,ip,rfl,rfl,r5,rfl⟩
 generalize ku mE T=F at *;clear r5;cbv;refine ba.gz (G:=Int) (λz=>[(9,.v (.zI z))]) (λ_=>[(2,List.replicate 32 (.int .u8 0))]) (λw z h'=>J w z h') T.length 0 dP ?_
 intro w z h6 D;rw[bH]at D;cbv;obtain⟨i,S,xs,hz,eW,hw,OG,r6,hF⟩:=D;have f1:A .aQ .lss z (A .nat r)=decide (64*i<T.length):=by rw[aV A,hz.eq,hA.nat];grind
 rw[f1];by_cases hc:64*i<T.length
 .rw[kS hc];have fb:64*i+64<=T.length:=ip
  obtain⟨P,hP⟩:∃P,P=(T.drop (64*i)).take 64:=⟨_,rfl⟩;rw[Of gg,<-hP,kJO]at hF;have mC:∀j,j<64->T[64*i+j]? =some (P.getD j 0):=λj hj=>gg
  have aZ:T.length-64*(i+1)<w:=ip
  have iK:=dB ip;have cm:∀h' ys,ys.length=64->RS h h' E u X V (HW S P) ys (.slice O r U) T->J (T.length-64*(i+1)) (A .aX .add .i64 z 64) h':=λh' ys o r'=>by
   rw[bH];refine⟨i+1,_,ys,?_,ip,rfl,o,r',hF⟩;have:=hz.add (A:=A) (w:=64) (j:=64) ⟨rfl⟩ ip
   grind
  clear bH dP f1 hF hP;obtain⟨K,Qv⟩:∃K:Nat->Nat->Int->ad->Prop,∀m w y h',K m w y h'=(∃j ys,bg y j/\w=m-j/\j<=m/\(m=64->16<=j)/\WP P j ys/\RS h h' E u X V S ys (.slice O r U) T):=⟨_,λ_ _ _ _=>rfl⟩;have Ll:K 16 16 0 h6:=by rw[Qv];exact⟨0,xs,⟨rfl⟩,rfl,ip,ip,⟨OG,λj hj=>ip⟩,r6⟩
  clear r6;cbv;refine ba.gz (G:=Int) (λy=>[(10,.v (.zI y))]) (λ_=>[(2,List.replicate 32 (.int .u8 0))]) (λw y h'=>K 16 w y h') 16 0 Ll ?_
  intro w2 y h7 D;rw[Qv]at D;cbv;obtain⟨j,ys,o,IM,hj,-,Si,r7⟩:=D;have f2:A .aQ .lss y 16=decide (j<16):=by rw[aV A,o.eq];grind
  rw[f2];by_cases kD:j<16
  .rw[kS kD];have m0:bg (A .aX .mul .i64 4 y) (4*j):=⟨by
    rw[hA.aX,o.eq];show IntKind.i64.wrap (4*(j:Int))=_;rw[IntWalk.i64_in _ ip];omega⟩
   have p0:=hz.add (A:=A) m0 ip;have p1:=p0.succ (A:=A);have p2:=p0.add (A:=A) (w:=2) (j:=2) ⟨rfl⟩ ip;have p3:=p0.add (A:=A) (w:=3) (j:=3) ⟨rfl⟩ ip;have c0:=p0.ix (len:=r) ip;have c1:=p1.ix (len:=r) ip;have c2:=p2.ix (len:=r) ip;have c3:=p3.ix (len:=r) ip;have R:=o.ix (len:=64) ip;have t0:=mC (4*j) ip;have t1:=mC (4*j+1) ip;have t2:=mC (4*j+2) ip;have t3:=mC (4*j+3) ip;have wE:wF P j=bw P (4*j) <<< 24|||bw P (4*j+1) <<< 16|||bw P (4*j+2) <<< 8|||bw P (4*j+3):=by rw[wF,if_pos kD];rfl
   obtain⟨y0,bV⟩:∃v:Int,v=((P.getD (4*j) 0).toNat:Int):=⟨_,rfl⟩;obtain⟨y1,bR⟩:∃v:Int,v=((P.getD (4*j+1) 0).toNat:Int):=⟨_,rfl⟩;obtain⟨y2,sy⟩:∃v:Int,v=((P.getD (4*j+2) 0).toNat:Int):=⟨_,rfl⟩;obtain⟨y3,UH⟩:∃v:Int,v=((P.getD (4*j+3) 0).toNat:Int):=⟨_,rfl⟩;have hR:lM (A .aX .or .u32 (A .aX .or .u32 (A .aX .or .u32 (A .aX .shl .u32 (A .conv .u32 y0) 24) (A .aX .shl .u32 (A .conv .u32 y1) 16)) (A .aX .shl .u32 (A .conv .u32 y2) 8)) (A .conv .u32 y3)) (wF P j):=by rw[wE];exact((((lM.bZo (A:=A) bV).shl (A:=A) (n:=24) (i:=24) ⟨rfl⟩ dl).or (A:=A) ((lM.bZo (A:=A) bR).shl (A:=A) (n:=16) (i:=16) ⟨rfl⟩ dl)).or (A:=A) ((lM.bZo (A:=A) sy).shl (A:=A) (n:=8) (i:=8) ⟨rfl⟩ dl)).or (A:=A) (lM.bZo (A:=A) UH)
   have Ht:∀h',RS h h' E u X V S (ys.set j (wF P j)) (.slice O r U) T->K 16 (16-(j+1)) (A .aX .add .i64 y 1) h':=λh' r'=>by
    rw[Qv];exact⟨j+1,_,o.succ (A:=A),rfl,kD,ip,Si.set ip,r'⟩
   have uL:16-(j+1)<w2:=ip
   have jV:j<ys.length:=by rw[Si.len];omega
   clear Qv Ll f2 wE;cbv;refine⟨⟨iK,c0⟩,?_⟩;cbv;refine r7.st.load t0 p0.eq (λcs M=>?_);have M:cs=[.int .u8 y0]:=by rw[bV];exact M
   subst M;cbv;refine⟨dl,?_⟩;cbv;refine⟨⟨iK,c1⟩,?_⟩;cbv;refine r7.st.load (i:=64*i+4*j+1) (by rw[kXE];exact t1) p1.eq (λcs M=>?_);have M:cs=[.int .u8 y1]:=by rw[bR];exact M
   subst M;cbv;refine⟨dl,?_⟩;cbv;refine⟨⟨iK,c2⟩,?_⟩;cbv;refine r7.st.load (i:=64*i+4*j+2) (by rw[kXE];exact t2) p2.eq (λcs M=>?_);have M:cs=[.int .u8 y2]:=by rw[sy];exact M
   subst M;cbv;refine⟨dl,?_⟩;cbv;refine⟨⟨iK,c3⟩,?_⟩;cbv;refine r7.st.load (i:=64*i+4*j+3) (by rw[kXE];exact t3) p3.eq (λcs M=>?_);have M:cs=[.int .u8 y3]:=by rw[UH];exact M
   subst M;cbv;refine⟨R,?_⟩;cbv;refine r7.o8.setAt (s:=qf) (by simp[qf]) jV o.eq rfl (x:=wF P j) ⟨_,rfl,hR⟩ (λh8 k8 t8 o8=>?_);have Lk:=Ht h8 (r7.w8 z8 bn aC k8 t8 o8);clear Ht k8 t8;cbv;refine zqn (16-(j+1)) (A .aX .add .i64 y 1) uL Lk
  rw[kQW kD];have di:j=16:=ip
  subst di;have Ht:K 64 48 16 h7:=by rw[Qv];exact⟨16,ys,⟨rfl⟩,rfl,ip,λ_=>ip,Si,r7⟩
  clear f2 r7 Ll;cbv;refine ba.gz (G:=Int) (λy=>[(12,.v (.zI y))]) (λ_=>[(2,List.replicate 32 (.int .u8 0))]) (λw y h'=>K 64 w y h') 48 16 Ht ?_
  intro w3 y h8 D;rw[Qv]at D;cbv;obtain⟨j,ys,o,eh,hj,br,Si,r8⟩:=D;have br:=br rfl;have f3:A .aQ .lss y 64=decide (j<64):=by rw[aV A,o.eq];grind
  obtain⟨g,Y,ON⟩:=Ic r8.o8 Si.len;rw[f3];by_cases Hs:j<64
  .rw[kS Hs];have ch:=o.sub (A:=A) (w:=15) (j:=15) ⟨rfl⟩ ip ip;have i2:=o.sub (A:=A) (w:=2) (j:=2) ⟨rfl⟩ ip ip;have ag:=o.sub (A:=A) (w:=16) (j:=16) ⟨rfl⟩ ip ip;have i7:=o.sub (A:=A) (w:=7) (j:=7) ⟨rfl⟩ ip ip;have Vr:=ON _ _ (Si.get (j-15) ip);have g2:=ON _ _ (Si.get (j-2) ip);have dI:=ON _ _ (Si.get (j-16) ip);have g7:=ON _ _ (Si.get (j-7) ip);have dO:=ch.ix (len:=64) ip;have c2:=i2.ix (len:=64) ip;have dM:=ag.ix (len:=64) ip;have c7:=i7.ix (len:=64) ip;have R:=o.ix (len:=64) ip;have wE:wF P j=gQo (wF P (j-2))+wF P (j-7)+gQp (wF P (j-15))+wF P (j-16):=by
    grind [wF]
   have Lk:∀h',RS h h' E u X V S (ys.set j (wF P j)) (.slice O r U) T->K 64 (64-(j+1)) (A .aX .add .i64 y 1) h':=λh' r'=>by
    rw[Qv];exact⟨j+1,_,o.succ (A:=A),rfl,Hs,ip,Si.set Hs,r'⟩
   have Kn:64-(j+1)<w3:=ip
   have jV:j<ys.length:=by rw[Si.len];omega
   have dW:j-15<64:=ip
   have b2:j-2<64:=ip
   have ak:j-16<64:=ip
   have b7:j-7<64:=ip
   clear f3 Qv Ht ON cm;cbv;repeat (first|(refine pe Y ch dW ?_;cbv)|(refine pe Y i2 b2 ?_;cbv)|(refine pe Y i7 b7 ?_;cbv)|(refine pe Y ag ak ?_;cbv)|(refine⟨dO,?_⟩;cbv)|(refine⟨c2,?_⟩;cbv)|(refine⟨c7,?_⟩;cbv)|(refine⟨dM,?_⟩;cbv)|(refine⟨dl,?_⟩;cbv))
   refine yX g2 (n:=17) dl dl rfl (λw1 OH=>?_);cbv;repeat (first|(refine pe Y i7 b7 ?_;cbv)|(refine pe Y ag ak ?_;cbv)|(refine zqr ?_;cbv))
   refine yX g2 (n:=19) dl dl rfl (λev dn=>?_);cbv;repeat (first|(refine pe Y i7 b7 ?_;cbv)|(refine pe Y ag ak ?_;cbv)|(refine zqr ?_;cbv))
   refine yX Vr (n:=7) dl dl rfl (λeu dm=>?_);cbv;repeat (first|(refine pe Y i7 b7 ?_;cbv)|(refine pe Y ag ak ?_;cbv)|(refine zqr ?_;cbv))
   refine yX Vr (n:=18) dl dl rfl (λw4 ca=>?_);cbv;repeat (first|(refine pe Y i7 b7 ?_;cbv)|(refine pe Y ag ak ?_;cbv)|(refine zqr ?_;cbv))
   have hR:=(((((OH.xor (A:=A) dn).xor (A:=A) (g2.shr (A:=A) (n:=10) (i:=10) ⟨rfl⟩ dl))).add (A:=A) g7).add (A:=A) ((dm.xor (A:=A) ca).xor (A:=A) (Vr.shr (A:=A) (n:=3) (i:=3) ⟨rfl⟩ dl))).add (A:=A) dI;refine⟨R,?_⟩;cbv;refine r8.o8.setAt (s:=qf) (by simp[qf]) jV o.eq rfl (x:=wF P j) ⟨_,rfl,by rw[wE];exact hR⟩ (λh9 k9 t9 o9=>?_);have Qu:=Lk h9 (r8.w8 z8 bn aC k9 t9 o9);clear Lk k9 t9;cbv;refine zqn (64-(j+1)) (A .aX .add .i64 y 1) Kn Qu
  have ZX:j=64:=ip
  subst ZX;rw[kQW Hs];have ON:∀j,j<64->lM (g j) (wF P j):=λj hj=>ON j _ (Si.get j hj);have cp:=Si.len;obtain⟨a0,a1,a2,a3,a4,a5,a6,a7,B,w8⟩:=WZ r8.o4;clear f3 Qv Ht Si;cbv;refine cy B ?_;cbv;intro HB h9 ZJ e9;have l9:Le h8 h9:=zqs e9 ZJ
  have Vr:h9 HB=zcL 357 (List.replicate 8 (.zU 0)):=zqt e9;have d3:E≠HB:=nt r8.g3 ZJ;have d4:u≠HB:=nt B ZJ;have d8:X≠HB:=nt Y ZJ;have cd:=r8.le.none ZJ;have r9:=r8.mono l9;have bx:=l9 _ _ Y;clear e9 B Y;cbv;refine jE Vr (qA _) (λiE rE=>?_);have Be:Kp [HB] h9 iE:=by rw[rE];exact Kp.set io
  have bj:=r9.hXF cd d3 d4 d8 Be (by rw[rE];exact cX.set Vr dl);have Vr:iE HB=zcL 357 (Fa a0 a1 a2 a3 a4 a5 a6 a7):=by rw[rE,ae];rfl
  have bd:=Be _ _ bx (iu d8);obtain⟨Q,an⟩:∃Q:Nat->Int->ad->Prop,∀w y h',Q w y h'=(∃j b0 b1 b2 b3 b4 b5 b6 b7,bg y j/\w=64-j/\j<=64/\RS h h' E u X V S ys (.slice O r U) T/\h' X=zcL 355 (wl g)/\h' HB=zcL 357 (Fa b0 b1 b2 b3 b4 b5 b6 b7)/\WL b0 b1 b2 b3 b4 b5 b6 b7 (yY P S j)):=⟨_,λ_ _ _=>rfl⟩;have aE:Q 64 0 iE:=by rw[an];exact⟨0,_,_,_,_,_,_,_,_,⟨rfl⟩,rfl,ip,bj,bd,Vr,w8⟩
  clear rE Be bj Vr bd r9 r8 bx w8;cbv;refine ba.gz (G:=Int) (λy=>[(16,.v (.zI y))]) (λ_=>[(2,List.replicate 32 (.int .u8 0))]) (λw y h'=>Q w y h') 64 0 aE ?_
  intro w4 y oV D;rw[an]at D;cbv;obtain⟨j,b0,b1,b2,b3,b4,b5,b6,b7,o,ca,hj,Ov,gw,d,w8⟩:=D;have f4:A .aQ .lss y 64=decide (j<64):=by rw[aV A,o.eq];grind
  rw[f4];by_cases L:j<64
  .rw[kS L];have R:=o.ix (len:=64) ip;have gk:=de j L;have ee:=ON j L;have cb:∀h' x v,RS h h' E u X V S ys (.slice O r U) T->h' X=zcL 355 (wl g)->h' HB=zcL 357 (Fa x b0 b1 b2 v b4 b5 b6)->WL x b0 b1 b2 v b4 b5 b6 (bKG (yY P S j) (HD.getD j 0) (wF P j))->Q (64-(j+1)) (A .aX .add .i64 y 1) h':=λh' x v r' q8 aF q=>by
    rw[an];exact⟨j+1,_,_,_,_,_,_,_,_,o.succ (A:=A),rfl,L,r',q8,aF,q⟩
   have dd:64-(j+1)<w4:=ip
   have p:=Ov.g3;clear an aE f4 cm;generalize yY P S j=t at *;cbv;repeat ((first|refine fY (i:=4) rfl d rfl ?_|refine fY (i:=0) rfl d rfl ?_|refine fY (i:=7) rfl d rfl ?_|refine fY (i:=5) rfl d rfl ?_|refine fY (i:=6) rfl d rfl ?_|refine fY (i:=1) rfl d rfl ?_|refine fY (i:=2) rfl d rfl ?_|refine fY (i:=3) rfl d rfl ?_|refine pe p o L ?_|refine pe gw o L ?_|refine⟨dl,?_⟩ |refine⟨R,?_⟩ |refine zqr ?_);cbv)
   refine yX w8.e (n:=6) dl dl rfl (λw6 bc=>?_);cbv;repeat ((first|refine fY (i:=4) rfl d rfl ?_|refine fY (i:=0) rfl d rfl ?_|refine fY (i:=7) rfl d rfl ?_|refine fY (i:=5) rfl d rfl ?_|refine fY (i:=6) rfl d rfl ?_|refine fY (i:=1) rfl d rfl ?_|refine fY (i:=2) rfl d rfl ?_|refine fY (i:=3) rfl d rfl ?_|refine pe p o L ?_|refine pe gw o L ?_|refine⟨dl,?_⟩ |refine⟨R,?_⟩ |refine zqr ?_);cbv)
   refine yX w8.e (n:=11) dl dl rfl (λen cr=>?_);cbv;repeat ((first|refine fY (i:=4) rfl d rfl ?_|refine fY (i:=0) rfl d rfl ?_|refine fY (i:=7) rfl d rfl ?_|refine fY (i:=5) rfl d rfl ?_|refine fY (i:=6) rfl d rfl ?_|refine fY (i:=1) rfl d rfl ?_|refine fY (i:=2) rfl d rfl ?_|refine fY (i:=3) rfl d rfl ?_|refine pe p o L ?_|refine pe gw o L ?_|refine⟨dl,?_⟩ |refine⟨R,?_⟩ |refine zqr ?_);cbv)
   refine yX w8.e (n:=25) dl dl rfl (λet cq=>?_);cbv;repeat ((first|refine fY (i:=4) rfl d rfl ?_|refine fY (i:=0) rfl d rfl ?_|refine fY (i:=7) rfl d rfl ?_|refine fY (i:=5) rfl d rfl ?_|refine fY (i:=6) rfl d rfl ?_|refine fY (i:=1) rfl d rfl ?_|refine fY (i:=2) rfl d rfl ?_|refine fY (i:=3) rfl d rfl ?_|refine pe p o L ?_|refine pe gw o L ?_|refine⟨dl,?_⟩ |refine⟨R,?_⟩ |refine zqr ?_);cbv)
   refine yX w8.a (n:=2) dl dl rfl (λv2 OJ=>?_);cbv;repeat ((first|refine fY (i:=4) rfl d rfl ?_|refine fY (i:=0) rfl d rfl ?_|refine fY (i:=7) rfl d rfl ?_|refine fY (i:=5) rfl d rfl ?_|refine fY (i:=6) rfl d rfl ?_|refine fY (i:=1) rfl d rfl ?_|refine fY (i:=2) rfl d rfl ?_|refine fY (i:=3) rfl d rfl ?_|refine pe p o L ?_|refine pe gw o L ?_|refine⟨dl,?_⟩ |refine⟨R,?_⟩ |refine zqr ?_);cbv)
   refine yX w8.a (n:=13) dl dl rfl (λez dr=>?_);cbv;repeat ((first|refine fY (i:=4) rfl d rfl ?_|refine fY (i:=0) rfl d rfl ?_|refine fY (i:=7) rfl d rfl ?_|refine fY (i:=5) rfl d rfl ?_|refine fY (i:=6) rfl d rfl ?_|refine fY (i:=1) rfl d rfl ?_|refine fY (i:=2) rfl d rfl ?_|refine fY (i:=3) rfl d rfl ?_|refine pe p o L ?_|refine pe gw o L ?_|refine⟨dl,?_⟩ |refine⟨R,?_⟩ |refine zqr ?_);cbv)
   refine yX w8.a (n:=22) dl dl rfl (λew dq=>?_);cbv;repeat ((first|refine fY (i:=4) rfl d rfl ?_|refine fY (i:=0) rfl d rfl ?_|refine fY (i:=7) rfl d rfl ?_|refine fY (i:=5) rfl d rfl ?_|refine fY (i:=6) rfl d rfl ?_|refine fY (i:=1) rfl d rfl ?_|refine fY (i:=2) rfl d rfl ?_|refine fY (i:=3) rfl d rfl ?_|refine pe p o L ?_|refine pe gw o L ?_|refine⟨dl,?_⟩ |refine⟨R,?_⟩ |refine zqr ?_);cbv)
   have hX:=((((w8.h.add (A:=A) ((bc.xor (A:=A) cr).xor (A:=A) cq)).add (A:=A) ((w8.e.and (A:=A) w8.f).xor (A:=A) ((w8.e.not (A:=A)).and (A:=A) w8.g))).add (A:=A) gk).add (A:=A) ee);have hY:=((OJ.xor (A:=A) dr).xor (A:=A) dq).add (A:=A) (((w8.a.and (A:=A) w8.b).xor (A:=A) (w8.a.and (A:=A) w8.c)).xor (A:=A) (w8.b.and (A:=A) w8.c));refine jE d (qA _) (λtM aq=>?_);have aW:Kp [HB] oV tM:=by rw[aq];exact Kp.set io
   have aF:tM HB=zcL 357 (Fa _ b0 b1 b2 _ b4 b5 b6):=zqt aq;have ed:=cb tM _ _ (Ov.hXF cd d3 d4 d8 aW (by rw[aq];exact cX.set d dl)) (aW _ _ gw (iu d8)) aF ⟨hX.add (A:=A) hY,w8.a,w8.b,w8.c,w8.d.add (A:=A) hX,w8.e,w8.f,w8.g⟩;clear cb aq;cbv;refine zqn (64-(j+1)) (A .aX .add .i64 y 1) dd ed
  rw[kQW L];have ZX:j=64:=ip
  subst ZX;generalize ht:yY P S 64=t at *;have bz:HW S P=S.add t:=by unfold HW;rw[ht,W8.add_comm]
  rw[bz]at cm;clear bz ht;obtain⟨I,gX⟩:∃I:Nat->Int->ad->Prop,∀w y h',I w y h'=(∃j,bg y j/\w=8-j/\j<=8/\Le h h'/\h' E=zcL 355 (wl V)/\dt 355 qf h' X 64 ys/\Sl 5 cD h' (.slice O r U) T/\dt 357 qf h' HB 8 t.l/\dt 357 qf h' u 8 (BP S t j)):=⟨_,λ_ _ _=>rfl⟩;have kM:I 8 0 oV:=by rw[gX];exact⟨0,⟨rfl⟩,rfl,ip,Ov.le,Ov.g3,Ov.o8,Ov.st,Fb d w8,Ov.o4⟩
  clear d gw an aE f4 Ov;cbv;refine ba.gz (G:=Int) (λy=>[(20,.v (.zI y))]) (λ_=>[(2,List.replicate 32 (.int .u8 0))]) (λw y h'=>I w y h') 8 0 kM ?_
  intro w5 y tM D;rw[gX]at D;cbv;obtain⟨j,o,eT,hj,fk,p,o8,st,bY,H⟩:=D;have f5:A .aQ .lss y 8=decide (j<8):=by rw[aV A,o.eq];grind
  rw[f5];by_cases ab:j<8
  .rw[kS ab];have R:=o.ix (len:=8) ip;have dc:8-(j+1)<w5:=ip
   have cx:=Od S t ab;have dH:t.l[j]? =some (t.l.getD j 0):=by rw[kXC,kZG (show j<t.l.length from ab)];rfl
   have kL:∀h',Le h h'->h' E=zcL 355 (wl V)->dt 355 qf h' X 64 ys->Sl 5 cD h' (.slice O r U) T->dt 357 qf h' HB 8 t.l->dt 357 qf h' u 8 ((BP S t j).set j (S.l.getD j 0+t.l.getD j 0))->I (8-(j+1)) (A .aX .add .i64 y 1) h':=λh' l' x1 x2 x3 x4 x5=>by
    rw[gX];rw[Oc S t ab]at x5;exact⟨j+1,o.succ (A:=A),rfl,ab,l',x1,x2,x3,x4,x5⟩
   have jV:j<(BP S t j).length:=gg
   clear gX kM f5 cm;cbv;refine⟨R,?_⟩;cbv;refine(H.sl (n:=8) rfl).load cx o.eq (λcs M=>?_);obtain⟨u4,rfl,ct⟩:=M;cbv;refine⟨R,?_⟩;cbv;refine(bY.sl (n:=8) rfl).load dH o.eq (λcs M=>?_);obtain⟨eH,rfl,du⟩:=M;cbv;refine⟨R,?_⟩;cbv;refine H.setAt (s:=qf) (by simp[qf]) jV o.eq rfl ⟨_,rfl,ct.add (A:=A) du⟩ (λcw al cn cE=>?_);have Bv:=kL cw (fk.bf (bs:=[u]) (iu z4) al) (al _ _ p (iu bl)) (o8.kp al (by simpa using Ne.symm aC) (λ_ _ _ _ hm _=>by cases hm)) (st.mono (cn _ dl)) (bY.kp al (by simpa using Ne.symm d4) (λ_ _ _ _ hm _=>by cases hm)) cE;clear kL al cn;cbv;refine zqn (8-(j+1)) (A .aX .add .i64 y 1) dc Bv
  rw[kQW ab];have aD:j=8:=ip
  subst aD;rw[aXs]at H;have iL:=cm tM ys cp ⟨fk,p,H,o8,st⟩;clear cm gX kM f5;cbv;refine zqn _ (A .aX .add .i64 z 64) aZ iL
 rw[kQW hc];have dk:64*i=T.length:=ip
 rw[dk,kXq,QP]at hF;subst hF;obtain⟨G,B,hG⟩:=bJX r6.o4;have l6:=r6.le;clear bH dP f1 r6;cbv;intro Oy h7 aB e7;have l7:Le h6 h7:=zqs e7 aB
 have ao:u≠Oy:=nt B aB;have aw:=l6.none aB;obtain⟨I,gX⟩:∃I:Nat->Int->ad->Prop,∀w y h',I w y h'=(∃j g,bg y j/\w=8-j/\j<=8/\Le h h'/\h' u=zcL 357 (fQD G)/\h' Oy=zcL 100 (hl g)/\∀a,a<4*j->g a=((wB (S.l.getD (a / 4) 0) (a % 4)).toNat:Int)):=⟨_,λ_ _ _=>rfl⟩;have kM:I 8 0 h7:=by rw[gX];exact⟨0,λ_=>0,⟨rfl⟩,rfl,ip,l6.trans l7,l7 _ _ B,zqt e7,λa ha=>ip⟩
 clear e7 B;cbv;refine ba.gz (G:=Int) (λy=>[(22,.v (.zI y))]) (λ_=>[(2,List.replicate 32 (.int .u8 0))]) (λw y h'=>I w y h') 8 0 kM ?_
 intro w6 y h8 D;rw[gX]at D;cbv;obtain⟨j,g,o,bc,hj,l8,B,Z,hg⟩:=D;have f6:A .aQ .lss y 8=decide (j<8):=by rw[aV A,o.eq];grind
 rw[f6];by_cases Wx:j<8
 .rw[kS Wx];have m0:bg (A .aX .mul .i64 4 y) (4*j):=⟨by
   rw[hA.aX,o.eq];show IntKind.i64.wrap (4*(j:Int))=_;rw[IntWalk.i64_in _ ip];omega⟩
  have m1:=m0.succ (A:=A);have m2:=m0.add (A:=A) (w:=2) (j:=2) ⟨rfl⟩ ip;have m3:=m0.add (A:=A) (w:=3) (j:=3) ⟨rfl⟩ ip;have c0:=m0.ix (len:=32) ip;have c1:=m1.ix (len:=32) ip;have c2:=m2.ix (len:=32) ip;have c3:=m3.ix (len:=32) ip;have R:=o.ix (len:=8) ip;have hu:=hG j Wx;have v0:=hu.wB (A:=A) (m:=24) (j:=0) dl rfl;have v1:=hu.wB (A:=A) (m:=16) (j:=1) dl rfl;have v2:=hu.wB (A:=A) (m:=8) (j:=2) dl rfl;have v3:=hu.iZq (A:=A);have gj:=aZD G Wx;have ax:=o.eq;have cY:8-(j+1)<w6:=ip
  have kL:∀h' x0 x1 x2 x3,x0=((wB (S.l.getD j 0) 0).toNat:Int)->x1=((wB (S.l.getD j 0) 1).toNat:Int)->x2=((wB (S.l.getD j 0) 2).toNat:Int)->x3=((wB (S.l.getD j 0) 3).toNat:Int)->Le h h'->h' u=zcL 357 (fQD G)->
   h' Oy=zcL 100 (((((hl g).set (4*j) (.int .u8 x0)).set (4*j+1) (.int .u8 x1)).set (4*j+2) (.int .u8 x2)).set (4*j+3) (.int .u8 x3))->I (8-(j+1)) (A .aX .add .i64 y 1) h':=λh' x0 x1 x2 x3 e0 e1 e2 e3 l' g' q'=>by
   rw[gX];rw[CS _ _ ip,CS _ _ ip,CS _ _ ip,CS _ _ ip]at q';refine⟨j+1,_,o.succ (A:=A),rfl,Wx,l',g',q',λa ha=>?_⟩;show(if a=4*j+3 then x3 else if a=4*j+2 then x2 else if a=4*j+1 then x1 else if a=4*j then x0 else g a)=_;by_cases a3:a=4*j+3
   .rw[if_pos a3,e3,a3,show(4*j+3) / 4=j by omega,show(4*j+3) % 4=3 by omega]
   rw[if_neg a3];by_cases a2:a=4*j+2
   .rw[if_pos a2,e2,a2,show(4*j+2) / 4=j by omega,show(4*j+2) % 4=2 by omega]
   rw[if_neg a2];by_cases a1:a=4*j+1
   .rw[if_pos a1,e1,a1,show(4*j+1) / 4=j by omega,show(4*j+1) % 4=1 by omega]
   rw[if_neg a1];by_cases a0:a=4*j
   .rw[if_pos a0,e0,a0,show(4*j) / 4=j by omega,show(4*j) % 4=0 by omega]
   rw[if_neg a0];exact hg a ip
  clear gX kM f6 hg;cbv;repeat (first|(refine fY ax B gj ?_;cbv)|(refine⟨R,?_⟩;cbv)|(refine⟨dl,?_⟩;cbv))
  refine⟨c0,?_⟩;cbv;refine bKm m0 Z (by show 0+4*j<32;omega) (λx0 aO=>?_);have aK:Kp [Oy] h8 x0:=by rw[aO];exact Kp.set io
  have B:=aK _ _ B (iu ao);have ec:=l8.bf (bs:=[Oy]) (iu aw) aK;have Z:x0 Oy=zcL 100 ((hl g).set (4*j) (.int .u8 (A .conv .u8 (A .aX .shr .u32 (G j) 24)))):=by rw[aO,ae,kJe]
  clear aO aK;cbv;repeat (first|(refine fY ax B gj ?_;cbv)|(refine zqr ?_;cbv))
  refine⟨c1,?_⟩;cbv;refine bKm m1 Z (by rw[kJE];show 0+(4*j+1)<32;omega) (λx1 aN=>?_);have aI:Kp [Oy] x0 x1:=by rw[aN];exact Kp.set io
  have B:=aI _ _ B (iu ao);have cL:=ec.bf (bs:=[Oy]) (iu aw) aI;have Z:x1 Oy=zcL 100 (((hl g).set (4*j) (.int .u8 (A .conv .u8 (A .aX .shr .u32 (G j) 24)))).set (4*j+1) (.int .u8 (A .conv .u8 (A .aX .shr .u32 (G j) 16)))):=by rw[aN,ae,kJe]
  clear aN aI;cbv;repeat (first|(refine fY ax B gj ?_;cbv)|(refine zqr ?_;cbv))
  refine⟨c2,?_⟩;cbv;refine bKm m2 Z (by rw[kJE];rw[kJE];show 0+(4*j+2)<32;omega) (λx2 aM=>?_);have aH:Kp [Oy] x1 x2:=by rw[aM];exact Kp.set io
  have B:=aH _ _ B (iu ao);have eb:=cL.bf (bs:=[Oy]) (iu aw) aH;have Z:x2 Oy=zcL 100 ((((hl g).set (4*j) (.int .u8 (A .conv .u8 (A .aX .shr .u32 (G j) 24)))).set (4*j+1) (.int .u8 (A .conv .u8 (A .aX .shr .u32 (G j) 16)))).set (4*j+2) (.int .u8 (A .conv .u8 (A .aX .shr .u32 (G j) 8)))):=by rw[aM,ae,kJe]
  clear aM aH;cbv;repeat (first|(refine fY ax B gj ?_;cbv)|(refine zqr ?_;cbv))
  refine⟨c3,?_⟩;cbv;refine bKm m3 Z (by rw[kJE];rw[kJE];rw[kJE];show 0+(4*j+3)<32;omega) (λx3 aL=>?_);have aG:Kp [Oy] x2 x3:=by rw[aL];exact Kp.set io
  have B:=aG _ _ B (iu ao);have dX:=eb.bf (bs:=[Oy]) (iu aw) aG;have Z:x3 Oy=zcL 100 (((((hl g).set (4*j) (.int .u8 (A .conv .u8 (A .aX .shr .u32 (G j) 24)))).set (4*j+1) (.int .u8 (A .conv .u8 (A .aX .shr .u32 (G j) 16)))).set (4*j+2) (.int .u8 (A .conv .u8 (A .aX .shr .u32 (G j) 8)))).set (4*j+3) (.int .u8 (A .conv .u8 (G j)))):=by rw[aL,ae,kJe]
  clear aL aG;cbv;have Bv:=kL x3 _ _ _ _ v0 v1 v2 v3 dX B Z;clear kL;cbv;refine zqn _ (A .aX .add .i64 y 1) cY Bv
 rw[kQW Wx];have aD:j=8:=ip
 subst aD;have:=hk h8 g l8 (Bp (wP _) λa x hx=>by
  grind [hx,wP,Ms])
 clear hk gX kM;cbv;refine cy Z ?_;cbv;exact this
theorem aXD{l:Bs}(q:Sl e1 cD h (.slice b n c) l)(C:n<=2^37)
 (o:∀h' g,Le h h'->hl g=aT (Bc l)->k (.agg (hl g).toArray) h'):Ct 300 [.slice b n c] h k:=by
 have e:=q.len;refine cB eXR Tryz.func300 λA B=>?_;cbv;intro i a f e1;have d:Le h a:=zqs e1 f
 have u:bA 5 cD h a (.slice (zsA i) 1 1) [0]:=(Ew (s:=cD) (x:=0) (zqt e1) rfl).buf f rfl;clear e1;cbv;refine u.app (q.mono (d.t _)) dl rfl dl ip d (λD w y z V r E p v=>?_);clear p;cbv;refine Ok v.sl ip (λj g t m=>?_);have:=o j g (r.trans t) m;cbv;exact this
theorem fQf{i j:Nat->Int}{x y:Bs}(h0:hl i=aT x)(v:hl j=aT y)(hx:x.length=32)(B:y.length=32)
 (o:∀h' g,Le h h'->hl g=aT (AD x y)->k (.agg (hl g).toArray) h'):Ct 292 [.agg (hl i).toArray,.agg (hl j).toArray] h k:=by
 have T:AD x y=Ul ([1]++x++y):=by unfold AD;simp
 rw[T]at o;clear T;refine cB eXZ Tryz.func292 λA X=>?_;cbv;intro q l u e;have E:Le h l:=zqs e u
 have a:l q=zcL 100 (hl i):=zqt e;clear e;cbv;intro r c H d;have p:Le l c:=zqs d H
 have b:c r=zcL 100 (hl j):=zqt d;have a:=p _ _ a;clear d;cbv;intro t n G f;have m:Le c n:=zqs f G
 have K:bA 5 cD c n (.slice (zsA t) 1 1) [1]:=(Ew (s:=cD) (x:=1) (zqt f) rfl).buf G rfl;have a:=m _ _ a;have b:=m _ _ b;clear f;cbv;refine K.app (kG a h0 hx) dl rfl dl dl m (λY P R V O F N C L=>?_);have b:=N [100] dl _ _ _ _ io b;clear C;cbv;refine L.app (kG b v B) dl rfl dl ip F (λZ Q U W S I t6 D M=>?_);clear D;cbv;refine Ok M.sl ip (λw g J z=>?_);have:=o w g ((E.trans p).trans (I.trans J)) z;cbv;exact this
theorem bKA(p:bg z n)(s:2<=n)(q:n<=2^60)(a:∀w,bg w (BF n)->k (.zI w) h):Ct 291 [.zI z] h k:=by
 obtain⟨J,b⟩:∃J:Nat->Int->ad->Prop,∀w y h',J w y h'=(∃i,bg y i/\w=n-i/\0<i/\i<n/\h'=h/\De i n=BF n):=⟨_,λ_ _ _=>rfl⟩;have d:J (n-1) 1 h:=by rw[b];exact⟨1,⟨rfl⟩,rfl,ip,ip,rfl,rfl⟩
 generalize BF n=C at *;refine cB eZa Tryz.func291 λA l=>?_;cbv;refine ba.gz (G:=Int) (λy=>[(3,.v (.zI y))]) (λ_=>[]) (λw y h'=>J w y h') (n-1) 1 d ?_
 intro w y j I;rw[b]at I;cbv;obtain⟨i,g,t,h0,r,rfl,e⟩:=I;have m:A .aX .mul .i64 2 y=((2*i:Nat):Int):=by rw[l.aX,g.eq];show IntKind.i64.wrap (2*(i:Int))=_;rw[IntWalk.i64_in _ ip];omega
 have f:A .aQ .lss (A .aX .mul .i64 2 y) z=decide (2*i<n):=by rw[m,aV A,p.eq];exact decide_eq_decide.2 ip
 have F:De i n=if h:2*i<n/\0<i then De (2*i) n else i:=by rw[De]
 rw[f];by_cases c:2*i<n
 .rw[dif_pos ⟨c,h0⟩,e]at F;have L:J (n-2*i) (A .aX .mul .i64 2 y) j:=by rw[b];exact⟨2*i,⟨m⟩,rfl,ip,c,rfl,F.symm⟩
  have Z:n-2*i<w:=ip
  rw[kS c];clear b d a f m;cbv;refine zqn _ (A .aX .mul .i64 2 y) Z L
 rw[dif_neg (λo=>c o.1),e]at F;have:=a y (by rw[F];exact g);rw[kQW c];clear b d a f m;cbv;exact this
theorem aXA(N:Nat):∀ {h:ad} {b:Option Addr} {n c:Nat} {L:List Bs} (q:Sl 100 yV h (.slice b n c) L) (H:L.length<=N) {k:Value->ad->Prop}
 (a:∀h' g,Le h h'->hl g=aT (gW L)->(gW L).length=32->k (.agg (hl g).toArray) h'),Ct 186 [.slice b n c] h k:=by
 induction N with
 |zero=>
  intro h b n c L q H k a;obtain⟨A,u⟩:=Ar.ex;have e:=q.len;have o:L=[]:=kZh ip;subst o;have s:A .aQ .eql (A .nat n) 0=true:=by rw[au A,u.nat,e];rfl
  refine kh bXg A Tryz.func186 ?_;cbv;rw[s];cbv;refine Ok (e1:=0) (l:=[]) Sl.nil io (λt g j d=>?_);have:=a t g j (by rw[d];rw[gW]) (by rw[gW];exact gu _);cbv;exact this
 |succ N p=>
  intro h b n c L q H k a;obtain⟨A,u⟩:=Ar.ex;have e:=q.len;have kE:=q.bound;have s:A .aQ .eql (A .nat n) 0=decide (L.length=0):=by rw[au A,u.nat,<-e];exact decide_eq_decide.2 (by show(n:Int)=0↔_;omega)
  have G:A .aQ .eql (A .nat n) 1=decide (L.length=1):=by rw[au A,u.nat,<-e];exact decide_eq_decide.2 (by show(n:Int)=1↔_;omega)
  refine kh bXg A Tryz.func186 ?_;cbv;rw[s];by_cases v:L.length=0
  .have o:L=[]:=kZh v;subst o;rw[kS v];clear p;cbv;refine Ok (e1:=0) (l:=[]) Sl.nil io (λt g j d=>?_);have:=a t g j (by rw[d];rw[gW]) (by rw[gW];exact gu _);cbv;exact this
  rw[kQW v];cbv;rw[G];by_cases B:L.length=1
  .obtain⟨x,hx⟩:=cK L 0;have o:L=[x]:=by
    match L,B with
    | [y],_=>cases hx;rfl
   have hR:gW L=x:=by rw[o,gW]
   rw[hR]at a;have U:b.isSome=true:=q.bu;have ix:(0:Int)<=0/\(0:Int)<(n:Int):=ip
   rw[kS B];clear p;cbv;refine⟨⟨U,ix⟩,?_⟩;cbv;refine q.load hx rfl (λcs r=>?_);obtain⟨r,E⟩:=r;obtain⟨g,d⟩:=tJ E;rw[<-d]at r;subst r;have:=a h g (Le.refl _) d E;cbv;exact this
  rw[kQW B];have hR:=Iz (L:=L) ip;obtain⟨F,K⟩:=EI (n:=L.length) ip;rw[hR]at a;have R:2<=n:=ip
  have J:L.length=n:=e.symm;rw[J]at a F K;obtain⟨m,I⟩:∃m,m=BF n:=⟨_,rfl⟩;rw[<-I]at a F K;clear s G hR;cbv;refine bKA (bg.nat n) R ip (λw f=>?_);rw[<-I]at f;have oY:0<=w/\w<=(c:Int):=by have:=f.eq;omega
  have pF:0<=w/\w<=(n:Int):=by have:=f.eq;omega
  have V:=dJ (A:=A) f;obtain⟨n2,Z⟩:∃x,x=n-m:=⟨_,rfl⟩;obtain⟨c2,Q⟩:∃x,x=c-m:=⟨_,rfl⟩;have D:=cS (A:=A) (n:=n) f;have S:=cS (A:=A) (n:=c) f;rw[<-Z]at D;rw[<-Q]at S;have tk:=q.vU (A:=A) (z:=A .nat c) (i:=m) ip rfl;have M:=q.jX (A:=A) f ip Z Q;cbv;refine⟨oY,?_⟩;cbv;refine⟨pF,?_⟩;cbv;rw[V,D,S];refine p tk (by rw[kJI];omega) (λt g1 j ui X=>?_);have C:=M.mono (j.t _);clear M tk;cbv;refine p C (by rw[kJb];omega) (λh2 g2 W O P=>?_);clear p;cbv;refine fQf ui O X P (λT g Y d=>?_);have:=a T g ((j.trans W).trans Y) d (LF _ _);cbv;exact this
end Go.S
