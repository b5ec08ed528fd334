import Derived.Test.YthnbpiejemlbeaaGreatLB
set_option linter.all false
set_option maxRecDepth 100000
set_option maxHeartbeats 8000000
namespace Go.S
open Go.Sx Go.Proofs
variable {A:Ar}{a m w z:Int}{E:List (Int×Int)}{xs:List Int}{H:List bZ}{bytes c cap n p size:Nat}{b j:Option Addr}{k:Value->ad->Prop}{h h' h0:ad}
structure Q2(h0 h:ad)(sb:Option Addr)(sl sc:Nat)(tb:Option Addr)(tl tc:Nat)(seen todo:List Int)(p:Nat):Prop where
 le:Le h0 h
 seen:bA 3 dK h0 h (.slice sb sl sc) seen
 todo:lU 3 dK h0 h (.slice tb tl tc) todo p
 fQT:∀a,sb=some a->h a.block≠none
 fQK:∀a,tb=some a->h a.block≠none
 dj:∀a a',sb=some a->tb=some a'->a.block≠a'.block
theorem Q2.mono{c e:Option Addr}{sl d g f:Nat}{s t:List Int}(q:Q2 h0 h c sl d e g f s t p)(l:Le h h'):Q2 h0 h' c sl d e g f s t p:=
 ⟨q.le.trans l,q.seen.mono (l.t _),q.todo.mono (l.t _),λa b n=>q.fQT a b (l.none n),λa b n=>q.fQK a b (l.none n),q.dj⟩
theorem YD(o:dt 3 dK h n cap xs)(k:∀o,h n=some o->h' n=some o):dt 3 dK h' n cap xs:=by obtain⟨c,a,b,d⟩:=o.out;exact⟨⟨c,k _ a,b.mono (λ_ _ _ _ m=>by cases m),d⟩,o.le,o.bd⟩
theorem Mr(o:dt 3 dK h n cap xs):h n≠none:=by
 obtain⟨c,a,b,d⟩:=o.out
 grind
theorem cJC{l:Nat}(q:bA 3 dK h0 h (.slice b l c) xs)(k:∀a o,b=some a->h a.block=some o->h' a.block=some o):bA 3 dK h0 h' (.slice b l c) xs:=by
 rcases q.out with g| ⟨n,cap,d,e,o⟩
 .exact⟨.inl g⟩
 cases d;exact⟨.inr ⟨n,c,rfl,e,YD o (λo=>k _ o rfl)⟩⟩
theorem bQI{l:Nat}(q:lU 3 dK h0 h (.slice b l c) xs p)(k:∀a o,b=some a->h a.block=some o->h' a.block=some o):lU 3 dK h0 h' (.slice b l c) xs p:=by
 rcases q.out with g| ⟨n,cap,pre,d,e,o,f⟩
 .exact⟨.inl g⟩
 cases d;exact⟨.inr ⟨n,cap,pre,rfl,e,YD o (λo=>k _ o rfl),f⟩⟩
theorem VQ{l:Nat}(q:bA 3 dK h0 h (.slice b l c) xs)(hl:l≠0):∀a,b=some a->h a.block≠none:=λa e=>by
 rcases q.out with⟨f,g,d⟩|⟨n,cap,g,d,o⟩
 .grind
 cases g;cases e;exact Mr o
theorem He{l:Nat}(q:lU 3 dK h0 h (.slice b l c) xs p)(hl:l≠0):∀a,b=some a->h a.block≠none:=λa e=>by
 rcases q.out with⟨f,g,d⟩|⟨n,cap,pre,g,d,o,i⟩
 .grind
 cases g;cases e;exact Mr o
theorem Q2.bQV{u x:Option Addr}{sl v z y C:Nat}{s t:List Int}(q:Q2 h0 h u sl v j z y s t p)(L:Sl 3 dK h (.slice x 1 C) [w])(I:size=1)(K:bytes<=128)(H:sl+1<=2^39)
  (G:∀m c c' h',m=sl+1->Q2 h0 h' c m c' j z y (s++[w]) t p->k (.slice c m c') h'):iF h u sl v x 1 size bytes 3 k:=by
 refine q.seen.KQ L dl I K H q.le (λm c c' h' D l M g B=>?_);have E:∀a o,j=some a->h a.block=some o->h' a.block=some o:=λa o b i=>M a.block o i (λe=>q.dj _ _ e b rfl);refine G m c c' h' D ⟨l,g,bQI q.todo E,VQ g ip,λa b Q=>?_,λa A b d r=>?_⟩
 .have:=q.fQK a b;cases i:h a.block with
  |none=>exact this i
  |some o=>grind
 rcases g.out with⟨N,n,F⟩|⟨J,cap,n,F,o⟩
 .grind
 cases n;cases b;rcases B J rfl with f|f|f
 .exact q.dj _ _ f d r
 .exact q.fQK A d (r ▸ f)
 omega
theorem Q2.bQU{v x:Option Addr}{sl u y z:Nat}{s t:List Int}(q:Q2 h0 h j sl u v c y s t p)(K:Sl 3 dK h (.slice x 1 z) [w])(H:size=1)(I:bytes<=128)(F:c+1<=2^39)(G:p+1<=2^40)(J:c<=p)
  (E:∀m d c' h',m=c+1->Q2 h0 h' j sl u d m c' s (t++[w]) (p+1)->k (.slice d m c') h'):iF h v c y x 1 size bytes 3 k:=by
 refine q.todo.KQ K dl H I F G J q.le (λm d c' h' A l L r B=>?_);have C:∀a o,j=some a->h a.block=some o->h' a.block=some o:=λa o b i=>L a.block o i (λn e g=>q.dj _ _ b e g.symm);refine E m d c' h' A ⟨l,cJC q.seen C,r,λa b M=>?_,He r ip,λa n b Q g=>?_⟩
 .have:=q.fQT a b;cases i:h a.block with
  |none=>exact this i
  |some o=>grind
 rcases B n Q with⟨a2,f,D⟩ |f|f
 .exact q.dj _ _ b f (by rw[g,D])
 .exact q.fQT a b gg
 omega
theorem Jj[d:bM A]{a:Addr}(h:A .cut b z m n=some a):∃c,b=some c/\c.block=a.block:=by
 rw[d.cut]at h;simp only at h;split at h
 .exact⟨a,h,rfl⟩
 cases b with
 |none=>cases h
 |some c=>cases h;refine⟨c,rfl,?_⟩;unfold Addr.add;split<;>rfl
theorem Q2.tail[v:bM A]{l:Option Addr}{sl k g:Nat}{e t:List Int}{x:Int}(q:Q2 h0 h j sl k l n g e (x::t) p)(u:bg z 1){m c':Nat}(r:m=n-1)(o:c'=g-1):
 Q2 h0 h j sl k (A .cut l z (A .nat g) 1) m c' e t p:=by
 refine⟨q.le,q.seen,q.todo.tail (A:=A) (s:=dK) u r o,q.fQT,λa f=>?_,λa i f d=>?_⟩
 .obtain⟨i,b,c⟩:=Jj f;rw[<-c];exact q.fQK i b
 obtain⟨a2,b,c⟩:=Jj d;rw[<-c];exact q.dj a a2 f b
structure Fx(E:List (Int×Int))(M:Nat)(st:List Int×List Int)(p:Nat):Prop where
 fm:AV E st.1+st.2.length<=M
 fp:p+AV E st.1<=E.length+1
 ft:st.2.length<=p
 fs:st.1.length+AV E st.1<=E.length
theorem Fx.add{M:Nat}{s:List Int×List Int}(q:Fx E M s p)(n:w∉s.1)(b:w∈dv E a):Fx E M (s.1++[w],s.2++[w]) (p+1):=by have h:=RO n b;have c:=q.fm;have d:=q.fp;have e:=q.ft;have f:=q.fs;constructor<;>simp only[kXy,kXm]<;>omega
theorem bQK(E:List (Int×Int))(n:Nat)(s:List Int):bQL E n (s,[])=s:=by cases n<;>rfl
theorem XE{W:List bZ}{w x:bZ}(b:w∈W)(hx:x∈H)(h:eE w x=true)(s:w.s=a):x.s∈dv (cN H W) a:=by
 rw[vY]
 grind [ou,hx]
theorem SK{W:List bZ}{b1 b2:Option Addr}{K c1 N c2:Nat}(q1:Sl 422 bC h (.slice b1 K c1) H)(q2:Sl 422 bC h (.slice b2 N c2) W)(fG:K<=2^18)(fA:N<=2^18)(s:Int)
 (hk:∀h' b n c,Le h h'->Sl 3 dK h' (.slice b n c) (over (cN H W) s)->k (.slice b n c) h'):
 Ct 342 [.agg #[.slice b1 K c1,.slice b2 N c2],.zI s] h k:=by
 have nZ:=q1.len;have lN:=q2.len;obtain⟨E,Vk⟩:∃E,cN H W=E:=⟨_,rfl⟩;have hE:E.length<=2^37:=by
  have:=Db H W;have:=Cp (show W.length<=2^18 by omega) (show H.length<=2^18 by omega)
  grind
 have nC:∀(a:Int) (w x:bZ) (i j:Nat),W[i]? =some w->H[j]? =some x->eE w x=true->w.s=a->x.s∈dv E a:=λa w x i j hw hx V hs=>by
  rw[<-Vk];exact XE (kQR hw) (kQR hx) V hs
 have aB:∀a,dv E a=W.flatMap (ou H a):=λa=>by rw[<-Vk];exact vY H a W
 rw[Vk]at hk;have UN:AV E []=E.length:=by simp[AV]
 obtain⟨I1,kM⟩:∃I1:Nat->(Option Addr×Nat×Nat)×(Option Addr×Nat×Nat)->ad->Prop,∀m g h',I1 m g h'=∃d v n p,Q2 h h' g.1.1 g.1.2.1 g.1.2.2 g.2.1 g.2.2.1 g.2.2.2 d v p/\m=AV E d+v.length/\m<=n/\bQL E n (d,v)=over E s/\p+AV E d<=E.length+1/\v.length<=p/\d.length+AV E d<=E.length:=⟨_,λ_ _ _=>rfl⟩;refine cB eXh Tryz.func342 λA hA=>?_;cbv;intro nb h2 eM e2;have l2:Le h h2:=zqs e2 eM
 have g2:=zqt e2;have gQ:lU 3 dK h h2 (.slice (zsA nb) 1 1) [s] 1:=((Ew (s:=dK) g2 (x:=s) rfl).buf eM rfl).t io;have aC:Q2 h h2 none 0 0 (zsA nb) 1 1 [] [s] 1:=⟨l2,bA.nil,gQ,(λa V=>by cases V),He gQ ip,(λa a' V=>by cases V)⟩;have bH:I1 (E.length+1) ((none,0,0),(zsA nb,1,1)) h2:=by rw[kM];exact⟨[],[s],E.length+2,1,aC,by rw[UN];rfl,ip,rfl,gg,io,gg⟩
 cbv;refine ba.gz (G:=(Option Addr×Nat×Nat)×(Option Addr×Nat×Nat)) (λg=>[(5,.v (.slice g.1.1 g.1.2.1 g.1.2.2)),(6,.v (.slice g.2.1 g.2.2.1 g.2.2.2))]) (λ_=>[(2,[.slice b1 K c1,.slice b2 N c2])]) (λm g h'=>I1 m g h') (E.length+1) ((none,0,0),(zsA nb,1,1)) bH ?_
 intro m g h' L;rw[kM]at L;cbv;obtain⟨d,v,n,p,u,hm,EC,Qr,hp,ax,MR⟩:=L;obtain⟨⟨y,sl,C⟩,⟨D,t,f⟩⟩:=g;have u:Q2 h h' y sl C D t f d v p:=u;have Cb:t=v.length:=u.todo.sl.len;have f0:A .aQ .gtr (A .nat t) 0=decide (0<t):=by
  rw[bF A,hA.nat]
  grind
 rw[f0];by_cases h0:0<t
 .cases v with
  |nil=>simp at Cb;omega
  |cons a r=>
   have eL:D.isSome=true/\(0:Int)<=0/\(0:Int)<(t:Int):=⟨u.todo.sl.bu,ip,ip⟩;have Jc:bg (1:Int) 1:=⟨rfl⟩;have mV:(0:Int)<=1/\(1:Int)<=(t:Int):=ip
   have qt:=u.tail (A:=A) Jc (cS (A:=A) (n:=t) Jc) (cS (A:=A) (n:=f) Jc);rw[kS h0];cbv;refine⟨eL,?_⟩;cbv;refine u.todo.sl.load (i:=0) (x:=a) rfl (n:=0) rfl (λcs O=>?_);have O:cs=[.zI a]:=O;subst O;cbv;refine⟨mV,?_⟩;have zl:∃n',n=n'+1/\bQL E n' ((dv E a).foldl dV (d,r))=over E s:=by simp only[kZs]at hm;obtain⟨n',aw⟩:∃n',n=n'+1:=⟨n-1,ip⟩;subst aw;exact⟨n',rfl,Qr⟩
   obtain⟨n',rfl,zl⟩:=zl;rw[aB a]at zl;obtain⟨M,hM⟩:∃M,M=AV E d+r.length:=⟨_,rfl⟩;have aq:Fx E M (d,r) p:=⟨gg,hp,gg,MR⟩;have aI:M<m:=gg
   have aH:M<=n':=ip
   have aE:M<=E.length:=gg
   obtain⟨Z,an⟩:∃Z,Z=(d,r):=⟨_,rfl⟩;have qt:Q2 h h' y sl C (A .cut D 1 (A .nat f) 1) (A .nR (A .nat t) 1) (A .nR (A .nat f) 1) Z.1 Z.2 p:=gg
   rw[<-an]at aq zl;clear Qr hp ax MR hm EC Cb eL mV an hM Jc u f0;obtain⟨I2,kL⟩:∃I2:Nat->Int×(Option Addr×Nat×Nat)×(Option Addr×Nat×Nat)->ad->Prop,∀m g T,I2 m g T=∃(i p:Nat) (F:List Int×List Int),bg g.1 i/\m=N-i/\i<=N/\F=((W.take i).flatMap (ou H a)).foldl dV Z/\Q2 h T g.2.1.1 g.2.1.2.1 g.2.1.2.2 g.2.2.1 g.2.2.2.1 g.2.2.2.2 F.1 F.2 p/\Fx E M F p:=⟨_,λ_ _ _=>rfl⟩;have cm:I2 N (0,(y,sl,C),(A .cut D 1 (A .nat f) 1,A .nR (A .nat t) 1,A .nR (A .nat f) 1)) h':=by rw[kL];exact⟨0,p,Z,⟨rfl⟩,rfl,ip,io,qt,aq⟩
   cbv;refine ba.gz (G:=Int×(Option Addr×Nat×Nat)×(Option Addr×Nat×Nat)) (λg=>[(8,.v (.zI g.1)),(5,.v (.slice g.2.1.1 g.2.1.2.1 g.2.1.2.2)),(6,.v (.slice g.2.2.1 g.2.2.2.1 g.2.2.2.2))]) (λ_=>[(2,[.slice b1 K c1,.slice b2 N c2])]) (λm g h'=>I2 m g h') N (0,(y,sl,C),(A .cut D 1 (A .nat f) 1,A .nR (A .nat t) 1,A .nR (A .nat f) 1)) cm ?_
   intro m2 g T L;rw[kL]at L;cbv;obtain⟨i,p,F,hz,zV,hi,fV,u,P⟩:=L;obtain⟨z,⟨y,sl,C⟩,⟨D,t,f⟩⟩:=g;have hz:bg z i:=hz;have u:Q2 h T y sl C D t f F.1 F.2 p:=u;have f1:A .aQ .lss z (A .nat N)=decide (i<N):=hz.zQ (bg.nat N);rw[f1];by_cases aZ:i<N
   .obtain⟨⟨ws,I,J⟩,hw⟩:=cK W i;have eL:b2.isSome=true/\0<=z/\z<(N:Int):=⟨q2.bu,hz.ix aZ⟩;have dI:=hz.eq;have gO:=hz.succ (A:=A);have aD:A .aQ .eql ws a=decide (ws=a):=au A ..;have ao:((W.take (i+1)).flatMap (ou H a)).foldl dV Z=(ou H a ⟨ws,I,J⟩).foldl dV F:=by rw[kJG,hw,List.flatMap_append,List.foldl_append,<-fV];simp
    have Sq:=nC a ⟨ws,I,J⟩;have Sq:∀(x:bZ) (j:Nat),H[j]? =some x->eE ⟨ws,I,J⟩ x=true->ws=a->x.s∈dv E a:=λx j hx V hs=>Sq x i j hw hx V hs;have fO:ws≠a->∀l,ou l a ⟨ws,I,J⟩=[]:=λbV l=>by unfold ou;rw[if_neg bV]
    have ak:ws=a->∀(q:Nat) (x:bZ),H[q]? =some x->ou (H.take (q+1)) a ⟨ws,I,J⟩=ou (H.take q) a ⟨ws,I,J⟩++if eE ⟨ws,I,J⟩ x=true then [x.s]else []:=λe q x hx=>Ug H (w:=⟨ws,I,J⟩) e hx
    obtain⟨I3,Bv⟩:∃I3:Nat->Int×(Option Addr×Nat×Nat)×(Option Addr×Nat×Nat)->ad->Prop,∀m g T,I3 m g T=∃(q p:Nat) (B:List Int×List Int),bg g.1 q/\m=K-q/\q<=K/\B=(ou (H.take q) a ⟨ws,I,J⟩).foldl dV F/\Q2 h T g.2.1.1 g.2.1.2.1 g.2.1.2.2 g.2.2.1 g.2.2.2.1 g.2.2.2.2 B.1 B.2 p/\Fx E M B p:=⟨_,λ_ _ _=>rfl⟩;have iL:I3 K (0,(y,sl,C),(D,t,f)) T:=by rw[Bv];exact⟨0,p,F,⟨rfl⟩,rfl,ip,by simp[ou],u,P⟩
    have Nh:∀B,B=(ou H a ⟨ws,I,J⟩).foldl dV F->∀U p y sl C D t f,Q2 h U y sl C D t f B.1 B.2 p->Fx E M B p->I2 (N-(i+1)) (A .aX .add .i64 z 1,(y,sl,C),(D,t,f)) U:=λB h3 U p y sl C D t f Y h7=>by
     rw[kL];exact⟨i+1,p,B,gO,rfl,aZ,by rw[ao,h3],Y,h7⟩
    have al:N-(i+1)<m2:=ip
    clear kL fV ao cm zl P u nC;rw[kS aZ];cbv;refine ba.gz (G:=Int×(Option Addr×Nat×Nat)×(Option Addr×Nat×Nat)) (λg=>[(9,.v (.zI g.1)),(5,.v (.slice g.2.1.1 g.2.1.2.1 g.2.1.2.2)),(6,.v (.slice g.2.2.1 g.2.2.2.1 g.2.2.2.2))]) (λ_=>[(2,[.slice b1 K c1,.slice b2 N c2])]) (λm g h'=>I3 m g h') K (0,(y,sl,C),(D,t,f)) iL ?_
    intro m3 g U L;rw[Bv]at L;cbv;obtain⟨q,p,B,IK,OM,Eg,S,u,P⟩:=L;obtain⟨z3,⟨y,sl,C⟩,⟨D,t,f⟩⟩:=g;have IK:bg z3 q:=IK;have u:Q2 h U y sl C D t f B.1 B.2 p:=u;have f3:A .aQ .lss z3 (A .nat K)=decide (q<K):=IK.zQ (bg.nat K);rw[f3];by_cases Kn:q<K
    .obtain⟨⟨xs,xt,xx⟩,hx⟩:=cK H q;rw[kS Kn];cbv;refine⟨eL,?_⟩;cbv;refine q2.mono (u.le.t _) |>.cI hw dI (o:=0) (m:=1) dl (λcs O=>?_);have O:cs=[.zI ws,.string I,.bool J]:=O;subst O;cbv;rw[aD];have zX:b1.isSome=true/\0<=z3/\z3<(K:Int):=⟨q1.bu,IK.ix Kn⟩;have Zj:=IK.eq;have ag:=IK.succ (A:=A);by_cases X:ws=a
     .have Q:=ak X q ⟨xs,xt,xx⟩ hx;have R:=λV=>Sq ⟨xs,xt,xx⟩ q hx V X;have R:eE ⟨ws,I,J⟩ ⟨xs,xt,xx⟩=true->xs∈dv E a:=R;have Gl:(ou (H.take (q+1)) a ⟨ws,I,J⟩=ou (H.take q) a ⟨ws,I,J⟩\/∃(_:xs∈B.1),ou (H.take (q+1)) a ⟨ws,I,J⟩=ou (H.take q) a ⟨ws,I,J⟩++[xs])->I3 (K-(q+1)) (A .aX .add .i64 z3 1,(y,sl,C),(D,t,f)) U:=λhh=>by
       rw[Bv];refine⟨q+1,p,B,ag,rfl,Kn,?_,u,P⟩;rcases hh with hh| ⟨fN,hh⟩
       .rw[hh,<-S]
       rw[hh,List.foldl_append,<-S];simp only[kJF,List.foldl_nil];unfold dV;rw[if_pos (iu fN)]
      have kI:xs∉B.1->ou (H.take (q+1)) a ⟨ws,I,J⟩=ou (H.take q) a ⟨ws,I,J⟩++[xs]->∀Y y sl C D t f,Q2 h Y y sl C D t f (B.1++[xs]) (B.2++[xs]) (p+1)->Fx E M (B.1++[xs],B.2++[xs]) (p+1)->I3 (K-(q+1)) (A .aX .add .i64 z3 1,(y,sl,C),(D,t,f)) Y:=λZF hh Y y sl C D t f hq hf=>by
       rw[Bv];refine⟨q+1,p+1,(B.1++[xs],B.2++[xs]),ag,rfl,Kn,?_,hq,hf⟩;rw[hh,List.foldl_append,<-S];simp only[kJF,List.foldl_nil];unfold dV;rw[if_neg (iu ZF)]
      have ab:K-(q+1)<m3:=ip
      have oR:=u.seen.sl.len;have Ap:=u.todo.sl.len;have As:=P.fs;have Lh:=P.ft;have aG:=P.fp;clear Bv Nh ak S fO Sq;rw[kS X];cbv;refine⟨zX,?_⟩;cbv;refine q1.mono (u.le.t _) |>.cI hx Zj (o:=0) (m:=1) dl (λcs O=>?_);have O:cs=[.zI xs,.string xt,.bool xx]:=O;subst O;cbv;refine⟨eL,?_⟩;cbv;refine q2.mono (u.le.t _) |>.load hw dI (λcs O=>?_);have O:cs=[.zI ws,.string I,.bool J]:=O;subst O;cbv;refine⟨zX,?_⟩;cbv;refine q1.mono (u.le.t _) |>.load hx Zj (λcs O=>?_);have O:cs=[.zI xs,.string xt,.bool xx]:=O;subst O;cbv;refine uR ws xs I xt J xx (λta MQ=>?_);cases ta with
      |false=>
       rw[<-MQ]at Q;simp only[kXk,if_false,kJH]at Q;have L:=Gl (.inl Q);clear Gl kI;cbv;refine zqn (K-(q+1)) (_,(y,sl,C),(D,t,f)) ab L
      |true=>
       rw[<-MQ]at Q;simp only[if_true]at Q;have R:=R MQ.symm;cbv;refine Ze u.seen.sl xs (λtn MP=>?_);cases tn with
       |true=>
        have oT:A .not true=false:=by rw[hA.not];rfl
        have L:=Gl (.inr ⟨kZr MP.symm,Q⟩);clear Gl kI;cbv;rw[oT];cbv;refine zqn (K-(q+1)) (_,(y,sl,C),(D,t,f)) ab L
       |false=>
        have oT:A .not false=true:=by rw[hA.not];rfl
        have ZF:xs∉B.1:=kZX MP.symm;have kI:=kI ZF Q;have aA:=P.add ZF R;clear Gl;cbv;rw[oT];cbv;intro n6 Y g6 e6;have l6:Le U Y:=zqs e6 g6
        have f6:=zqt e6;have v6:Sl 3 dK Y (.slice (zsA n6) 1 1) [xs]:=bh (s:=dK) f6 rfl;cbv;refine(u.mono l6).bQV v6 rfl dl ip (λm7 b7 c7 h7 Nz q7=>?_);cbv;intro n8 h8 g8 e8;have l8:Le h7 h8:=zqs e8 g8
        have f8:=zqt e8;have v8:Sl 3 dK h8 (.slice (zsA n8) 1 1) [xs]:=bh (s:=dK) f8 rfl;cbv;refine(q7.mono l8).bQU v8 rfl dl ip ip ip (λm9 b9 c9 h9 aF q9=>?_);have L:=kI h9 _ _ _ _ _ _ q9 aA;clear kI;cbv;refine zqn (K-(q+1)) (_,(b7,m7,c7),(b9,m9,c9)) ab L
     have S:B=(ou H a ⟨ws,I,J⟩).foldl dV F:=by rw[S,fO X,fO X]
     have L:=Nh B S U p y sl C D t f u P;clear Bv Nh;rw[kQW X];cbv;refine zqn (N-(i+1)) (_,(y,sl,C),(D,t,f)) al L
    have S:B=(ou H a ⟨ws,I,J⟩).foldl dV F:=by rw[S,kXe ip]
    have L:=Nh B S U p y sl C D t f u P;clear Bv Nh;rw[kQW Kn];cbv;refine zqn (N-(i+1)) (_,(y,sl,C),(D,t,f)) al L
   have fN:i=N:=ip
   have fV:F=(W.flatMap (ou H a)).foldl dV Z:=gg
   rw[<-fV]at zl;have L:I1 (AV E F.1+F.2.length) ((y,sl,C),(D,t,f)) T:=by rw[kM];have:=P.fm;exact⟨F.1,F.2,n',p,u,rfl,ip,zl,P.fp,P.ft,P.fs⟩
   have sS:AV E F.1+F.2.length<m:=by have:=P.fm;omega
   clear kM kL;rw[kQW aZ];cbv;refine zqn (AV E F.1+F.2.length) ((y,sl,C),(D,t,f)) sS L
 have ht:v=[]:=kZh ip;subst ht;rw[bQK]at Qr;have az:=hk h' y sl C u.le (by rw[<-Qr];exact u.seen.sl);rw[kQW h0];cbv;exact az
theorem Lu{s:Int}{l:List Int}{i:Nat}{y:Int}(h:l[i]? =some y):jc E s (l.take (i+1)) m=if decide (y>jc E s (l.take i) m)&&decide (s∈over E y)then y else jc E s (l.take i) m:=by unfold jc;rw[kJG,h,List.foldl_append];rfl
theorem TM{W:List bZ}{N u:Option Addr}{F O r w:Nat}(q1:Sl 422 bC h (.slice N F O) H)(q2:Sl 422 bC h (.slice u r w) W)(fG:F<=2^18)(fA:r<=2^18)(s:Int)
 (S:∀h' v t,Le h h'->dg (cN H W) s=(v,t)->k (.tuple #[.zI v,.bool t]) h'):
 Ct 272 [.agg #[.slice N F O,.slice u r w],.zI s] h k:=by
 obtain⟨E,K⟩:∃E,cN H W=E:=⟨_,rfl⟩;rw[K]at S;refine cB eZr Tryz.func272 λA hA=>?_;cbv;refine SK q1 q2 fG fA s (λx b n c D q=>?_);rw[K]at q;obtain⟨V,hV⟩:∃V,over E s=V:=⟨_,rfl⟩;have Ea:dg E s=if decide (s∈V)=true then(jc E s V s,true)else(0,false):=by unfold dg;rw[hV]
 rw[hV]at q;have ab:=q.len;have ag:=q.bound;cbv;refine Ze q s (λt ht=>?_);cases t with
 |false=>
  have U:A .not false=true:=by rw[hA.not];rfl
  have B:dg E s=(0,false):=gg
  have M:=S x 0 false D B;cbv;rw[U];cbv;exact M
 |true=>
  have U:A .not true=false:=by rw[hA.not];rfl
  have B:dg E s=(jc E s V s,true):=gg
  obtain⟨I,R⟩:∃I:Nat->Int×Int->ad->Prop,∀m g h',I m g h'=∃i:Nat,bg g.1 i/\m=n-i/\i<=n/\Le x h'/\g.2=jc E s (V.take i) s:=⟨_,λ_ _ _=>rfl⟩;have hJ:I n (0,s) x:=by rw[R];exact⟨0,⟨rfl⟩,rfl,ip,Le.refl _,rfl⟩
  cbv;rw[U];cbv;refine ba.gz (G:=Int×Int) (λg=>[(8,.v (.zI g.1)),(7,.v (.zI g.2))]) (λ_=>[(2,[.slice N F O,.slice u r w])]) (λm g h'=>I m g h') n (0,s) hJ ?_
  intro m g h' d;rw[R]at d;cbv;obtain⟨i,o,hm,hi,l,j⟩:=d;obtain⟨z,v⟩:=g;have o:bg z i:=o;have j:v=jc E s (V.take i) s:=j;have f1:A .aQ .lss z (A .nat n)=decide (i<n):=o.zQ (bg.nat n);rw[f1];by_cases Z:i<n
  .obtain⟨y,C⟩:=cK V i;have Q:b.isSome=true/\0<=z/\z<(n:Int):=⟨q.bu,o.ix Z⟩;have P:=o.eq;have gO:=o.succ (A:=A);have f2:A .aQ .gtr y v=decide (y>v):=bF A ..;have f:=Lu (E:=E) (s:=s) (m:=s) C;rw[<-j]at f;have L:∀Y e,Le x e->Y=jc E s (V.take (i+1)) s->I (n-(i+1)) (A .aX .add .i64 z 1,Y) e:=λY e hl hh=>by
    grind
   have J:n-(i+1)<m:=ip
   clear R j Ea;rw[kS Z];cbv;refine⟨Q,?_⟩;cbv;refine(q.mono (l.t _)).load C P (λcs a=>?_);have a:cs=[.zI y]:=a;subst a;cbv;rw[f2];by_cases X:y>v
   .rw[kS X,kQN]at f;rw[kS X];cbv;refine⟨Q,?_⟩;cbv;refine(q.mono (l.t _)).load C P (λcs a=>?_);have a:cs=[.zI y]:=a;subst a;cbv;refine SK (q1.mono ((D.trans l).t _)) (q2.mono ((D.trans l).t _)) fG fA y (λe u r w T p=>?_);rw[K]at p;cbv;refine Ze p s (λt2 Bh=>?_);cases t2 with
    |true=>
     have f:jc E s (V.take (i+1)) s=y:=gg
     have d:=L y e (l.trans T) f.symm;clear L;cbv;refine⟨Q,?_⟩;cbv;refine(q.mono ((l.trans T).t _)).load C P (λcs a=>?_);have a:cs=[.zI y]:=a;subst a;cbv;refine zqn (n-(i+1)) (_,y) J d
    |false=>
     have f:jc E s (V.take (i+1)) s=v:=gg
     have d:=L v e (l.trans T) f.symm;clear L;cbv;refine zqn (n-(i+1)) (_,v) J d
   rw[kQW X,Bool.false_and]at f;have f:jc E s (V.take (i+1)) s=v:=f;have d:=L v h' l f.symm;clear L;rw[kQW X];cbv;refine zqn (n-(i+1)) (_,v) J d
  have j:v=jc E s V s:=gg
  rw[<-j]at B;have M:=S h' v true (D.trans l) B;rw[kQW Z];cbv;exact M
end Go.S
