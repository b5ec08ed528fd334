import Derived.Test.YthnbpiejemlbeaaGreatLB
set_option linter.all false
set_option maxRecDepth 100000
set_option maxHeartbeats 8000000
namespace Go.S
open Go.Sx Go.Proofs
variable {A:Ar}{a m w z:Int}{E:List (Int×Int)}{xs:List Int}{H:List bU}{bytes c cap n p size:Nat}{b:Option Addr}{k:Value->ad->Prop}{h h' h0:ad}
structure Q2(h0 h:ad)(sb:Option Addr)(sl sc:Nat)(tb:Option Addr)(tl tc:Nat)(seen todo:List Int)(p:Nat):Prop where
 le:Le h0 h
 seen:bt 3 dD h0 h (.slice sb sl sc) seen
 todo:ly 3 dD h0 h (.slice tb tl tc) todo p
 eKx:∀a,sb=some a->h a.block≠none
 eKo:∀a,tb=some a->h a.block≠none
 dj:∀a a',sb=some a->tb=some a'->a.block≠a'.block
theorem Q2.mono{c e:Option Addr}{sl d g f:Nat}{s t:List Int}(q:Q2 h0 h c sl d e g f s t p)(l:Le h h'):Q2 h0 h' c sl d e g f s t p:=
 ⟨q.le.trans l,q.seen.mono (l.t _),q.todo.mono (l.t _),λa b n=>q.eKx a b (l.none n),λa b n=>q.eKo a b (l.none n),q.dj⟩
theorem Xf(o:cZ 3 dD h n cap xs)(k:∀o,h n=some o->h' n=some o):cZ 3 dD h' n cap xs:=by obtain⟨c,a,b,d⟩:=o.out;exact⟨⟨c,k _ a,b.mono (λ_ _ _ _ m=>by cases m),d⟩,o.le,o.bd⟩
theorem Ll(o:cZ 3 dD h n cap xs):h n≠none:=by obtain⟨c,a,b,d⟩:=o.out;rw[a];exact λh=>by cases h
theorem cXX{l:Nat}(q:bt 3 dD h0 h (.slice b l c) xs)(k:∀a o,b=some a->h a.block=some o->h' a.block=some o):bt 3 dD h0 h' (.slice b l c) xs:=by
 rcases q.out with g| ⟨n,cap,d,e,o⟩
 .exact⟨.inl g⟩
 cases d;exact⟨.inr ⟨n,c,rfl,e,Xf o (λo=>k _ o rfl)⟩⟩
theorem aKo{l:Nat}(q:ly 3 dD h0 h (.slice b l c) xs p)(k:∀a o,b=some a->h a.block=some o->h' a.block=some o):ly 3 dD h0 h' (.slice b l c) xs p:=by
 rcases q.out with g| ⟨n,cap,pre,d,e,o,f⟩
 .exact⟨.inl g⟩
 cases d;exact⟨.inr ⟨n,cap,pre,rfl,e,Xf o (λo=>k _ o rfl),f⟩⟩
theorem Us{l:Nat}(q:bt 3 dD h0 h (.slice b l c) xs)(hl:l≠0):∀a,b=some a->h a.block≠none:=λa e=>by
 rcases q.out with⟨f,g,d⟩|⟨n,cap,g,d,o⟩
 .cases g;exact absurd rfl hl
 cases g;cases e;exact Ll o
theorem Gn{l:Nat}(q:ly 3 dD h0 h (.slice b l c) xs p)(hl:l≠0):∀a,b=some a->h a.block≠none:=λa e=>by
 rcases q.out with⟨f,g,d⟩|⟨n,cap,pre,g,d,o,i⟩
 .cases g;exact absurd rfl hl
 cases g;cases e;exact Ll o
theorem Q2.aKB{v n x:Option Addr}{sl y A z C:Nat}{s t:List Int}(q:Q2 h0 h v sl y n A z s t p)(L:Sl 3 dD h (.slice x 1 C) [w])(I:size=1)(K:bytes<=128)(H:sl+1<=2^39)
  (G:∀m d c' h',m=sl+1->Q2 h0 h' d m c' n A z (s++[w]) t p->k (.slice d m c') h'):iq h v sl y x 1 size bytes 3 k:=by
 refine q.seen.JV L (by decide) I K H q.le (λm d c' h' D l N j F=>?_);have r:∀a o,n=some a->h a.block=some o->h' a.block=some o:=λa o b g=>N a.block o g (λe=>q.dj _ _ e b rfl);refine G m d c' h' D ⟨l,j,aKo q.todo r,Us j (by omega),λa b W=>?_,λa B b c u=>?_⟩
 .have:=q.eKo a b;cases g:h a.block with
  |none=>exact this g
  |some o=>rw[r a o b g]at W;cases W
 rcases j.out with⟨M,i,E⟩|⟨J,cap,i,E,o⟩
 .cases i;omega
 cases i;cases b;rcases F J rfl with f|f|f
 .exact q.dj _ _ f c u
 .exact q.eKo B c (u ▸ f)
 omega
theorem Q2.aKA{j y x:Option Addr}{sl v z A:Nat}{s t:List Int}(q:Q2 h0 h j sl v y c z s t p)(K:Sl 3 dD h (.slice x 1 A) [w])(H:size=1)(I:bytes<=128)(E:c+1<=2^39)(G:p+1<=2^40)(Z:c<=p)
  (D:∀m d c' h',m=c+1->Q2 h0 h' j sl v d m c' s (t++[w]) (p+1)->k (.slice d m c') h'):iq h y c z x 1 size bytes 3 k:=by
 refine q.todo.JV K (by decide) H I E G Z q.le (λm d c' h' B l N u F=>?_);have r:∀a o,j=some a->h a.block=some o->h' a.block=some o:=λa o b i=>N a.block o i (λn e g=>q.dj _ _ b e g.symm);refine D m d c' h' B ⟨l,cXX q.seen r,u,λa b W=>?_,Gn u (by omega),λa n b J g=>?_⟩
 .have:=q.eKx a b;cases i:h a.block with
  |none=>exact this i
  |some o=>rw[r a o b i]at W;cases W
 rcases F n J with⟨a2,f,C⟩ |f|f
 .exact q.dj _ _ b f (by rw[g,C])
 .exact q.eKx a b (by rw[g];exact f)
 omega
theorem Ip[d:bI A]{a:Addr}(h:A .cut b z m n=some a):∃c,b=some c/\c.block=a.block:=by
 rw[d.cut]at h;simp only at h;split at h
 .exact⟨a,h,rfl⟩
 cases b with
 |none=>cases h
 |some c=>cases h;refine⟨c,rfl,?_⟩;unfold Addr.add;split<;>rfl
theorem Q2.tail[v:bI A]{j l:Option Addr}{sl k g:Nat}{e t:List Int}{x:Int}(q:Q2 h0 h j sl k l n g e (x::t) p)(u:aZ z 1){m c':Nat}(r:m=n-1)(o:c'=g-1):
 Q2 h0 h j sl k (A .cut l z (A .nat g) 1) m c' e t p:=by
 refine⟨q.le,q.seen,q.todo.tail (A:=A) (s:=dD) u r o,q.eKx,λa f=>?_,λa i f c=>?_⟩
 .obtain⟨i,b,d⟩:=Ip f;rw[<-d];exact q.eKo i b
 obtain⟨a2,b,d⟩:=Ip c;rw[<-d];exact q.dj a a2 f b
structure Fx(E:List (Int×Int))(M:Nat)(st:List Int×List Int)(p:Nat):Prop where
 fm:As E st.1+st.2.length<=M
 fp:p+As E st.1<=E.length+1
 ft:st.2.length<=p
 fs:st.1.length+As E st.1<=E.length
theorem Fx.add{M:Nat}{s:List Int×List Int}(q:Fx E M s p)(n:w∉s.1)(b:w∈da E a):Fx E M (s.1++[w],s.2++[w]) (p+1):=by have h:=Qn n b;have c:=q.fm;have d:=q.fp;have e:=q.ft;have f:=q.fs;constructor<;>simp only[cy,qA]<;>omega
theorem aKq(E:List (Int×Int))(n:Nat)(s:List Int):aKr E n (s,[])=s:=by cases n<;>rfl
theorem VY{W:List bU}{w x:bU}(b:w∈W)(hx:x∈H)(h:eo w x=true)(s:w.s=a):x.s∈da (cQ H W) a:=by rw[vt];refine List.mem_flatMap.2 ⟨w,b,?_⟩;unfold nN;rw[if_pos s];exact xz.2 ⟨x,jKn.2 ⟨hx,h⟩,rfl⟩
theorem QV{W:List bU}{b1 b2:Option Addr}{L c1 O c2:Nat}(q1:Sl 422 bu h (.slice b1 L c1) H)(q2:Sl 422 bu h (.slice b2 O c2) W)(fh:L<=2^18)(eU:O<=2^18)(s:Int)
 (hk:∀h' b n c,Le h h'->Sl 3 dD h' (.slice b n c) (over (cQ H W) s)->k (.slice b n c) h'):
 Ct 342 [.agg #[.slice b1 L c1,.slice b2 O c2],.int .i64 s] h k:=by
 have nE:=q1.len;have lq:=q2.len;obtain⟨E,TE⟩:∃E,cQ H W=E:=⟨_,rfl⟩;have hE:E.length<=2^37:=by have:=Cu H W;have:=BL (show W.length<=2^18 by omega) (show H.length<=2^18 by omega);rw[<-TE];omega
 have mS:∀(a:Int) (w x:bU) (i j:Nat),W[i]? =some w->H[j]? =some x->eo w x=true->w.s=a->x.s∈da E a:=λa w x i j hw hx Y hs=>by
  rw[<-TE];exact VY (cK hw) (cK hx) Y hs
 have aB:∀a,da E a=W.flatMap (nN H a):=λa=>by rw[<-TE];exact vt H a W
 rw[TE]at hk;have Tf:As E []=E.length:=by simp[As]
 obtain⟨I1,jU⟩:∃I1:Nat->(Option Addr×Nat×Nat)×(Option Addr×Nat×Nat)->ad->Prop,∀m g h',I1 m g h'=∃d v n p,Q2 h h' g.1.1 g.1.2.1 g.1.2.2 g.2.1 g.2.2.1 g.2.2.2 d v p/\m=As E d+v.length/\m<=n/\aKr E n (d,v)=over E s/\p+As E d<=E.length+1/\v.length<=p/\d.length+As E d<=E.length:=⟨_,λ_ _ _=>rfl⟩;refine cg dKL Tryz.func342 λA hA=>?_;cbv;intro nb h2 eC e2;have l2:Le h h2:=by rw[e2];exact Le.set eC
 have g2:=(congrFun e2 nb).trans ae;have gZ:ly 3 dD h h2 (.slice (zsA nb) 1 1) [s] 1:=((DJ (s:=dD) g2 (x:=s) rfl).buf eC rfl).t (by simp);have aD:Q2 h h2 none 0 0 (zsA nb) 1 1 [] [s] 1:=⟨l2,bt.nil,gZ,(λa Y=>by cases Y),Gn gZ (by omega),(λa a' Y=>by cases Y)⟩;have bD:I1 (E.length+1) ((none,0,0),(zsA nb,1,1)) h2:=by rw[jU];exact⟨[],[s],E.length+2,1,aD,by rw[Tf];rfl,by omega,rfl,by rw[Tf];omega,by simp,by rw[Tf];simp⟩
 cbv;refine aX.go (G:=(Option Addr×Nat×Nat)×(Option Addr×Nat×Nat)) (λg=>[(5,.v (.slice g.1.1 g.1.2.1 g.1.2.2)),(6,.v (.slice g.2.1 g.2.2.1 g.2.2.2))]) (λ_=>[(2,[.slice b1 L c1,.slice b2 O c2])]) (λm g h'=>I1 m g h') (E.length+1) ((none,0,0),(zsA nb,1,1)) (by constructor<;>cbv) bD ?_
 intro m g h' N;rw[jU]at N;cbv;obtain⟨d,v,n,p,u,hm,DQ,Pa,hp,ag,LL⟩:=N;obtain⟨⟨y,sl,C⟩,⟨D,t,f⟩⟩:=g;have u:Q2 h h' y sl C D t f d v p:=u;have Bw:t=v.length:=u.todo.sl.len;have f0:A .aN .gtr (A .nat t) 0=decide (0<t):=by rw[bC A,hA.nat];simp only[rz];rw[decide_eq_decide];omega
 rw[f0];by_cases h0:0<t
 .cases v with
  |nil=>simp at Bw;omega
  |cons a r=>
   have ey:D.isSome=true/\(0:Int)<=0/\(0:Int)<(t:Int):=⟨u.todo.sl.bp,by omega,by omega⟩;have Ih:aZ (1:Int) 1:=⟨rfl⟩;have mC:(0:Int)<=1/\(1:Int)<=(t:Int):=by omega
   have qt:=u.tail (A:=A) Ih (cJ (A:=A) (n:=t) Ih) (cJ (A:=A) (n:=f) Ih);rw[ak h0];cbv;refine⟨ey,?_⟩;cbv;refine u.todo.sl.load (i:=0) (x:=a) rfl (n:=0) rfl (λcs P=>?_);have P:cs=[.int .i64 a]:=P;subst P;cbv;refine⟨mC,?_⟩;have yD:∃n',n=n'+1/\aKr E n' ((da E a).foldl dN (d,r))=over E s:=by simp only[wS]at hm;obtain⟨n',aA⟩:∃n',n=n'+1:=⟨n-1,by omega⟩;subst aA;exact⟨n',rfl,Pa⟩
   obtain⟨n',rfl,yD⟩:=yD;rw[aB a]at yD;obtain⟨M,hM⟩:∃M,M=As E d+r.length:=⟨_,rfl⟩;have ax:Fx E M (d,r) p:=⟨by rw[hM];exact kB _,hp,by simp only[wS]at ag;simp only;omega,LL⟩;have aK:M<m:=by simp only[wS]at hm;omega
   have aI:M<=n':=by omega
   have aF:M<=E.length:=by simp only[wS]at ag;omega
   obtain⟨Q,ab⟩:∃Q,Q=(d,r):=⟨_,rfl⟩;have qt:Q2 h h' y sl C (A .cut D 1 (A .nat f) 1) (A .nt (A .nat t) 1) (A .nt (A .nat f) 1) Q.1 Q.2 p:=by rw[ab];exact qt
   rw[<-ab]at ax yD;clear Pa hp ag LL hm DQ Bw ey mC ab hM Ih u f0;obtain⟨I2,jT⟩:∃I2:Nat->Int×(Option Addr×Nat×Nat)×(Option Addr×Nat×Nat)->ad->Prop,∀m g T,I2 m g T=∃(i p:Nat) (I:List Int×List Int),aZ g.1 i/\m=O-i/\i<=O/\I=((W.take i).flatMap (nN H a)).foldl dN Q/\Q2 h T g.2.1.1 g.2.1.2.1 g.2.1.2.2 g.2.2.1 g.2.2.2.1 g.2.2.2.2 I.1 I.2 p/\Fx E M I p:=⟨_,λ_ _ _=>rfl⟩;have bX:I2 O (0,(y,sl,C),(A .cut D 1 (A .nat f) 1,A .nt (A .nat t) 1,A .nt (A .nat f) 1)) h':=by rw[jT];exact⟨0,p,Q,⟨rfl⟩,rfl,by omega,by simp,qt,ax⟩
   cbv;refine aX.go (G:=Int×(Option Addr×Nat×Nat)×(Option Addr×Nat×Nat)) (λg=>[(8,.v (.int .i64 g.1)),(5,.v (.slice g.2.1.1 g.2.1.2.1 g.2.1.2.2)),(6,.v (.slice g.2.2.1 g.2.2.2.1 g.2.2.2.2))]) (λ_=>[(2,[.slice b1 L c1,.slice b2 O c2])]) (λm g h'=>I2 m g h') O (0,(y,sl,C),(A .cut D 1 (A .nat f) 1,A .nt (A .nat t) 1,A .nt (A .nat f) 1)) (by constructor<;>cbv) bX ?_
   intro m2 g T N;rw[jT]at N;cbv;obtain⟨i,p,I,hz,zN,hi,fT,u,Z⟩:=N;obtain⟨z,⟨y,sl,C⟩,⟨D,t,f⟩⟩:=g;have hz:aZ z i:=hz;have u:Q2 h T y sl C D t f I.1 I.2 p:=u;have f1:A .aN .lss z (A .nat O)=decide (i<O):=hz.yY (aZ.nat O);rw[f1];by_cases aU:i<O
   .obtain⟨⟨F,J,K⟩,hw⟩:=cB W i;have ey:b2.isSome=true/\0<=z/\z<(O:Int):=⟨q2.bp,hz.ix aU⟩;have dG:=hz.eq;have gG:=hz.succ (A:=A);have aE:A .aN .eql F a=decide (F=a):=au A ..;have aw:((W.take (i+1)).flatMap (nN H a)).foldl dN Q=(nN H a ⟨F,J,K⟩).foldl dN I:=by rw[qM,hw,List.flatMap_append,List.foldl_append,<-fT];simp
    have QI:=mS a ⟨F,J,K⟩;have QI:∀(x:bU) (j:Nat),H[j]? =some x->eo ⟨F,J,K⟩ x=true->F=a->x.s∈da E a:=λx j hx Y hs=>QI x i j hw hx Y hs;have fB:F≠a->∀l,nN l a ⟨F,J,K⟩=[]:=λbS l=>by unfold nN;rw[if_neg bS]
    have ao:F=a->∀(q:Nat) (x:bU),H[q]? =some x->nN (H.take (q+1)) a ⟨F,J,K⟩=nN (H.take q) a ⟨F,J,K⟩++if eo ⟨F,J,K⟩ x=true then [x.s]else []:=λe q x hx=>Sp H (w:=⟨F,J,K⟩) e hx
    obtain⟨I3,AP⟩:∃I3:Nat->Int×(Option Addr×Nat×Nat)×(Option Addr×Nat×Nat)->ad->Prop,∀m g T,I3 m g T=∃(q p:Nat) (B:List Int×List Int),aZ g.1 q/\m=L-q/\q<=L/\B=(nN (H.take q) a ⟨F,J,K⟩).foldl dN I/\Q2 h T g.2.1.1 g.2.1.2.1 g.2.1.2.2 g.2.2.1 g.2.2.2.1 g.2.2.2.2 B.1 B.2 p/\Fx E M B p:=⟨_,λ_ _ _=>rfl⟩;have iD:I3 L (0,(y,sl,C),(D,t,f)) T:=by rw[AP];exact⟨0,p,I,⟨rfl⟩,rfl,by omega,by simp[nN],u,Z⟩
    have LY:∀B,B=(nN H a ⟨F,J,K⟩).foldl dN I->∀U p y sl C D t f,Q2 h U y sl C D t f B.1 B.2 p->Fx E M B p->I2 (O-(i+1)) (A .aT .add .i64 z 1,(y,sl,C),(D,t,f)) U:=λB h3 U p y sl C D t f h6 h7=>by
     rw[jT];exact⟨i+1,p,B,gG,rfl,aU,by rw[aw,h3],h6,h7⟩
    have aq:O-(i+1)<m2:=by omega
    clear jT fT aw bX yD Z u mS;rw[ak aU];cbv;refine aX.go (G:=Int×(Option Addr×Nat×Nat)×(Option Addr×Nat×Nat)) (λg=>[(9,.v (.int .i64 g.1)),(5,.v (.slice g.2.1.1 g.2.1.2.1 g.2.1.2.2)),(6,.v (.slice g.2.2.1 g.2.2.2.1 g.2.2.2.2))]) (λ_=>[(2,[.slice b1 L c1,.slice b2 O c2])]) (λm g h'=>I3 m g h') L (0,(y,sl,C),(D,t,f)) (by constructor<;>cbv) iD ?_
    intro m3 g U N;rw[AP]at N;cbv;obtain⟨q,p,B,HN,Nq,Dt,S,u,Z⟩:=N;obtain⟨z3,⟨y,sl,C⟩,⟨D,t,f⟩⟩:=g;have HN:aZ z3 q:=HN;have u:Q2 h U y sl C D t f B.1 B.2 p:=u;have f3:A .aN .lss z3 (A .nat L)=decide (q<L):=HN.yY (aZ.nat L);rw[f3];by_cases Ju:q<L
    .obtain⟨⟨xs,xt,xx⟩,hx⟩:=cB H q;rw[ak Ju];cbv;refine⟨ey,?_⟩;cbv;refine q2.mono (u.le.t _) |>.cu hw dG (o:=0) (m:=1) (by decide) (λcs P=>?_);have P:cs=[.int .i64 F,.string J,.bool K]:=P;subst P;cbv;rw[aE];have zh:b1.isSome=true/\0<=z3/\z3<(L:Int):=⟨q1.bp,HN.ix Ju⟩;have XI:=HN.eq;have an:=HN.succ (A:=A);by_cases R:F=a
     .have V:=ao R q ⟨xs,xt,xx⟩ hx;have X:=λY=>QI ⟨xs,xt,xx⟩ q hx Y R;have X:eo ⟨F,J,K⟩ ⟨xs,xt,xx⟩=true->xs∈da E a:=X;have Ft:(nN (H.take (q+1)) a ⟨F,J,K⟩=nN (H.take q) a ⟨F,J,K⟩\/∃(_:xs∈B.1),nN (H.take (q+1)) a ⟨F,J,K⟩=nN (H.take q) a ⟨F,J,K⟩++[xs])->I3 (L-(q+1)) (A .aT .add .i64 z3 1,(y,sl,C),(D,t,f)) U:=λhh=>by
       rw[AP];refine⟨q+1,p,B,an,rfl,Ju,?_,u,Z⟩;rcases hh with hh| ⟨fC,hh⟩
       .rw[hh,<-S]
       rw[hh,List.foldl_append,<-S];simp only[kQr,List.foldl_nil];unfold dN;rw[if_pos (by simpa using fC)]
      have nW:xs∉B.1->nN (H.take (q+1)) a ⟨F,J,K⟩=nN (H.take q) a ⟨F,J,K⟩++[xs]->∀h6 y sl C D t f,Q2 h h6 y sl C D t f (B.1++[xs]) (B.2++[xs]) (p+1)->Fx E M (B.1++[xs],B.2++[xs]) (p+1)->I3 (L-(q+1)) (A .aT .add .i64 z3 1,(y,sl,C),(D,t,f)) h6:=λYh hh h6 y sl C D t f hq hf=>by
       rw[AP];refine⟨q+1,p+1,(B.1++[xs],B.2++[xs]),an,rfl,Ju,?_,hq,hf⟩;rw[hh,List.foldl_append,<-S];simp only[kQr,List.foldl_nil];unfold dN;rw[if_neg (by simpa using Yh)]
      have al:L-(q+1)<m3:=by omega
      have oC:=u.seen.sl.len;have zM:=u.todo.sl.len;have zQ:=Z.fs;have Kh:=Z.ft;have aH:=Z.fp;clear AP LY ao S fB QI;rw[ak R];cbv;refine⟨zh,?_⟩;cbv;refine q1.mono (u.le.t _) |>.cu hx XI (o:=0) (m:=1) (by decide) (λcs P=>?_);have P:cs=[.int .i64 xs,.string xt,.bool xx]:=P;subst P;cbv;refine⟨ey,?_⟩;cbv;refine q2.mono (u.le.t _) |>.load hw dG (λcs P=>?_);have P:cs=[.int .i64 F,.string J,.bool K]:=P;subst P;cbv;refine⟨zh,?_⟩;cbv;refine q1.mono (u.le.t _) |>.load hx XI (λcs P=>?_);have P:cs=[.int .i64 xs,.string xt,.bool xx]:=P;subst P;cbv;refine ui F xs J xt K xx (λta LK=>?_);cases ta with
      |false=>
       rw[<-LK]at V;simp only[jKw,if_false,vv]at V;have N:=Ft (.inl V);clear Ft nW;cbv;refine⟨L-(q+1),(_,(y,sl,C),(D,t,f)),al,by constructor<;>cbv,N⟩
      |true=>
       rw[<-LK]at V;simp only[if_true]at V;have X:=X LK.symm;cbv;refine XE u.seen.sl xs (λtn UP=>?_);cases tn with
       |true=>
        have qO:A .not true=false:=by rw[hA.not];rfl
        have N:=Ft (.inr ⟨lA UP.symm,V⟩);clear Ft nW;cbv;rw[qO];cbv;refine⟨L-(q+1),(_,(y,sl,C),(D,t,f)),al,by constructor<;>cbv,N⟩
       |false=>
        have qO:A .not false=true:=by rw[hA.not];rfl
        have Yh:xs∉B.1:=kz UP.symm;have nW:=nW Yh V;have aC:=Z.add Yh X;clear Ft;cbv;rw[qO];cbv;intro n6 h6 g6 e6;have l6:Le U h6:=by rw[e6];exact Le.set g6
        have f6:=(congrFun e6 n6).trans ae;have v6:Sl 3 dD h6 (.slice (zsA n6) 1 1) [xs]:=bf (s:=dD) f6 rfl;cbv;refine(u.mono l6).aKB v6 rfl (by decide) (by omega) (λm7 b7 c7 h7 Mr q7=>?_);cbv;intro n8 h8 g8 e8;have l8:Le h7 h8:=by rw[e8];exact Le.set g8
        have f8:=(congrFun e8 n8).trans ae;have v8:Sl 3 dD h8 (.slice (zsA n8) 1 1) [xs]:=bf (s:=dD) f8 rfl;cbv;refine(q7.mono l8).aKA v8 rfl (by decide) (by omega) (by omega) (by omega) (λm9 b9 c9 h9 aG q9=>?_);have N:=nW h9 _ _ _ _ _ _ q9 aC;clear nW;cbv;refine⟨L-(q+1),(_,(b7,m7,c7),(b9,m9,c9)),al,by constructor<;>cbv,N⟩
     have S:B=(nN H a ⟨F,J,K⟩).foldl dN I:=by rw[S,fB R,fB R]
     have N:=LY B S U p y sl C D t f u Z;clear AP LY;rw[bn R];cbv;refine⟨O-(i+1),(_,(y,sl,C),(D,t,f)),aq,by constructor<;>cbv,N⟩
    have S:B=(nN H a ⟨F,J,K⟩).foldl dN I:=by rw[S,ie (by omega)]
    have N:=LY B S U p y sl C D t f u Z;clear AP LY;rw[bn Ju];cbv;refine⟨O-(i+1),(_,(y,sl,C),(D,t,f)),aq,by constructor<;>cbv,N⟩
   have fC:i=O:=by omega
   have fT:I=(W.flatMap (nN H a)).foldl dN Q:=by rw[fT,ie (by omega)]
   rw[<-fT]at yD;have N:I1 (As E I.1+I.2.length) ((y,sl,C),(D,t,f)) T:=by rw[jU];have:=Z.fm;exact⟨I.1,I.2,n',p,u,rfl,by omega,yD,Z.fp,Z.ft,Z.fs⟩
   have rX:As E I.1+I.2.length<m:=by have:=Z.fm;omega
   clear jU jT;rw[bn aU];cbv;refine⟨As E I.1+I.2.length,((y,sl,C),(D,t,f)),rX,by constructor<;>cbv,N⟩
 have ht:v=[]:=kh (by omega);subst ht;rw[aKq]at Pa;have ay:=hk h' y sl C u.le (by rw[<-Pa];exact u.seen.sl);rw[bn h0];cbv;exact ay
theorem Kv{s:Int}{l:List Int}{i:Nat}{y:Int}(h:l[i]? =some y):iT E s (l.take (i+1)) m=if decide (y>iT E s (l.take i) m)&&decide (s∈over E y)then y else iT E s (l.take i) m:=by unfold iT;rw[qM,h,List.foldl_append];rfl
theorem RY{W:List bU}{N u:Option Addr}{J O r w:Nat}(q1:Sl 422 bu h (.slice N J O) H)(q2:Sl 422 bu h (.slice u r w) W)(fh:J<=2^18)(eU:r<=2^18)(s:Int)
 (X:∀h' v t,Le h h'->dx (cQ H W) s=(v,t)->k (.tuple #[.int .i64 v,.bool t]) h'):
 Ct 272 [.agg #[.slice N J O,.slice u r w],.int .i64 s] h k:=by
 obtain⟨E,L⟩:∃E,cQ H W=E:=⟨_,rfl⟩;rw[L]at X;refine cg eQV Tryz.func272 λA hA=>?_;cbv;refine QV q1 q2 fh eU s (λB b n c F q=>?_);rw[L]at q;obtain⟨V,hV⟩:∃V,over E s=V:=⟨_,rfl⟩;have K:dx E s=if decide (s∈V)=true then(iT E s V s,true)else(0,false):=by unfold dx;rw[hV]
 rw[hV]at q;have ab:=q.len;have ag:=q.bound;cbv;refine XE q s (λt ht=>?_);cases t with
 |false=>
  have Z:A .not false=true:=by rw[hA.not];rfl
  have C:dx E s=(0,false):=by rw[K,<-ht];rfl
  have M:=X B 0 false F C;cbv;rw[Z];cbv;exact M
 |true=>
  have Z:A .not true=false:=by rw[hA.not];rfl
  have C:dx E s=(iT E s V s,true):=by rw[K,<-ht];rfl
  obtain⟨I,x⟩:∃I:Nat->Int×Int->ad->Prop,∀m g h',I m g h'=∃i:Nat,aZ g.1 i/\m=n-i/\i<=n/\Le B h'/\g.2=iT E s (V.take i) s:=⟨_,λ_ _ _=>rfl⟩;have hJ:I n (0,s) B:=by rw[x];exact⟨0,⟨rfl⟩,rfl,by omega,Le.refl _,rfl⟩
  cbv;rw[Z];cbv;refine aX.go (G:=Int×Int) (λg=>[(8,.v (.int .i64 g.1)),(7,.v (.int .i64 g.2))]) (λ_=>[(2,[.slice N J O,.slice u r w])]) (λm g h'=>I m g h') n (0,s) (by constructor<;>cbv) hJ ?_
  intro m g h' d;rw[x]at d;cbv;obtain⟨i,p,hm,hi,l,j⟩:=d;obtain⟨z,v⟩:=g;have p:aZ z i:=p;have j:v=iT E s (V.take i) s:=j;have f1:A .aN .lss z (A .nat n)=decide (i<n):=p.yY (aZ.nat n);rw[f1];by_cases U:i<n
  .obtain⟨y,D⟩:=cB V i;have R:b.isSome=true/\0<=z/\z<(n:Int):=⟨q.bp,p.ix U⟩;have P:=p.eq;have gG:=p.succ (A:=A);have f2:A .aN .gtr y v=decide (y>v):=bC A ..;have f:=Kv (E:=E) (s:=s) (m:=s) D;rw[<-j]at f;have T:∀v2 o,Le B o->v2=iT E s (V.take (i+1)) s->I (n-(i+1)) (A .aT .add .i64 z 1,v2) o:=λv2 o hl hh=>by
    rw[x];exact⟨i+1,gG,rfl,U,hl,hh⟩
   have S:n-(i+1)<m:=by omega
   clear x j K;rw[ak U];cbv;refine⟨R,?_⟩;cbv;refine(q.mono (l.t _)).load D P (λcs a=>?_);have a:cs=[.int .i64 y]:=a;subst a;cbv;rw[f2];by_cases e:y>v
   .rw[ak e,jKP]at f;rw[ak e];cbv;refine⟨R,?_⟩;cbv;refine(q.mono (l.t _)).load D P (λcs a=>?_);have a:cs=[.int .i64 y]:=a;subst a;cbv;refine QV (q1.mono ((F.trans l).t _)) (q2.mono ((F.trans l).t _)) fh eU y (λo u r w Y Q=>?_);rw[L]at Q;cbv;refine XE Q s (λt2 AG=>?_);cases t2 with
    |true=>
     have f:iT E s (V.take (i+1)) s=y:=by rw[f,<-AG];rfl
     have d:=T y o (l.trans Y) f.symm;clear T;cbv;refine⟨R,?_⟩;cbv;refine(q.mono ((l.trans Y).t _)).load D P (λcs a=>?_);have a:cs=[.int .i64 y]:=a;subst a;cbv;refine⟨n-(i+1),(_,y),S,by constructor<;>cbv,d⟩
    |false=>
     have f:iT E s (V.take (i+1)) s=v:=by rw[f,<-AG];rfl
     have d:=T v o (l.trans Y) f.symm;clear T;cbv;refine⟨n-(i+1),(_,v),S,by constructor<;>cbv,d⟩
   rw[bn e,Bool.false_and]at f;have f:iT E s (V.take (i+1)) s=v:=f;have d:=T v h' l f.symm;clear T;rw[bn e];cbv;refine⟨n-(i+1),(_,v),S,by constructor<;>cbv,d⟩
  have j:v=iT E s V s:=by rw[j,ie (by omega)]
  rw[<-j]at C;have M:=X h' v true (F.trans l) C;rw[bn U];cbv;exact M
end Go.S
