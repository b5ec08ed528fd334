import Derived.Test.YthnbpiejemlbeaaGreatKA
set_option linter.all false
set_option maxRecDepth 100000
set_option maxHeartbeats 8000000
namespace Go.S
open Go.Sx Go.Proofs
variable {only:Bool}{nm:ByteArray}{d:DB}{key s z:Int}{R:List Row}{H:List bU}{B:List jF}{F c i m n o p sn u:Nat}{E a b e sb:Option Addr}{r:Row}{k:Value->ad->Prop}{h:ad}{w:eY}
theorem sG(a b:Int)(e:k (.int .i64 (jc a b)) h):Ct 367 [.int .i64 a,.int .i64 b] h k:=by
 obtain⟨A,l⟩:=Ar.ex;obtain⟨c,d⟩:∃c,c=jc a b:=⟨_,rfl⟩;rw[<-d]at e;generalize e1:A .aN .lss a b=u;generalize f:A .aN .gtr a b=j;have g:=e1;have i:=f;rw[aR A]at g;rw[bC A]at i;unfold jc at d;rw[g,i]at d;refine fz dKs A Tryz.func367 ?_;cbv;rw[e1];cases u with
 |true=>have d:c=-1:=d;subst d;cbv;exact e
 |false=>
  cbv;rw[f];cases j with
  |true=>have d:c=1:=d;subst d;cbv;exact e
  |false=>have d:c=0:=d;subst d;cbv;exact e
theorem Gb(a b:Int)(s t:ByteArray)(d:∀z,z=jc a b->k (.int .i64 z) h):Ct 347 [.agg #[.int .i64 2,.int .i64 a,.string s],.agg #[.int .i64 2,.int .i64 b,.string t]] h k:=by
 obtain⟨A,g⟩:=Ar.ex;have f:A .aN .neq 2 2=false:=by rw[az A];rfl
 have i:A .aN .neq 2 3=true:=by rw[az A];rfl
 have d:=d _ rfl;generalize e:jc a b=c at d;refine fz aKF A Tryz.func347 ?_;cbv;rw[f];cbv;rw[i];cbv;refine sG a b ?_;rw[e];cbv;exact d
theorem XE{xs:List Int}(q:Sl 3 dD h (.slice b n c) xs)(x:Int)(o:∀t,t=decide (x∈xs)->k (.bool t) h):Ct 343 [.slice b n c,.int .i64 x] h k:=by
 have p:=q.len;have E:=q.bound;refine cg dKK Tryz.func343 λA B=>?_;cbv;refine aX.go (G:=Int) (λg=>[(5,.v (.int .i64 g))]) (λ_=>[]) (λm g h'=>h'=h/\∃i,aZ g i/\m=n-i/\i<=n/\∀j,j<i->∀y,xs[j]? =some y->y≠x) n 0 (by constructor<;>cbv) ⟨rfl,0,⟨rfl⟩,by omega,by omega,λj a=>absurd a (by omega)⟩ ?_
 intro m g h' I;cbv;obtain⟨rfl,i,z,D,C,M⟩:=I;refine ba (λd=>?_) (λd=>?_)
 .have U:=z.lt d;clear d;obtain⟨y,f⟩:=cB xs i;have H:b.isSome=true/\0<=g/\g<(n:Int):=⟨q.bp,z.ix U⟩;have s:=z.eq;have v:=z.succ (A:=A);have u:A .aN .eql y x=decide (y=x):=by rw[au A]
  cbv;refine⟨H,?_⟩;cbv;refine q.load f s (λcs r=>?_);have r:cs=[.int .i64 y]:=r;subst r;cbv;rw[u];by_cases O:y=x
  .have e:=o true (by rw[eq_comm];exact ak (by rw[<-O];exact cK f));rw[ak O];cbv;exact e
  rw[bn O];cbv;refine⟨n-(i+1),_,by omega,by constructor<;>cbv,rfl,i+1,v,rfl,by omega,λj a w Q=>?_⟩
  rcases wM j i with l|l
  .exact M j l w Q
  have:j=i:=by omega
  subst this;rw[f]at Q;cases Q;exact O
 have J:=z.ge d;have e:=o false (by
  rw[eq_comm];refine bn (λS=>?_);obtain⟨j,a⟩:=rK S;have:=(ff.1 a).1;exact M j (by omega) x a rfl)
 cbv;exact e
theorem ui(s1 s2:Int)(c d:ByteArray)(x e:Bool)(b:∀t,t=eo ⟨s1,c,x⟩ ⟨s2,d,e⟩->k (.bool t) h):Ct 340 [.agg #[.int .i64 s1,.string c,.bool x],.agg #[.int .i64 s2,.string d,.bool e]] h k:=by
 obtain⟨A,j⟩:=Ar.ex;have f:A .aN .neq s1 s2=decide (s1≠s2):=az A ..;have g:A .kM .eql c d=decide (c=d):=eK A ..;unfold eo at b;simp only at b;refine fz dKN A Tryz.func340 ?_;cbv;rw[f];generalize decide (s1≠s2)=u at *;generalize decide (c=d)=i at *;cases u with
 |false=>have a:=b false rfl;cbv;exact a
 |true=>
  cbv;rw[g];cases i with
  |false=>have a:=b false rfl;cbv;exact a
  |true=>
   cbv;cases x with
   |true=>have a:=b true rfl;cbv;exact a
   |false=>have a:=b e (by simp);cbv;exact a
theorem yi{f g l:Option Addr}{B r D t E:Nat}(q:RP h e B p f n r g D t l E u d)(s:Int)(F:∀z,ur d.ai (λw=>decide (w.s=s)) z->k (.int .i64 z) h):
 Ct 270 [.agg #[.slice e B p,.slice f n r,.slice g D t,.slice l E u],.int .i64 s] h k:=by
 have H:=q.ai.len;have Q:=q.ai.bound;refine cg eQX Tryz.func270 λA L=>?_;cbv;refine aX.go (G:=Int) (λz=>[(5,.v (.int .i64 z))]) (λ_=>[(2,[.slice e B p,.slice f n r,.slice g D t,.slice l E u])]) (λm z h'=>∃i:Nat,aZ z i/\m=n-i/\i<=n/\h'=h/\∀j,j<i->∀y,d.ai[j]? =some y->decide (y.s=s)=false) n 0 (by constructor<;>cbv) ⟨0,⟨rfl⟩,by omega,by omega,rfl,λj b=>absurd b (by omega)⟩ ?_
 intro m z h' K;cbv;obtain⟨i,a,O,N,rfl,M⟩:=K;refine ba (λc=>?_) (λc=>?_)
 .have U:=a.lt c;clear c;cbv;obtain⟨x,hx⟩:=cB d.ai i;refine⟨⟨q.ai.bp,a.ix U⟩,?_⟩;cbv;refine q.ai.cu hx a.eq (o:=0) (m:=1) (by decide) (λcs J=>?_);obtain⟨_,_,_,_,_,_,rfl,-,-⟩:=J;cbv;rw[au A];by_cases C:x.s=s
  .rw[ak C];have hR:=F z ⟨.inr ⟨i,x,a,hx,by simpa using C,M⟩⟩;cbv;exact hR
  rw[bn C];cbv;refine⟨n-(i+1),_,by omega,by constructor<;>cbv,i+1,a.succ (A:=A),rfl,by omega,rfl,?_⟩
  intro j b y v;rcases wM j i with I|I
  .exact M j I y v
  have:j=i:=by omega
  subst this;rw[hx]at v;cases v;exact bn C
 have P:=a.ge c;have hR:=F (-1) ⟨.inl ⟨rfl,λx hx=>by
  obtain⟨j,b⟩:=rK hx;have:=(ff.1 b).1;exact M j (by omega) x b⟩⟩
 cbv;exact hR
theorem Vo{x:bU}(hx:H[i]? =some x)(h:decide (x.s≠s)=true):bR (H.take (i+1)) s=bR (H.take i) s++[x]:=by rw[qM,hx];unfold bR;rw[jKC];have:x.s≠s:=lA h;simp[this]
theorem RX{x:bU}(hx:H[i]? =some x)(h:decide (x.s≠s)=false):bR (H.take (i+1)) s=bR (H.take i) s:=by
 rw[qM,hx];unfold bR;rw[jKC];have:x.s=s:=by simpa using h
 simp[this]
theorem iS(q:Sl 422 bu h (.slice b n c) H)(hn:n<=2^38)(s:Int)(O:∀h' f n' c',Le h h'->bt 422 bu h h' (.slice f n' c') (bR H s)->k (.slice f n' c') h'):
 Ct 341 [.slice b n c,.int .i64 s] h k:=by
 have E:=q.len;refine cg dKM Tryz.func341 λA X=>?_;cbv;refine aX.go (G:=Int×Option Addr×Nat×Nat) (λg=>[(6,.v (.int .i64 g.1)),(5,.v (.slice g.2.1 g.2.2.1 g.2.2.2))]) (λ_=>[])
  (λk g h'=>∃i:Nat,aZ g.1 i/\k=n-i/\i<=n/\Le h h'/\bt 422 bu h h' (.slice g.2.1 g.2.2.1 g.2.2.2) (bR (H.take i) s)) n (0,none,0,0) ⟨?_,?_,?_⟩ ⟨0,⟨rfl⟩,by omega,by omega,Le.refl _,bt.nil⟩ ?_
 .cbv
 .cbv
 .cbv
 intro k g h' N;cbv;obtain⟨i,e,W,Y,l,d⟩:=N;obtain⟨z,p,j,r⟩:=g;have e:aZ z i:=e;have d:bt 422 bu h h' (.slice p j r) (bR (H.take i) s):=d;refine ba (λt=>?_) (λt=>?_)
 .have U:=e.lt t;clear t;obtain⟨⟨xs,u,v⟩,hx⟩:=cB H i;have C:b.isSome=true/\0<=z/\z<(n:Int):=⟨q.bp,e.ix U⟩;have S:A .aN .neq xs s=decide (xs≠s):=by rw[az A]
  have w:=Vo (s:=s) hx;have w0:=RX (s:=s) hx;have V:j<=i:=by have:=d.sl.len;rw[this];refine jKl (jKe _ _) ?_;rw[eA];omega
  have y:=e.eq;have D:=e.succ (A:=A);cbv;refine⟨C,?_⟩;cbv;refine(q.mono (l.t _)).cu hx y (o:=0) (m:=1) (by decide) (λcs a=>?_);have a:cs=[.int .i64 xs,.string u,.bool v]:=a;subst a;cbv;rw[S];cases e1:decide (xs≠s)with
  |true=>
   have w:=w e1;cbv;refine⟨C,?_⟩;cbv;refine(q.mono (l.t _)).load hx y (λcs a=>?_);have a:cs=[.int .i64 xs,.string u,.bool v]:=a;subst a;cbv;intro R L J B;have F:Le h' L:=by rw[B];exact Le.set J
   have K:=(congrFun B R).trans ae;cbv;refine(d.mono (F.t _)).append (bf (s:=bu) K (x:=⟨xs,u,v⟩) rfl) (by decide) rfl (by decide) (by omega) (l.trans F) (λm f c' M Z P t3 k3 T=>?_);have Q:bt 422 bu h M (.slice f m c') (bR (H.take (i+1)) s):=by rw[w];exact T
   cbv;refine⟨n-(i+1),(_,f,m,c'),by omega,by constructor<;>cbv,i+1,D,rfl,by omega,P,Q⟩
  |false=>
   have w0:=w0 e1;have Q:bt 422 bu h h' (.slice p j r) (bR (H.take (i+1)) s):=by rw[w0];exact d
   cbv;refine⟨n-(i+1),(_,p,j,r),by omega,by constructor<;>cbv,i+1,D,rfl,by omega,l,Q⟩
 have lJ:=e.ge t;have I:=O h' p j r l (by rw[ie (by omega)]at d;exact d);cbv;exact I
theorem ZN{D:Option Addr}{E:Nat}(q:Sl 46 bF h (.slice b n c) R)(hR:SR R)(a:Int)(s:ByteArray)
 (u:∀z p,aZ z p->At R a p->k (.int .i64 z) h):Ct 346 [.agg #[.string nm,.slice D F E,.int .i64 0,.bool only,.slice b n c],.agg #[.int .i64 2,.int .i64 a,.string s]] h k:=by
 have w:=q.len;have jQ:=q.bound;refine cg dKI Tryz.func346 λA hA=>?_;cbv;refine aX.go (G:=Int) (λz=>[(5,.v (.int .i64 z))]) (λ_=>[(2,[.string nm,.slice D F E,.int .i64 0,.bool only,.slice b n c]),(3,[.int .i64 2,.int .i64 a,.string s])]) (λm z h'=>∃i:Nat,aZ z i/\m=n-i/\i<=n/\h'=h/\∀j r,j<i->R[j]? =some r->kN r<a) n 0 (by constructor<;>cbv) ⟨0,⟨rfl⟩,by omega,by omega,rfl,λj r d=>absurd d (by omega)⟩ ?_
 intro m z h' W;cbv;obtain⟨i,f,hm,hi,rfl,M⟩:=W;have O:A .aN .lss z (A .nat n)=decide (i<n):=f.yY (aZ.nat n);rw[O];by_cases U:i<n
 .obtain⟨r,P⟩:=cB R i;obtain⟨e,rv,B⟩:=hR.form r (cK P);have v:kN r=e:=by rw[B];rfl
  have Z:r.length=2:=by rw[B];rfl
  have tu:r[0]? =some ⟨2,e,dZ⟩:=by rw[B];rfl
  have K:b.isSome=true/\0<=z/\z<(n:Int):=⟨q.bp,f.ix U⟩;have I:=f.eq;have T:=f.succ (A:=A);have S:∀c,A .aN .lss c 0=decide (c<0):=λc=>aR A ..;rw[ak U];cbv;refine⟨K,?_⟩;cbv;refine q.load P I (λcs g=>?_);obtain⟨X,rfl,l⟩:=g;obtain⟨Y,C,r3,rfl⟩:=l.form;have XY:C=2:=by rw[l.len,Z]
  have H:Y.isSome=true/\(0:Int)<=0/\(0:Int)<(C:Int):=⟨l.bp,by omega,by omega⟩;cbv;refine⟨H,?_⟩;cbv;refine l.load tu (n:=0) rfl (λcs g=>?_);have g:cs=[.int .i64 2,.int .i64 e,.string dZ]:=g;subst g;cbv;refine Gb e a _ s (λz2 N=>?_);have o:decide (z2<0)=decide (e<a):=by rw[N,decide_eq_decide];exact wI e a
  clear N;cbv;rw[S,o];by_cases Q:e<a
  .rw[ak Q];cbv;refine⟨n-(i+1),_,by omega,by constructor<;>cbv,i+1,T,rfl,by omega,rfl,λj L d J=>?_⟩
   .rcases wM j i with x|x
    .exact M j L x J
    have:j=i:=by omega
    subst this;rw[P]at J;cases J;rw[v];exact Q
  have y:=u z i f ⟨by omega,λj L d J=>M j L d J,λj L d J=>by
   rcases Nat.eq_or_lt_of_le d with t|t
   .subst t;rw[P]at J;cases J;rw[v];omega
   have V:=wL.1 hR.gL i j (by omega) (ff.1 J).1 t;rw[(ff.1 P).2,(ff.1 J).2]at V;omega⟩
  rw[bn Q];cbv;exact y
 have y:=u z i f ⟨by omega,λj L d J=>M j L d J,λj L d J=>by
  have:=(ff.1 J).1;omega⟩
 rw[bn U];cbv;exact y
theorem Ul(a:Int)(l:k (.int .i64 0) h):Ct 353 [.agg #[.int .i64 2,.int .i64 a,.string dZ]] h k:=by
 obtain⟨A,b⟩:=Ar.ex;have e1:A .aN .lss 2 0=false:=by rw[aR A];rfl
 have e:A .aN .gtr 2 3=false:=by rw[bC A];rfl
 have c:A .aN .eql 2 0=false:=by rw[au A];rfl
 have d:A .aN .eql 2 1=false:=by rw[au A];rfl
 have f:A .aN .eql 2 2=true:=by rw[au A];rfl
 have g:A .aN .eql 2 3=false:=by rw[au A];rfl
 have i:A .kM .neq ⟨#[]⟩ ⟨#[]⟩=false:=by rw[b.kM];simp[Go.Sx.kM]
 have j:A .aN .gtr (A .lC ⟨#[]⟩) 60=false:=by rw[b.lC,bC A];rfl
 refine fz MV A Tryz.func353 ?_;cbv;rw[e1];cbv;rw[e];cbv;rw[c];cbv;rw[d];cbv;rw[f];cbv;rw[i];cbv;rw[g];cbv;rw[j];cbv;exact l
theorem Uk(l:k (.int .i64 0) h):Ct 353 [.agg #[.int .i64 0,.int .i64 0,.string dZ]] h k:=by
 obtain⟨A,a⟩:=Ar.ex;have e1:A .aN .lss 0 0=false:=by rw[aR A];rfl
 have e:A .aN .gtr 0 3=false:=by rw[bC A];rfl
 have b:A .aN .eql 0 0=true:=by rw[au A];rfl
 have g:A .aN .neq 0 0=false:=by rw[az A];rfl
 have c:A .aN .eql 0 1=false:=by rw[au A];rfl
 have d:A .aN .eql 0 2=false:=by rw[au A];rfl
 have f:A .aN .eql 0 3=false:=by rw[au A];rfl
 have i:A .kM .neq ⟨#[]⟩ ⟨#[]⟩=false:=by rw[a.kM];simp[Go.Sx.kM]
 have j:A .aN .gtr (A .lC ⟨#[]⟩) 60=false:=by rw[a.lC,bC A];rfl
 refine fz MV A Tryz.func353 ?_;cbv;rw[e1];cbv;rw[e];cbv;rw[b];cbv;rw[g];cbv;rw[i];cbv;rw[c];cbv;rw[d];cbv;rw[f];cbv;rw[j];cbv;exact l
theorem Uj(s:ByteArray)(l:s.size<=60)(j:k (.int .i64 0) h):Ct 353 [.agg #[.int .i64 3,.int .i64 0,.string s]] h k:=by
 obtain⟨A,i⟩:=Ar.ex;have e1:A .aN .lss 3 0=false:=by rw[aR A];rfl
 have e:A .aN .gtr 3 3=false:=by rw[bC A];rfl
 have a:A .aN .eql 3 0=false:=by rw[au A];rfl
 have g:A .aN .neq 0 0=false:=by rw[az A];rfl
 have b:A .aN .eql 3 1=false:=by rw[au A];rfl
 have c:A .aN .eql 3 2=false:=by rw[au A];rfl
 have d:A .aN .eql 3 3=true:=by rw[au A];rfl
 have f:A .aN .gtr (A .lC s) 60=false:=by rw[i.lC,bC A];exact bn (by show ¬((s.size:Int)>60);omega)
 refine fz MV A Tryz.func353 ?_;cbv;rw[e1];cbv;rw[e];cbv;rw[a];cbv;rw[b];cbv;rw[c];cbv;rw[d];cbv;rw[g];cbv;rw[f];cbv;exact j
theorem YT{s d:Nat}(g:Sl 202 bH h (.slice a s d) B)(q:Sl 45 bA h (.slice b n c) r)(S:r.length≠B.length)(f:k (.int .i64 1) h):
 Ct 344 [.agg #[.string nm,.slice a s d,.int .i64 key,.bool only],.slice b n c] h k:=by
 obtain⟨A,e⟩:=Ar.ex;have e1:A .aN .neq (A .nat n) (A .nat s)=true:=by have i:=q.len;have j:=g.len;rw[e.nat,az A];exact ak (by simp only[rz];omega)
 refine fz Ux A Tryz.func344 ?_;cbv;rw[e1];cbv;exact f
theorem aJM{j:Option Addr}{B z:Nat}(e:Sl 202 bH h (.slice j B z) bG)(q:Sl 45 bA h (.slice b n c) r)(p:fY r)(J:k (.int .i64 0) h):
 Ct 344 [.agg #[.string nm,.slice j B z,.int .i64 key,.bool only],.slice b n c] h k:=by
 obtain⟨A,i⟩:=Ar.ex;obtain⟨a,v,rfl,N⟩:=p;have L:n=2:=q.len;have F:B=2:=e.len;subst L F;have e1:A .aN .neq (A .nat 2) (A .nat 2)=false:=by rw[az A];simp
 have O:A .aN .lss 0 (A .nat 2)=true:=by rw[i.nat,aR A];rfl
 have P:A .aN .lss 1 (A .nat 2)=true:=by rw[i.nat,aR A];rfl
 have Q:A .aN .lss 2 (A .nat 2)=false:=by rw[i.nat,aR A];rfl
 have a1:A .aT .add .i64 0 1=1:=by rw[i.aT];rfl
 have a2:A .aT .add .i64 1 1=2:=by rw[i.aT];rfl
 have X:A .aN .neq 0 0=false:=by rw[az A];rfl
 have t:A .aN .eql 2 0=false:=by rw[au A];rfl
 have S:A .aN .eql 0 0=true:=by rw[au A];rfl
 have x:A .aN .eql 3 0=false:=by rw[au A];rfl
 have K:A .aN .neq 2 2=false:=by rw[az A];rfl
 have w:A .aN .neq 3 3=false:=by rw[az A];rfl
 have u:A .not true=false:=by rw[i.not];rfl
 have l:([⟨2,a,dZ⟩,v]:Row)[0]? =some ⟨2,a,dZ⟩:=rfl;have f:([⟨2,a,dZ⟩,v]:Row)[1]? =some v:=rfl;obtain⟨r,p⟩:∃r:Row,r=[⟨2,a,dZ⟩,v]:=⟨_,rfl⟩;rw[<-p]at q l f;have E:bG[0]? =some ⟨nA,2,false⟩:=rfl;have y:bG[1]? =some ⟨⟨#[98]⟩,3,true⟩:=rfl;obtain⟨R,D⟩:∃c,c=bG:=⟨_,rfl⟩;rw[<-D]at e E y;have U:b.isSome=true/\(0:Int)<=0/\(0:Int)<((2:Nat):Int):=⟨q.bp,by omega,by omega⟩;have C:b.isSome=true/\(0:Int)<=1/\(1:Int)<((2:Nat):Int):=⟨q.bp,by omega,by omega⟩;have Z:j.isSome=true/\(0:Int)<=0/\(0:Int)<((2:Nat):Int):=⟨e.bp,by omega,by omega⟩;have T:j.isSome=true/\(0:Int)<=1/\(1:Int)<((2:Nat):Int):=⟨e.bp,by omega,by omega⟩;clear p D;refine fz Ux A Tryz.func344 ?_;cbv;rw[e1];cbv;refine aX.go (G:=Int) (λg=>[(5,.v (.int .i64 g))]) (λ_=>[(2,[.string nm,.slice j 2 z,.int .i64 key,.bool only])]) (λm g h'=>h'=h/\((g=0/\m=2)\/(g=1/\m=1)\/(g=2/\m=0))) 2 0 (by constructor<;>cbv) ⟨rfl,.inl ⟨rfl,rfl⟩⟩ ?_
 intro m g h' I;cbv;obtain⟨rfl,H⟩:=I;rcases H with⟨rfl,rfl⟩|⟨rfl,rfl⟩|⟨rfl,rfl⟩
 .rw[O];cbv;refine⟨U,?_⟩;cbv;refine q.load l (n:=0) rfl (λcs d=>?_);have d:cs=[.int .i64 2,.int .i64 a,.string dZ]:=d;subst d;cbv;refine Ul a ?_;cbv;rw[X];cbv;refine⟨U,?_⟩;cbv;refine q.cu l (n:=0) rfl (o:=0) (m:=1) (by decide) (λcs d=>?_);have d:cs=[.int .i64 2,.int .i64 a,.string dZ]:=d;subst d;cbv;rw[t];cbv;refine⟨U,?_⟩;cbv;refine q.cu l (n:=0) rfl (o:=0) (m:=1) (by decide) (λcs d=>?_);have d:cs=[.int .i64 2,.int .i64 a,.string dZ]:=d;subst d;cbv;refine⟨Z,?_⟩;cbv;refine e.cu E (n:=0) rfl (o:=1) (m:=1) (by decide) (λcs d=>?_);have d:cs=[.string nA,.int .i64 2,.bool false]:=d;subst d;cbv;rw[K];cbv;rw[a1];refine⟨1,1,by omega,by constructor<;>cbv,rfl,.inr (.inl ⟨rfl,rfl⟩)⟩
 .rw[P];cbv;rcases N with rfl| ⟨s,rfl,M⟩
  .refine⟨C,?_⟩;cbv;refine q.load f (n:=1) rfl (λcs d=>?_);have d:cs=[.int .i64 0,.int .i64 0,.string dZ]:=d;subst d;cbv;refine Uk ?_;cbv;rw[X];cbv;refine⟨C,?_⟩;cbv;refine q.cu f (n:=1) rfl (o:=0) (m:=1) (by decide) (λcs d=>?_);have d:cs=[.int .i64 0,.int .i64 0,.string dZ]:=d;subst d;cbv;rw[S];cbv;refine⟨T,?_⟩;cbv;refine e.cu y (n:=1) rfl (o:=2) (m:=1) (by decide) (λcs d=>?_);have d:cs=[.string ⟨#[98]⟩,.int .i64 3,.bool true]:=d;subst d;cbv;rw[u];cbv;rw[a2];refine⟨0,2,by omega,by constructor<;>cbv,rfl,.inr (.inr ⟨rfl,rfl⟩)⟩
  refine⟨C,?_⟩;cbv;refine q.load f (n:=1) rfl (λcs d=>?_);have d:cs=[.int .i64 3,.int .i64 0,.string s]:=d;subst d;cbv;refine Uj s M ?_;cbv;rw[X];cbv;refine⟨C,?_⟩;cbv;refine q.cu f (n:=1) rfl (o:=0) (m:=1) (by decide) (λcs d=>?_);have d:cs=[.int .i64 3,.int .i64 0,.string s]:=d;subst d;cbv;rw[x];cbv;refine⟨C,?_⟩;cbv;refine q.cu f (n:=1) rfl (o:=0) (m:=1) (by decide) (λcs d=>?_);have d:cs=[.int .i64 3,.int .i64 0,.string s]:=d;subst d;cbv;refine⟨T,?_⟩;cbv;refine e.cu y (n:=1) rfl (o:=1) (m:=1) (by decide) (λcs d=>?_);have d:cs=[.string ⟨#[98]⟩,.int .i64 3,.bool true]:=d;subst d;cbv;rw[w];cbv;rw[a2];refine⟨0,2,by omega,by constructor<;>cbv,rfl,.inr (.inr ⟨rfl,rfl⟩)⟩
 rw[Q];cbv;exact J
theorem At.uniq{a:Int}{b:Nat}(q:At R a p)(d:At R a b):p=b:=by
 rcases kQm p b with h|h|h
 .obtain⟨r,c⟩:=aJ (xs:=R) (i:=p) (by have:=d.le;omega);have e:=q.hi p r (kB _) c;have f:=d.lo p r h c;omega
 .exact h
 obtain⟨r,c⟩:=aJ (xs:=R) (i:=b) (by have:=q.le;omega);have e:=d.hi b r (kB _) c;have f:=q.lo b r h c;omega
theorem YQ{sc:Nat}(q:Sl 46 bF h (.slice b n c) R)(hR:SR R)(a:Int)(s:ByteArray)
 (j:∀h' m n' c' p t r,Le h h'->At R a p->t=jM R a p->r=(R[p]?).getD []->(t=true->Sl 45 bA h' (.slice m n' c') r)->k (.tuple #[.slice m n' c',.bool t]) h'):
 Ct 345 [.agg #[.string nm,.slice sb sn sc,.int .i64 0,.bool only,.slice b n c],.agg #[.int .i64 2,.int .i64 a,.string s]] h k:=by
 have w:=q.len;have jQ:=q.bound;refine cg dKJ Tryz.func345 λA W=>?_;cbv;refine ZN q hR a s (λz p l g=>?_);have K:=g.le;have O:A .aN .eql z (A .nat n)=decide (p=n):=by have:=l.eq;rw[au A,W.nat,decide_eq_decide];simp only[rz];omega
 cbv;rw[O];by_cases D:p=n
 .have f:jM R a p=false:=by unfold jM;rw[yo (by omega)]
  have y:=j h none 0 0 p false _ (Le.refl _) g f.symm rfl (λh=>by cases h);rw[ak D];cbv;exact y
 obtain⟨r,P⟩:=cB R p;obtain⟨e,rv,B⟩:=hR.form r (cK P);have J:kN r=e:=by rw[B];rfl
 have E:r.length=2:=by rw[B];rfl
 have tu:r[0]? =some ⟨2,e,dZ⟩:=by rw[B];rfl
 have u:b.isSome=true/\0<=z/\z<(n:Int):=⟨q.bp,l.ix (by omega)⟩;have o:=l.eq;have S:∀c,A .aN .neq c 0=decide (c≠0):=λc=>az A ..;rw[bn D];cbv;refine⟨u,?_⟩;cbv;refine q.load P o (λcs d=>?_);obtain⟨Y,rfl,G⟩:=d;obtain⟨r1,C,r3,rfl⟩:=G.form;have XY:C=2:=by rw[G.len,E]
 have M:r1.isSome=true/\(0:Int)<=0/\(0:Int)<(C:Int):=⟨G.bp,by omega,by omega⟩;cbv;refine⟨M,?_⟩;cbv;refine G.load tu (n:=0) rfl (λcs d=>?_);have d:cs=[.int .i64 2,.int .i64 e,.string dZ]:=d;subst d;cbv;refine Gb e a _ s (λz2 N=>?_);have i:decide (z2≠0)=decide (e≠a):=by rw[N,decide_eq_decide];exact not_congr (iI e a)
 clear N;cbv;rw[S,i];by_cases Q:e=a
 .have f:jM R a p=true:=by unfold jM;rw[P];exact ak (by rw[J];exact Q)
  rw[bn (by simp[Q])];cbv;intro n6 v U I;have x:Le h v:=by rw[I];exact Le.set U
  have q6:=q.mono (x.t _);cbv;refine⟨u,?_⟩;cbv;refine q6.load P o (λcs d=>?_);obtain⟨ab,rfl,L⟩:=d;obtain⟨u1,u2,u3,rfl⟩:=L.form;have XR:u2=2:=by rw[L.len,E]
  have T:bt 45 bA h v (.slice (zsA n6) 0 0) ([]:Row):=bt.nil;cbv;refine T.append L (by decide) rfl (by decide) (by omega) x (λm7 F H V Mr l7 t7 k7 Z=>?_);have X:=Z.sl;rw[np]at X;have y:=j V F m7 H p true r l7 g f.symm (by rw[P];rfl) (λ_=>X);cbv;exact y
 have f:jM R a p=false:=by unfold jM;rw[P];exact bn (by rw[J];exact Q)
 have y:=j h none 0 0 p false _ (Le.refl _) g f.symm rfl (λh=>by cases h);rw[ak (by simpa using Q)];cbv;exact y
theorem Xa{W M:Option Addr}{Y x c2:Nat}(I:Sl 202 bH h (.slice W sn Y) bG)(q:Sl 46 bF h (.slice b n c) R)(hR:SO R)(g:Sl 45 bA h (.slice M x c2) r)(i:fY r\/r.length≠2)
 {D:ca×Int} (j:bK ⟨⟨nm,bG,0,only⟩,R⟩ r=D) 
 (m:∀h' b3 n3 c3,Le h h'->Sl 46 bF h' (.slice b3 n3 c3) D.1.rows->k (.tuple #[.agg #[.string nm,.slice W sn Y,.int .i64 0,.bool only,.slice b3 n3 c3],.int .i64 D.2]) h'):
 Ct 273 [.agg #[.string nm,.slice W sn Y,.int .i64 0,.bool only,.slice b n c],.slice M x c2] h k:=by
 obtain⟨A,hA⟩:=Ar.ex;have F:A .aN .neq 1 0=true:=by rw[az A];rfl
 have Xo:A .aN .neq 0 0=false:=by rw[az A];rfl
 have o:=q.len;have jQ:=q.bound;have ao:=hR.le;rcases i with i|i
 .have hf:=i.fits;have AJ:=i;obtain⟨a,v,B,-⟩:=AJ;have tq:r.length=2:=by rw[B];rfl
  have tu:r[0]? =some ⟨2,a,dZ⟩:=by rw[B];rfl
  have eU:x=2:=by rw[g.len,tq]
  have Ma:M.isSome=true/\(0:Int)<=0/\(0:Int)<(x:Int):=⟨g.bp,by omega,by omega⟩;have e:∀p,At R a p->(if jM R a p=true then((⟨⟨nm,bG,0,only⟩,R⟩,7):ca×Int)else if decide ((R.length:Int)>=200)=true then(⟨⟨nm,bG,0,only⟩,R⟩,4)else(⟨⟨nm,bG,0,only⟩,R.take p++[r]++R.drop p⟩,0))=D:=λp u=>by
   rw[<-j,B];rw[B]at hf;exact(kU (S:=⟨nm,bG,0,only⟩) rfl hR.sr hf u).symm
  have f8:A .aN .geq (A .nat n) 200=decide ((R.length:Int)>=200):=by rw[cH A,hA.nat,o];rfl
  clear j;obtain⟨E,C⟩:∃c,c=bG:=⟨_,rfl⟩;rw[<-C]at e;refine fz aKH A Tryz.func273 ?_;cbv;refine aJM I g i ?_;clear I C;cbv;rw[Xo];cbv;refine⟨Ma,?_⟩;cbv;refine g.load tu (n:=0) rfl (λcs f=>?_);have f:cs=[.int .i64 2,.int .i64 a,.string dZ]:=f;subst f;cbv;refine YQ q hR.sr a _ (λG b' n' c' p t aC l u ht _ _=>?_);have e:=e p u;rw[<-ht]at e;cbv;cases t with
  |true=>have e:((⟨⟨nm,E,0,only⟩,R⟩,7):ca×Int)=D:=e;subst e;have y:=m G b n c l (q.mono (l.t _));cbv;exact y
  |false=>
   have e:(if decide ((R.length:Int)>=200)=true then((⟨⟨nm,E,0,only⟩,R⟩,4):ca×Int)else(⟨⟨nm,E,0,only⟩,R.take p++[r]++R.drop p⟩,0))=D:=e;cbv;rw[f8];generalize decide ((R.length:Int)>=200)=u8 at e;cases u8 with
   |true=>have e:((⟨⟨nm,E,0,only⟩,R⟩,4):ca×Int)=D:=e;subst e;have y:=m G b n c l (q.mono (l.t _));cbv;exact y
   |false=>
    have e:((⟨⟨nm,E,0,only⟩,R.take p++[r]++R.drop p⟩,0):ca×Int)=D:=e;have J:=congrArg (λd:ca×Int=>d.1.rows) e;have J:R.take p++[r]++R.drop p=D.1.rows:=J;have U:=congrArg (λd:ca×Int=>d.2) e;have U:0=D.2:=U;rw[<-J,<-U]at m;clear J U e;have T:=q.mono (l.t _);have EV:=g.mono (l.t _);cbv;refine⟨Ma,?_⟩;cbv;refine EV.load tu (n:=0) rfl (λcs f=>?_);have f:cs=[.int .i64 2,.int .i64 a,.string dZ]:=f;subst f;cbv;refine ZN T hR.sr a _ (λz H w Ke=>?_);obtain rfl:H=p:=Ke.uniq u;have al:=u.le;have Z:A .nt z 0=H:=dy (A:=A) w;have xT:=cJ (A:=A) w (n:=n);obtain⟨OX,OW⟩:=jQ;have gu:0<=z/\z<=(c:Int):=by have:=w.eq;omega
    have ll:0<=z/\z<=(n:Int):=by have:=w.eq;omega
    have QD:H<=n:=by omega
    cbv;intro n6 h6 g6 e6;have l6:Le G h6:=by rw[e6];exact Le.set g6
    have q6:=T.mono (l6.t _);have fB:bt 46 bF G h6 (.slice (zsA n6) 0 0) ([]:List Row):=bt.nil;cbv;refine⟨gu,?_⟩;cbv;refine fB.append (q6.sA (A:=A) (s:=bF) (z:=A .nat c) QD Z Z) (by decide) rfl (by decide) (by rw[Z];omega) l6 (λm7 b7 c7 h7 Mr l7 t7 k7 iF=>?_);rw[np]at iF;cbv;intro n8 h8 g8 e8;have l8:Le h7 h8:=by rw[e8];exact Le.set g8
    have N:=EV.mono ((l7.trans l8).t _);cbv;refine dt N (by decide) rfl (by decide) (λh0=>absurd h0 (by omega)) (λn9 c9 h9 nj _ l9 Th=>?_);have P:Sl 45 bA h9 (.slice (zsA n9) x c9) r:=Th.sl g.len;cbv;intro F iw Mj qF;have gB:Le h9 iw:=by rw[qF];exact Le.set Mj
    have O:=(congrFun qF F).trans ae;have ab:Sl 46 bF iw (.slice (zsA F) 1 1) [r]:=bf (s:=bF) O ⟨_,rfl,P.mono (gB.t _)⟩;have X:=(l8.trans l9).trans gB;cbv;refine(iF.mono (X.t _)).append ab (by decide) rfl (by decide) (by omega) (l7.trans X) (λaB aA aq oM ax Br aD an K=>?_);have uX:=T.mono (Br.t _);cbv;refine⟨ll,?_⟩;cbv;refine K.append (uX.jD (A:=A) (s:=bF) w QD xT (c':=c-H) rfl) (by decide) rfl (by decide) (by rw[xT];omega) Br (λQ L Zx tA aw fa aE ag V=>?_);have y:=m tA L Q Zx (l.trans fa) V.sl;cbv;exact y
 have j:D=(⟨⟨nm,bG,0,only⟩,R⟩,1):=by
  rw[<-j];unfold bK;have:eF bG r=1:=by unfold eF;have h2:bG.length=2:=rfl;rw[if_pos (ak (by rw[h2];omega))]
  simp only;rw[this];rfl
 subst j;have y:=m h b n c (Le.refl _) q;obtain⟨E,C⟩:∃c,c=bG:=⟨_,rfl⟩;have qS:E.length=2:=by rw[C];rfl
 rw[<-C]at I;clear C;refine fz aKH A Tryz.func273 ?_;cbv;refine YT I g (by omega) ?_;cbv;rw[F];cbv;exact y
theorem PV{sc:Nat}(q:Sl 46 bF h (.slice b n c) R)(hR:SR R)(ag:R.length<=200)(a:Int)
 {D:ca×Row×Int} (M:bE ⟨⟨nm,B,0,only⟩,R⟩ ⟨2,a,dZ⟩=D) 
 (u:∀h' C Y F E n4 G,Le h h'->Sl 46 bF h' (.slice C Y F) D.1.rows->Sl 45 bA h' (.slice E n4 G) D.2.1->k (.tuple #[.agg #[.string nm,.slice sb sn sc,.int .i64 0,.bool only,.slice C Y F],.slice E n4 G,.int .i64 D.2.2]) h'):
 Ct 278 [.agg #[.string nm,.slice sb sn sc,.int .i64 0,.bool only,.slice b n c],.agg #[.int .i64 2,.int .i64 a,.string dZ]] h k:=by
 obtain⟨A,L⟩:=Ar.ex;have fX:A .not true=false:=by rw[L.not];rfl
 have rG:A .not false=true:=by rw[L.not];rfl
 have N:=q.len;have jQ:=q.bound;have e:∀p,At R a p->(if jM R a p=true then((⟨⟨nm,B,0,only⟩,R.take p++R.drop (p+1)⟩,(R[p]?).getD [],0):ca×Row×Int)else(⟨⟨nm,B,0,only⟩,R⟩,[],2))=D:=λp j=>by
  rw[<-M];exact(kf (S:=⟨nm,B,0,only⟩) rfl hR j).symm
 clear M;refine fz eQQ A Tryz.func278 ?_;cbv;refine YQ q hR a _ (λo b' n' c' p t r l j g dP m=>?_);have e:=e p j;rw[<-g,<-dP]at e;cbv;cases t with
 |false=>have e:((⟨⟨nm,B,0,only⟩,R⟩,[],2):ca×Row×Int)=D:=e;subst e;have y:=u o b n c none 0 0 l (q.mono (l.t _)) Sl.nil;rw[rG];cbv;exact y
 |true=>
  have e:((⟨⟨nm,B,0,only⟩,R.take p++R.drop (p+1)⟩,r,0):ca×Row×Int)=D:=e;have J:=congrArg (λd:ca×Row×Int=>d.1.rows) e;have J:R.take p++R.drop (p+1)=D.1.rows:=J;have U:=congrArg (λd:ca×Row×Int=>d.2.2) e;have U:0=D.2.2:=U;have f:=congrArg (λd:ca×Row×Int=>d.2.1) e;have f:r=D.2.1:=f;rw[<-J,<-U,<-f]at u;clear J U f e;have an:p<R.length:=by
   have g:=g.symm;unfold jM at g;cases O:R[p]? with
   |none=>rw[O]at g;cases g
   |some r=>exact(ff.1 O).1
  have m:=m rfl;have x:=q.mono (l.t _);rw[fX];cbv;refine ZN x hR a _ (λz i v Ke=>?_);obtain rfl:i=p:=Ke.uniq j;have w:=v.succ (A:=A);have Z:A .nt z 0=i:=dy (A:=A) v;have xT:=cJ (A:=A) w (n:=n);obtain⟨OX,OW⟩:=jQ;have gu:0<=z/\z<=(c:Int):=by have:=v.eq;omega
  have ll:0<=A .aT .add .i64 z 1/\A .aT .add .i64 z 1<=(n:Int):=by have:=w.eq;omega
  have QD:i<=n:=by omega
  have X:i+1<=n:=by omega
  cbv;intro n6 I g6 e6;have T:Le o I:=by rw[e6];exact Le.set g6
  have q6:=x.mono (T.t _);have fB:bt 46 bF o I (.slice (zsA n6) 0 0) ([]:List Row):=bt.nil;cbv;refine⟨gu,?_⟩;cbv;refine fB.append (q6.sA (A:=A) (s:=bF) (z:=A .nat c) QD Z Z) (by decide) rfl (by decide) (by rw[Z];omega) T (λm7 b7 c7 h7 Mr W t7 k7 P=>?_);rw[np]at P;have q7:=x.mono (W.t _);cbv;refine⟨ll,?_⟩;cbv;refine P.append (q7.jD (A:=A) (s:=bF) w X xT (c':=c-(i+1)) rfl) (by decide) rfl (by decide) (by rw[xT];omega) W (λQ K Zx tA al H ao ab V=>?_);have y:=u tA K Q Zx b' n' c' (l.trans H) V.sl (m.mono (H.t _));cbv;exact y
theorem aZa{Y:Option Addr}{Z:Nat}(q:Sl 46 bF h (.slice b n c) R)(hR:SR R)(ag:R.length<=200)
 (hk:∀h' w S x,Le h h'->Sl 46 bF h' (.slice w S x) R->k (.slice w S x) h'):
 Ct 279 [.agg #[.string nm,.slice Y sn Z,.int .i64 0,.bool only,.slice b n c],.agg #[.int .i64 0,.int .i64 0,.string dZ],.agg #[.int .i64 0,.int .i64 0,.string dZ]] h k:=by
 obtain⟨A,hA⟩:=Ar.ex;have zS:A .aN .eql 0 0=true:=by rw[au A];rfl
 have M:=q.len;have jQ:=q.bound;refine fz eQP A Tryz.func279 ?_;cbv;refine aX.go (G:=Int×Option Addr×Nat×Nat) (λg=>[(8,.v (.int .i64 g.1)),(7,.v (.slice g.2.1 g.2.2.1 g.2.2.2))]) (λ_=>[(3,[.string nm,.slice Y sn Z,.int .i64 0,.bool only,.slice b n c]),(4,[.int .i64 0,.int .i64 0,.string dZ]),(5,[.int .i64 0,.int .i64 0,.string dZ])])
  (λm g h'=>∃i:Nat,aZ g.1 i/\m=n-i/\i<=n/\Le h h'/\bt 46 bF h h' (.slice g.2.1 g.2.2.1 g.2.2.2) (R.take i)) n (0,none,0,0) ⟨?_,?_,?_⟩ ⟨0,⟨rfl⟩,by omega,by omega,Le.refl _,bt.nil⟩ ?_
 .cbv
 .cbv
 .cbv
 intro m g h' hI;cbv;obtain⟨i,d,hm,hi,l,e⟩:=hI;obtain⟨z,E,p,H⟩:=g;have d:aZ z i:=d;have e:bt 46 bF h h' (.slice E p H) (R.take i):=e;refine ba (λf=>?_) (λf=>?_)
 .have aU:=d.lt f;clear f;obtain⟨r,P⟩:=cB R i;obtain⟨W,rv,B⟩:=hR.form r (cK P);have tq:r.length=2:=by rw[B];rfl
  have tu:r[0]? =some ⟨2,W,dZ⟩:=by rw[B];rfl
  have C:b.isSome=true/\0<=z/\z<(n:Int):=⟨q.bp,d.ix aU⟩;have y:=d.eq;have gG:=d.succ (A:=A);have U:=q.mono (l.t _);have Bw:p=i:=by have:=e.sl.len;rw[this,eA];omega
  have Np:R.take (i+1)=R.take i++[r]:=by rw[qM,P];rfl
  cbv;refine⟨C,?_⟩;cbv;refine U.load P y (λcs a=>?_);obtain⟨an,rfl,Q⟩:=a;obtain⟨r1,V,r3,rfl⟩:=Q.form;have XY:V=2:=by rw[Q.len,tq]
  have Ma:r1.isSome=true/\(0:Int)<=0/\(0:Int)<(V:Int):=⟨Q.bp,by omega,by omega⟩;cbv;refine⟨Ma,?_⟩;cbv;refine Q.load tu (n:=0) rfl (λcs a=>?_);have a:cs=[.int .i64 2,.int .i64 W,.string dZ]:=a;subst a;cbv;rw[zS];cbv;rw[zS];cbv;intro n6 h6 g6 e6;have O:Le h' h6:=by rw[e6];exact Le.set g6
  have q6:=U.mono (O.t _);cbv;refine⟨C,?_⟩;cbv;refine q6.load P y (λcs a=>?_);obtain⟨ao,rfl,L⟩:=a;obtain⟨u1,u2,u3,rfl⟩:=L.form;have XR:u2=2:=by rw[L.len,tq]
  cbv;refine dt L (by decide) rfl (by decide) (λh0=>absurd h0 (by omega)) (λn9 c9 I nj _ l9 Th=>?_);have o:Sl 45 bA I (.slice (zsA n9) u2 c9) r:=Th.sl L.len;cbv;intro F N Mj T;have D:Le I N:=by rw[T];exact Le.set Mj
  have j:=(congrFun T F).trans ae;have v:Sl 46 bF N (.slice (zsA F) 1 1) [r]:=bf (s:=bF) j ⟨_,rfl,o.mono (D.t _)⟩;have X:=(O.trans l9).trans D;cbv;refine(e.mono (X.t _)).append v (by decide) rfl (by decide) (by omega) (l.trans X) (λu t K oM al Br aq ab J=>?_);rw[<-Np]at J;cbv;refine⟨n-(i+1),(_,t,u,K),by omega,by constructor<;>cbv,i+1,gG,rfl,by omega,Br,J⟩
 have lJ:=d.ge f;have ay:=hk h' E p H l (by have:=e.sl;rw[ie (by omega)]at this;exact this);cbv;exact ay
abbrev cKw(h:ad)(d':DB)(k:Value->ad->Prop):Prop:=
 ∀h' b1 n1 c1 b2 n2 c2 b3 n3 c3 b4 n4 c4,Le h h'->RP h' b1 n1 c1 b2 n2 c2 b3 n3 c3 b4 n4 c4 d'->k (.agg #[.slice b1 n1 c1,.slice b2 n2 c2,.slice b3 n3 c3,.slice b4 n4 c4]) h'
theorem IV{s c:Option Addr}{t j e f g:Nat}(q:RP h s n t b j e a m f c o g d)(hl:d.ao.length<=2^30)(v:aZ z i)(O:i<d.ao.length)
      {y:Option Addr} {G D C:Nat} (Z:Sl 202 bH h (.slice E G F) B) (Y:Sl 46 bF h (.slice y D C) R)  (P:cKw h ⟨d.ao.set i ⟨⟨nm,B,key,only⟩,R⟩,d.ai,d.holds,d.waits⟩ k):
 Ct 275 [.agg #[.slice s n t,.slice b j e,.slice a m f,.slice c o g],.int .i64 z,.agg #[.string nm,.slice E G F,.int .i64 key,.bool only,.slice y D C]] h k:=by
 have S:=q.ao.len;have I:=v.eq;refine cg eQT Tryz.func275 λA hA=>?_;cbv;intro n5 N M J;have l:Le h N:=by rw[J];exact Le.set M
 have X:=q.mono l;cbv;refine dt X.ao (by decide) rfl (by decide) (λh0=>absurd h0 (by omega)) (λp cap h6 K _ V T=>?_);have Q:=l.trans V;have L:(some (⟨p,0,none⟩:Addr)).isSome=true/\0<=z/\z<(n:Int):=⟨rfl,v.ix (by omega)⟩;cbv;refine⟨L,?_⟩;cbv;refine T.setAt (by decide) O I rfl (x:=⟨⟨nm,B,key,only⟩,R⟩) ⟨_,_,_,_,_,_,rfl,Z.mono (Q.t _),Y.mono (Q.t _)⟩ (λu U t7 W=>?_);have w:Le h u:=Q.aV (bs:=[p]) (by simpa using l.none K) U;have r:=q.mono w;have H:=P u (zsA p) n cap b j e a m f c o g w ⟨W.sl (by rw[nM];exact S),r.ai,r.holds,r.waits⟩;cbv;exact H
theorem nP{t c:Option Addr}{j e f g:Nat}(q:RP h b j e t n u a m f c o g d)(hl:d.ai.length<=2^30)(w:aZ z i)(R:i<d.ai.length)
  {L:List cV} {M:List mD} {B:Option Addr} {G D C:Nat} (qs:Sl 161 bz h (.slice E G F) L) (Z:Sl 340 df h (.slice B D C) M)  (S:cKw h ⟨d.ao,d.ai.set i ⟨s,L,M⟩,d.holds,d.waits⟩ k):
 Ct 282 [.agg #[.slice b j e,.slice t n u,.slice a m f,.slice c o g],.int .i64 z,.agg #[.int .i64 s,.slice E G F,.slice B D C]] h k:=by
 have T:=q.ai.len;have I:=w.eq;refine cg eQN Tryz.func282 λA hA=>?_;cbv;intro n5 P O J;have l:Le h P:=by rw[J];exact Le.set O
 have Y:=q.mono l;cbv;refine dt Y.ai (by decide) rfl (by decide) (λh0=>absurd h0 (by omega)) (λp cap h6 K _ W U=>?_);have Q:=l.trans W;have N:(some (⟨p,0,none⟩:Addr)).isSome=true/\0<=z/\z<(n:Int):=⟨rfl,w.ix (by omega)⟩;cbv;refine⟨N,?_⟩;cbv;refine U.setAt (by decide) R I rfl (x:=⟨s,L,M⟩) ⟨_,_,_,_,_,_,rfl,qs.mono (Q.t _),Z.mono (Q.t _)⟩ (λv V t7 X=>?_);have y:Le h v:=Q.aV (bs:=[p]) (by simpa using l.none K) V;have r:=q.mono y;have H:=S v b j e (zsA p) n cap a m f c o g y ⟨r.ao,X.sl (by rw[nM];exact T),r.holds,r.waits⟩;cbv;exact H
theorem aJI{W:List bU}{g i:Option Addr}{j d l:Nat}(v:Sl 422 bu h (.slice g n j) H)(w:Sl 422 bu h (.slice i d l) W)(q:n<=2^38)(r:d<=2^38)(s:Int)
 (u:∀h' e m f a c b,Le h h'->Sl 422 bu h' (.slice e m f) (bR H s)->Sl 422 bu h' (.slice a c b) (bR W s)->k (.agg #[.slice e m f,.slice a c b]) h'):
 Ct 349 [.agg #[.slice g n j,.slice i d l],.int .i64 s] h k:=by
 refine cg dKG Tryz.func349 λA z=>?_;cbv;refine iS v q s (λx e m f o M=>?_);cbv;refine iS (w.mono (o.t _)) r s (λt a c b p X=>?_);have y:=u t e m f a c b (o.trans p) (M.sl.mono (p.t _)) X.sl;cbv;exact y
theorem Zb{p t u:Option Addr}{g f a I v J x:Nat}(q:RP h e g f p a c t I v u J x d)(hl:d.ai.length<=2^30)(h3:d.holds.length<=2^30)(h4:d.waits.length<=2^30)(C:d.ai[i]? =some w)(hw:w.s=s)(hu:∀j y,d.ai[j]? =some y->y.s=s->j=i)(hk:cKw h ⟨d.ao,d.ai.take i++d.ai.drop (i+1),bR d.holds s,bR d.waits s⟩ k):
 Ct 284 [.agg #[.slice e g f,.slice p a c,.slice t I v,.slice u J x],.int .i64 s] h k:=by
 have hn:=q.ai.len;have Jt:=q.holds.len;have FA:=q.waits.len;have jQ:=q.ai.bound;have iv:=(ff.1 C).1;refine cg eQL Tryz.func284 λA hA=>?_;cbv;refine yi q s (λz D=>?_);have b:aZ z i:=by
  rcases D.out with⟨-,M⟩|⟨j,y,b,hy,hp,-⟩
  .have:=M w (cK C);rw[ak hw]at this;cases this
  have:=hu j y hy (lA hp);rw[<-this];exact b
 clear D;have o:=b.succ (A:=A);have r:A .nt z 0=i:=dy (A:=A) b;have T:=cJ (A:=A) o (n:=a);obtain⟨OX,OW⟩:=jQ;have gu:0<=z/\z<=(c:Int):=by have:=b.eq;omega
 have ll:0<=A .aT .add .i64 z 1/\A .aT .add .i64 z 1<=(a:Int):=by have:=o.eq;omega
 have X:i<=a:=by omega
 have Y:i+1<=a:=by omega
 cbv;intro n6 B Z R;have E:Le h B:=by rw[R];exact Le.set Z
 have q6:=q.mono E;have V:bt 337 jI h B (.slice (zsA n6) 0 0) ([]:List eY):=bt.nil;cbv;refine⟨gu,?_⟩;cbv;refine V.append (q6.ai.sA (A:=A) (s:=jI) (z:=A .nat c) X r r) (by decide) rfl (by decide) (by rw[r];omega) E (λm7 b7 c7 h7 Mr G t7 k7 F=>?_);rw[np]at F;have q7:=q.mono G;cbv;refine⟨ll,?_⟩;cbv;refine F.append (q7.ai.jD (A:=A) (s:=jI) o Y T (c':=c-(i+1)) rfl) (by decide) rfl (by decide) (by rw[T];omega) G (λm8 L N h8 W H t8 k8 Q=>?_);have m:=q.mono H;cbv;refine aJI m.holds m.waits (by omega) (by omega) s (λh9 O m3 S P m4 U l p3 p4=>?_);have q9:=m.mono l;have K:=hk h9 e g f L m8 N O m3 S P m4 U (H.trans l) ⟨q9.ao,Q.sl.mono (l.t _),p3,p4⟩;cbv;exact K
theorem Qs{c f:Option Addr}{r l t:Nat}(q:RP h c r l b n m e t o f u p d)(hl:d.ai.length<=2^30)(hi:d.ai[i]? =some w)(hw:w.s=s)(hu:∀j y,d.ai[j]? =some y->y.s=s->j=i)(uC:w.log.length<=2^30){x:cV}{rb:Option Addr}{rn rc:Nat}(qr:Sl 45 bA h (.slice rb rn rc) x.row)(tq:x.row.length=2)(W:cKw h ⟨d.ao,d.ai.set i ⟨w.s,w.log++[x],w.marks⟩,d.holds,d.waits⟩ k):
 Ct 274 [.agg #[.slice c r l,.slice b n m,.slice e t o,.slice f u p],.int .i64 s,.agg #[.string x.table,.int .i64 x.op,.slice rb rn rc]] h k:=by
 have hn:=q.ai.len;have Y:=(ff.1 hi).1;obtain⟨ws,wl,wm⟩:=w;obtain⟨xt,xo,xr⟩:=x;have qr:Sl 45 bA h (.slice rb rn rc) xr:=qr;have tq:xr.length=2:=tq;have uC:wl.length<=2^30:=uC;have AH:=qr.len;refine cg eQU Tryz.func274 λA hA=>?_;cbv;refine yi q s (λz jb=>?_);have D:aZ z i:=by
  rcases jb.out with⟨-,bM⟩|⟨j,y,D,hy,hp,-⟩
  .have:=bM _ (cK hi);rw[ak hw]at this;cases this
  have:=hu j y hy (lA hp);rw[<-this];exact D
 clear jb;have ey:b.isSome=true/\0<=z/\z<(n:Int):=⟨q.ai.bp,D.ix (by omega)⟩;have dG:=D.eq;cbv;refine⟨ey,?_⟩;cbv;refine q.ai.load hi dG (λcs ar=>?_);obtain⟨u1,v1,w1,u2,v2,w2,rfl,Q,qm⟩:=ar;have Q:Sl 161 bz h (.slice u1 v1 w1) wl:=Q;have T:=Q.len;cbv;intro n5 h5 g5 e5;have l5:Le h h5:=by rw[e5];exact Le.set g5
 cbv;refine dt (qr.mono (l5.t _)) (by decide) rfl (by decide) (λh0=>absurd h0 (by omega)) (λn6 c6 h6 LS _ l6 al=>?_);have R:Sl 45 bA h6 (.slice (zsA n6) rn c6) xr:=al.sl qr.len;have Qy:=l5.trans l6;cbv;refine⟨?_,?_⟩
 .intro O I g7 e7;have N:Le h6 I:=by rw[e7];exact Le.set g7
  have Oi:=Qy.trans N;have fB:bt 161 bz h I (.slice (zsA O) 0 0) ([]:List cV):=bt.nil;cbv;refine⟨?_,?_⟩
  .cbv;refine fB.append (Q.mono (Oi.t _)) (by decide) rfl (by decide) (by omega) Oi (λm8 b8 c8 C an J t8 k8 ab=>?_);have ag:=R.mono (N.t _);cbv;intro P L g9 e9;have E:Le C L:=by rw[e9];exact Le.set g9
   have f9:=(congrFun e9 P).trans ae;have H:Sl 161 bz L (.slice (zsA P) 1 1) [⟨xt,xo,xr⟩]:=bf (s:=bz) f9 ⟨_,_,_,rfl,(ag.mono (t8 _ (by decide))).mono (E.t _)⟩;have S:=ab.mono (E.t _);have X:=J.trans E;cbv;refine S.append H (by decide) rfl (by decide) (by omega) X (λHL Ed Iw iw AW g F AD V=>?_);rw[np]at V;cbv;refine nP (q.mono g) hl D Y V.sl (qm.mono (g.t _)) (λM c r l b n m e t o f u p B G=>?_);have v:=W M c r l b n m e t o f u p (g.trans B) G;cbv;exact v
  cbv;intro Z C g8 U;have J:Le I C:=by rw[U];exact Le.set g8
  have f8:=(congrFun U Z).trans ae;have v8:Sl 161 bz C (.slice (zsA Z) 1 1) [⟨xt,xo,xr⟩]:=bf (s:=bz) f8 ⟨_,_,_,rfl,R.mono ((N.trans J).t _)⟩;have a:=Oi.trans J;have Yg:bt 161 bz h C (.slice (zsA O) 0 0) ([]:List cV):=bt.nil;cbv;refine dt (Q.mono (a.t _)) (by decide) rfl (by decide) (λh0=>?_) (λP c9 L nj _ E Th=>?_)
  .have K:wl=[]:=kh (by omega);have S:bt 161 bz h C (.slice (zsA O) 0 0) wl:=by rw[K];exact Yg
   have H:=v8;have X:=a;cbv;refine S.append H (by decide) rfl (by decide) (by omega) X (λHL Ed Iw iw AW g F AD V=>?_);cbv;refine nP (q.mono g) hl D Y V.sl (qm.mono (g.t _)) (λM c r l b n m e t o f u p B G=>?_);have v:=W M c r l b n m e t o f u p (g.trans B) G;cbv;exact v
  have S:bt 161 bz h L (.slice (zsA P) v1 c9) wl:=Th.buf (a.none nj) T;have H:=v8.mono (E.t _);have X:=a.trans E;cbv;refine S.append H (by decide) rfl (by decide) (by omega) X (λHL Ed Iw iw AW g F AD V=>?_);cbv;refine nP (q.mono g) hl D Y V.sl (qm.mono (g.t _)) (λM c r l b n m e t o f u p B G=>?_);have v:=W M c r l b n m e t o f u p (g.trans B) G;cbv;exact v
 intro Z C g8 U;have J:Le h6 C:=by rw[U];exact Le.set g8
 have f8:=(congrFun U Z).trans ae;cbv;intro O I g7 e7;have N:Le C I:=by rw[e7];exact Le.set g7
 have v8:Sl 161 bz I (.slice (zsA Z) 1 1) [⟨xt,xo,xr⟩]:=(bf (s:=bz) (x:=⟨xt,xo,xr⟩) f8 ⟨_,_,_,rfl,R.mono (J.t _)⟩).mono (N.t _);have a:=(Qy.trans J).trans N;have Yg:bt 161 bz h I (.slice (zsA O) 0 0) ([]:List cV):=bt.nil;cbv;refine dt (Q.mono (a.t _)) (by decide) rfl (by decide) (λh0=>?_) (λP c9 L nj _ E Th=>?_)
 .have K:wl=[]:=kh (by omega);have S:bt 161 bz h I (.slice (zsA O) 0 0) wl:=by rw[K];exact Yg
  have H:=v8;have X:=a;cbv;refine S.append H (by decide) rfl (by decide) (by omega) X (λHL Ed Iw iw AW g F AD V=>?_);cbv;refine nP (q.mono g) hl D Y V.sl (qm.mono (g.t _)) (λM c r l b n m e t o f u p B G=>?_);have v:=W M c r l b n m e t o f u p (g.trans B) G;cbv;exact v
 have S:bt 161 bz h L (.slice (zsA P) v1 c9) wl:=Th.buf (a.none nj) T;have H:=v8.mono (E.t _);have X:=a.trans E;cbv;refine S.append H (by decide) rfl (by decide) (by omega) X (λHL Ed Iw iw AW g F AD V=>?_);cbv;refine nP (q.mono g) hl D Y V.sl (qm.mono (g.t _)) (λM c r l b n m e t o f u p B G=>?_);have v:=W M c r l b n m e t o f u p (g.trans B) G;cbv;exact v
theorem Ir:∀a b:List UInt8,Lib.compareBytes a b=0↔a=b
 | [],[]=>by simp[Lib.compareBytes]
 | [],y::b=>by simp[Lib.compareBytes]
 |x::a,[]=>by simp[Lib.compareBytes]
 |x::a,y::b=>by
  unfold Lib.compareBytes;by_cases h:x<y
  .simp[h];intro e;subst e;exact absurd h (kXw x)
  by_cases c:y<x
  .simp[h,c];intro e;subst e;exact absurd c (kXw x)
  have:x=y:=by rw[kQk]at h c;exact kQA.1 (by omega)
  subst this;simp[h,Ir a b]
theorem MA:∀a b:List UInt8,Lib.compareBytes a b=- Lib.compareBytes b a
 | [],[]=>by simp[Lib.compareBytes]
 | [],y::b=>by simp[Lib.compareBytes]
 |x::a,[]=>by simp[Lib.compareBytes]
 |x::a,y::b=>by
  unfold Lib.compareBytes;by_cases h:x<y
  .have c:¬y<x:=by rw[kQk]at h |-;omega
   simp[h,c]
  by_cases c:y<x
  .simp[h,c]
  simp[h,c,MA a b]
theorem mi{a b:ByteArray}(h:dA a b=0):a=b:=by
 unfold dA at h;have:=(Ir _ _).1 h;cases a with
 |mk a=>
  cases b with
  |mk b=>congr 1;exact Array.ext' this
theorem wJ(a b:ByteArray):dA a b=- dA b a:=by unfold dA;exact MA _ _
def yX:ByteArray:=⟨#[116,100]⟩
structure TW(T:List ca):Prop where
 gL:T.Pairwise (λa b=>dA a.S.name b.S.name<0)
 ok:∀t∈T,(t.S.name≠yX->t.S.bB=bG/\t.S.key=0)/\SO t.rows/\t.S.name.size<=12/\(t.S.name=yX->t.rows=[])
 le:T.length<=8
theorem tH{T:List ca}(h:T.Pairwise (λa b=>dA a.S.name b.S.name<0)){t:ca}(c:T[i]? =some t):dC (aS T t.S.name)=i/\iQ (aS T t.S.name)=true:=by
 have v:=(ff.1 c).1;have hl:(aS T t.S.name).length=T.length:=by simp[aS]
 have get:∀j x,T[j]? =some x->(aS T t.S.name).getD j 0=dA x.S.name t.S.name:=λj x hx=>by
  rw[yz];unfold aS;rw[kS,hx];rfl
 refine bXY _ i (by omega) (by rw[get i t c];exact xH _) (λj d=>?_) (λj d L=>?_)
 .obtain⟨x,hx⟩:=cB T j;rw[get j x hx];have:=wL.1 h j i (ff.1 hx).1 v d;rw[(ff.1 hx).2,(ff.1 c).2]at this;exact this
 obtain⟨x,hx⟩:=cB T j;rw[get j x hx];have:=wL.1 h i j v (ff.1 hx).1 d;rw[(ff.1 hx).2,(ff.1 c).2]at this;rw[wJ]at this;omega
theorem KI{T:List ca}(h:∀t∈T,t.S.name≠nm):iQ (aS T nm)=false:=by
 cases b:iQ (aS T nm)with
 |false=>rfl
 |true=>
  unfold iQ at b;obtain⟨d,a⟩:=lA b;obtain⟨t,c⟩:=aJ (xs:=T) (i:=dC (aS T nm)) (by simpa[aS]using d);have:(aS T nm).getD (dC (aS T nm)) 0=dA t.S.name nm:=by
   conv=>lhs;unfold aS
   rw[yz,kS];rw[show T.map (λx=>dA x.S.name nm)=aS T nm from rfl,c];rfl
  rw[this]at a;exact absurd (mi a) (h t (cK c))
theorem tG{T:List ca}(h:T.Pairwise (λa b=>dA a.S.name b.S.name<0))(q:ur T (λt=>decide (t.S.name=nm)) z):
 (z=-1/\iQ (aS T nm)=false/\∀t∈T,t.S.name≠nm)\/∃i t,aZ z i/\T[i]? =some t/\t.S.name=nm/\dC (aS T nm)=i/\iQ (aS T nm)=true:=by
 rcases q.out with⟨rfl,M⟩|⟨i,t,f,c,p,-⟩
 .refine .inl ⟨rfl,KI (λt c=>?_),λt c=>?_⟩
  .exact kz (M t c)
  exact kz (M t c)
 have n:t.S.name=nm:=lA p;obtain⟨d,e⟩:=tH h c;rw[n]at d e;exact .inr ⟨i,t,f,c,n,d,e⟩
theorem PR{S:tE}(g:S.bB=bG)(e:S.key=0)(h:SO R)(b:fY r\/r.length≠2):SO (bK ⟨S,R⟩ r).1.rows:=by
 rcases b with b|b
 .have i:=b.fits;have A:=b;obtain⟨a,v,rfl,-⟩:=A;obtain⟨p,q⟩:=h.sr.at_ a;rw[kU (S:=S) e h.sr (by rw[g];exact i) q];by_cases f:jM R a p=true
  .rw[if_pos f];exact h
  rw[if_neg f];by_cases c:decide ((R.length:Int)>=200)=true
  .rw[if_pos c];exact h
  rw[if_neg c];have c:R.length<200:=by simp at c;omega
  refine⟨h.sr.ins (v:=v) q (by simpa using f),λo d=>?_,?_⟩
  .rcases wy.1 d with d|d
   .rcases wy.1 d with d|d
    .exact h.ok o (jKk d)
    simp at d;rw[d];exact b
   exact h.ok o (jKd d)
  have:=q.le;simp;omega
 have:eF S.bB r=1:=by
  unfold eF;have e:S.bB.length=2:=by rw[g];rfl
  rw[if_pos (ak (by rw[e];omega))]
 unfold bK;simp only;rw[this];exact h
theorem KD{S:tE}(c:S.key=0)(h:SO R)(a:Int):SO (bE ⟨S,R⟩ ⟨2,a,dZ⟩).1.rows:=by
 obtain⟨p,q⟩:=h.sr.at_ a;rw[kf (S:=S) c h.sr q];by_cases b:jM R a p=true
 .rw[if_pos b];have k:=jG R p;exact⟨h.sr.sub k,λr d=>h.ok r (k.subset d),jKl k.length_le h.le⟩
 rw[if_neg b];exact h
theorem TW.set{T:List ca}(h:TW T){t c:ca}(f:T[i]? =some t)(hd:t.S.name≠yX)(S:c.S=t.S)(r:SO c.rows):TW (T.set i c):=by
 have v:=(ff.1 f).1;refine⟨?_,λx hx=>?_,by rw[nM];exact h.le⟩
 .rw[wL];have e:∀j (g:j<(T.set i c).length),(T.set i c)[j].S=(T[j]'(by simpa using g)).S:=λj g=>by
   rw[kQB];split
   .rename_i e;subst e;rw[S,<-(ff.1 f).2]
   rfl
  intro a b k l Y;rw[e a k,e b l];exact wL.1 h.gL a b _ _ Y
 rcases jKs hx with d|d
 .exact h.ok x d
 have:=h.ok t (cK f);rw[d,S];exact⟨this.1,r,this.2.2.1,λe=>absurd e hd⟩
structure Bp(T:List ca)(x:cV):Prop where
 row:fY x.row
 op:x.op=1\/x.op=2
 at_:∃t∈T,t.S.name=x.table
 nd:x.table≠yX
theorem Bp.map{T a:List ca}{x:cV}(h:Bp T x)(e:a.map (·.S)=T.map (·.S)):Bp a x:=by
 refine⟨h.row,h.op,?_,h.nd⟩;obtain⟨t,c,n⟩:=h.at_;have:t.S∈a.map (·.S):=by rw[e];exact kXv c
 obtain⟨d,C,b⟩:=xz.1 this;exact⟨d,C,by rw[b];exact n⟩
theorem KA{T:List ca}(h:TW T){x:cV}(hx:Bp T x){t:ca}(b:T[i]? =some t)(n:t.S.name=x.table):
 fV T x=T.set i (if x.op=2 then(bK t x.row).1 else(bE t (ux x.row 0)).1)/\TW (fV T x):=by
 obtain⟨f,g⟩:=tH h.gL b;rw[n]at f g;obtain⟨j,d,-⟩:=h.ok t (cK b);have hd:t.S.name≠yX:=by rw[n];exact hx.nd
 obtain⟨k,c⟩:=j hd;have e:fV T x=T.set i (if x.op=2 then(bK t x.row).1 else(bE t (ux x.row 0)).1):=by
  unfold fV;rw[f,g,b];simp only[if_true];by_cases o:x.op=2
  .rw[if_pos (ak o),if_pos o]
  rw[if_neg (by simpa using o),if_neg o,if_pos (by
   obtain⟨a,v,r,-⟩:=hx.row;rw[c,r];rfl),c]
 refine⟨e,?_⟩;rw[e];obtain⟨S,R⟩:=t;by_cases o:x.op=2
 .rw[if_pos o];exact h.set b hd (lG _ _) (PR k c d (.inl hx.row))
 rw[if_neg o];obtain⟨a,v,r,-⟩:=hx.row;rw[r];exact h.set b hd (kR _ _) (KD c d a)
theorem VD{T:List ca}(h:TW T){x:cV}(hx:Bp T x):TW (fV T x):=by obtain⟨t,b,n⟩:=hx.at_;obtain⟨i,a⟩:=rK b;exact(KA h hx a n).2
theorem zY{T:List ca}(h:TW T):∀ {l:List cV},(∀x∈l,Bp T x)->TW (eB T l)
 | [],_=>h
 |x::r,hl=>VD (zY h (λy a=>hl y (jKQ _ a))) ((hl x (by simp)).map (wT T r))
structure hJo where
 w:bZi
 lb:Option Addr
 ln:Nat
 lc:Nat
theorem PQ{c f l:Option Addr}{a e r y s:Nat}(q:RP h b a o c e p f u r l y s d)(hT:TW d.ao)(hl:d.ai.length<=2^30)(hi:d.ai[i]? =some w)(oE:∀x∈w.log,Bp d.ao x)(M:w.log.length<=2^30)
  (hz:aZ z i) {zn:Int}  (ll:aZ zn n)  (hk:cKw h ⟨eB d.ao (w.log.drop (min n w.log.length)),d.ai.set i ⟨w.s,w.log.take (min n w.log.length),w.marks⟩,d.holds,d.waits⟩ k):
 Ct 283 [.agg #[.slice b a o,.slice c e p,.slice f u r,.slice l y s],.int .i64 z,.int .i64 zn] h k:=by
 have eU:=q.ai.len;have iv:=(ff.1 hi).1;have ey:c.isSome=true/\0<=z/\z<(e:Int):=⟨q.ai.bp,hz.ix (by omega)⟩;have dG:=hz.eq;obtain⟨ws,wl,wm⟩:=w;have oE:∀x∈wl,Bp d.ao x:=oE;have M:wl.length<=2^30:=M;have hk:cKw h ⟨eB d.ao (wl.drop (min n wl.length)),d.ai.set i ⟨ws,wl.take (min n wl.length),wm⟩,d.holds,d.waits⟩ k:=hk;refine cg eQM Tryz.func283 λA hA=>?_;cbv;refine⟨ey,?_⟩;cbv;refine q.ai.load hi dG (λcs F=>?_);obtain⟨u1,v1,w1,u2,v2,w2,rfl,ql,qm⟩:=F;have ql:Sl 161 bz h (.slice u1 v1 w1) wl:=ql;have qm:Sl 340 df h (.slice u2 v2 w2) wm:=qm;have aF:=ql.len;obtain⟨I,gQ⟩:∃I:Nat->hJo->ad->Prop,∀m g h',I m g h'=(m<=wl.length/\min n wl.length<=m/\Le h h'/\RP h' g.w.b1 g.w.n1 g.w.c1 g.w.b2 g.w.n2 g.w.c2 g.w.b3 g.w.n3 g.w.c3 g.w.b4 g.w.n4 g.w.c4 ⟨eB d.ao (wl.drop m),d.ai,d.holds,d.waits⟩/\Sl 161 bz h' (.slice g.lb g.ln g.lc) (wl.take m)):=⟨_,λ_ _ _=>rfl⟩;cbv;refine aX.go (G:=hJo) (λg=>[]) (λg=>[(3,[.slice g.w.b1 g.w.n1 g.w.c1,.slice g.w.b2 g.w.n2 g.w.c2,.slice g.w.b3 g.w.n3 g.w.c3,.slice g.w.b4 g.w.n4 g.w.c4]),(6,[.slice none 0 0,.slice none 0 0,.slice none 0 0,.slice none 0 0]),(7,[.int .i64 ws,.slice g.lb g.ln g.lc,.slice u2 v2 w2])])
  (λm g h'=>I m g h') wl.length ⟨⟨b,a,o,c,e,p,f,u,r,l,y,s⟩,u1,v1,w1⟩ ⟨?_,?_,?_⟩ (by rw[gQ];exact⟨kB _,kXT _ _,Le.refl _,by rw[kQF];exact q,by rw[Bk];exact ql⟩) ?_
 .cbv
 .cbv
 .cbv
 intro m g h' hI;rw[gQ]at hI;cbv;obtain⟨rX,qE,H,Z,O⟩:=hI;obtain⟨⟨b,a,o,c,e,p,f,u,r,l,y,s⟩,y1,y2,y3⟩:=g;have Z:RP h' b a o c e p f u r l y s ⟨eB d.ao (wl.drop m),d.ai,d.holds,d.waits⟩:=Z;have O:Sl 161 bz h' (.slice y1 y2 y3) (wl.take m):=O;have uB:y2=m:=by rw[O.len,eA];omega
 have aG:=O.bound;have f1:A .aN .gtr (A .nat y2) zn=decide (n<m):=by have:=ll.eq;rw[bC A,hA.nat,decide_eq_decide];simp only[rz];omega
 have B:TW (eB d.ao (wl.drop m)):=zY hT (λx hx=>oE x (jKd hx));have hS:=wT d.ao (wl.drop m);rw[f1];by_cases ao:n<m
 .obtain⟨x,hx⟩:=cB wl (m-1);have J:=(oE x (cK hx)).map hS;have pV:=Eo (T:=d.ao) hx;rw[show m-1+1=m by omega]at pV;have aB:(wl.take m)[m-1]? =some x:=by rw[qH,if_pos (by omega)];exact hx
  obtain⟨TT,ab⟩:∃T,T=eB d.ao (wl.drop m):=⟨_,rfl⟩;rw[<-ab]at B J pV Z;clear ab hS;obtain⟨xt,xo,xr⟩:=x;have ag:fY xr:=J.row;have aC:=ag;obtain⟨ra,rv,Bt,-⟩:=aC;have tq:xr.length=2:=by rw[Bt];rfl
  have tu:xr[0]? =some ⟨2,ra,dZ⟩:=by rw[Bt];rfl
  have ku:aZ (A .aT .sub .i64 (A .nat y2) 1) (m-1):=by have:=(aZ.nat (A:=A) y2).sub (A:=A) (w:=1) (j:=1) ⟨rfl⟩ (by omega) (by omega);rw[uB]at this |-;exact this
  have aw:=ku.eq;have jC:y1.isSome=true/\0<=A .aT .sub .i64 (A .nat y2) 1/\A .aT .sub .i64 (A .nat y2) 1<(y2:Int):=⟨O.bp,ku.ix (by omega)⟩;have zh:0<=A .aT .sub .i64 (A .nat y2) 1/\A .aT .sub .i64 (A .nat y2) 1<=(y3:Int):=by omega
  have rZ:A .nt (A .aT .sub .i64 (A .nat y2) 1) 0=m-1:=dy (A:=A) ku;have Np:=O.Ht (A:=A) (i:=m-1) (by omega);rw[jKK,jKf (by omega)]at Np;have e1:A .aN .eql xo 1=decide (xo=1):=au A ..;rw[ak ao];cbv;refine⟨jC,?_⟩;cbv;refine O.load aB aw (λcs F=>?_);obtain⟨x1,x2,x3,rfl,sx⟩:=F;have sx:Sl 45 bA h' (.slice x1 x2 x3) xr:=sx;have XN:x2=2:=by rw[sx.len,tq]
  have aD:x1.isSome=true/\(0:Int)<=0/\(0:Int)<(x2:Int):=⟨sx.bp,by omega,by omega⟩;cbv;refine⟨zh,?_⟩;cbv;rw[rZ];refine(wz Z).mono (λv h5 hR=>?_);obtain⟨V,zf,rfl,jb⟩:=hR;have K:=Z.mono V;rcases tG B.gL jb with⟨-,-,qO⟩|⟨kt,t,Oq,N,rW,-,-⟩
  .obtain⟨t,N,rW⟩:=J.at_;exact absurd rW (qO t N)
  have N:TT[kt]? =some t:=N;have rW:t.S.name=xt:=rW;have L:=(KA B J N rW).1;obtain⟨p0,p3,-⟩:=B.ok t (cK N);obtain⟨p1,p2⟩:=p0 (by rw[rW];exact J.nd);obtain⟨⟨X,P,tk,Y⟩,W⟩:=t;have pc:P=bG:=p1;have p2:tk=0:=p2;have p3:SO W:=p3;subst p2;have L:fV TT ⟨xt,xo,xr⟩=TT.set kt (if xo=2 then(bK ⟨⟨X,P,0,Y⟩,W⟩ xr).1 else(bE ⟨⟨X,P,0,Y⟩,W⟩ (ux xr 0)).1):=L;rw[show ux xr 0=⟨2,ra,dZ⟩by rw[Bt];rfl]at L;have an:=(ff.1 N).1;have fh:a=TT.length:=K.ao.len;have FL:b.isSome=true/\0<=zf/\zf<(a:Int):=⟨K.ao.bp,Oq.ix (by omega)⟩;have aA:=Oq.eq;have aH:=B.le;have aq:=sx.mono (V.t _);clear jb;cbv;refine⟨FL,?_⟩;cbv;refine K.ao.load N aA (λcs F=>?_);obtain⟨x4,x5,x6,x7,x8,x9,rfl,s1,s2⟩:=F;have s1:Sl 202 bH h5 (.slice x4 x5 x6) P:=s1;have s2:Sl 46 bF h5 (.slice x7 x8 x9) W:=s2;cbv;rw[e1];by_cases AK:xo=1
  .rw[ak AK];obtain⟨D,U⟩:∃D,bE ⟨⟨X,P,0,Y⟩,W⟩ ⟨2,ra,dZ⟩=D:=⟨_,rfl⟩;have R:D.1=⟨⟨X,P,0,Y⟩,D.1.rows⟩:=Ac (by rw[<-U];exact kR _ _);rw[if_neg (by omega),U,R]at L;cbv;refine⟨aD,?_⟩;cbv;refine aq.load tu (n:=0) rfl (λcs F=>?_);have F:cs=[.int .i64 2,.int .i64 ra,.string dZ]:=F;subst F;cbv;refine PV s2 p3.sr p3.le ra U (λh6 r1 r2 r3 r4 r5 r6 E EV _=>?_);have C:=K.mono E;cbv;refine IV C (by show TT.length<=2^30;omega) Oq an (s1.mono (E.t _)) EV (λS b a o c e p f u r l y s l7 Q=>?_);have q7:RP S b a o c e p f u r l y s ⟨eB d.ao (wl.drop (m-1)),d.ai,d.holds,d.waits⟩:=by rw[pV,L];exact Q
   clear Q;have Oi:=(V.trans E).trans l7;have jT:I (m-1) ⟨⟨b,a,o,c,e,p,f,u,r,l,y,s⟩,A .cut y1 0 (A .nat y3) 3,m-1,y3⟩ S:=by rw[gQ];exact⟨by omega,by omega,H.trans Oi,q7,Np.mono (Oi.t _)⟩
   cbv;refine⟨m-1,⟨⟨b,a,o,c,e,p,f,u,r,l,y,s⟩,A .cut y1 0 (A .nat y3) 3,m-1,y3⟩,by omega,by constructor<;>cbv,jT⟩
  rw[bn AK];have ax:xo=2:=by
   rcases J.op with h1|h1
   .exact absurd h1 AK
   exact h1
  obtain⟨D,U⟩:∃D,bK ⟨⟨X,bG,0,Y⟩,W⟩ xr=D:=⟨_,rfl⟩;have R:D.1=⟨⟨X,P,0,Y⟩,D.1.rows⟩:=by rw[pc];exact Ac (by rw[<-U];exact lG _ _)
  rw[if_pos ax]at L;rw[show bK ⟨⟨X,P,0,Y⟩,W⟩ xr=D by rw[pc];exact U,R]at L;cbv;refine Xa (by rw[<-pc];exact s1) s2 p3 aq (.inl ag) U (λh6 r1 r2 r3 E EV=>?_);have C:=K.mono E;cbv;refine IV C (by show TT.length<=2^30;omega) Oq an (s1.mono (E.t _)) EV (λS b a o c e p f u r l y s l7 Q=>?_);have q7:RP S b a o c e p f u r l y s ⟨eB d.ao (wl.drop (m-1)),d.ai,d.holds,d.waits⟩:=by rw[pV,L];exact Q
  clear Q;have Oi:=(V.trans E).trans l7;have jT:I (m-1) ⟨⟨b,a,o,c,e,p,f,u,r,l,y,s⟩,A .cut y1 0 (A .nat y3) 3,m-1,y3⟩ S:=by rw[gQ];exact⟨by omega,by omega,H.trans Oi,q7,Np.mono (Oi.t _)⟩
  cbv;refine⟨m-1,⟨⟨b,a,o,c,e,p,f,u,r,l,y,s⟩,A .cut y1 0 (A .nat y3) 3,m-1,y3⟩,by omega,by constructor<;>cbv,jT⟩
 have Dq:m=min n wl.length:=by omega
 rw[bn ao];subst Dq;cbv;intro n5 h5 g5 e5;have V:Le h' h5:=by rw[e5];exact Le.set g5
 have fB:bt 161 bz h' h5 (.slice (zsA n5) 0 0) ([]:List cV):=bt.nil;cbv;refine fB.append (O.mono (V.t _)) (by decide) rfl (by decide) (by omega) V (λm6 b6 c6 h6 aE E t6 k6 al=>?_);rw[np]at al;have C:=Z.mono E;cbv;refine nP C hl hz iv al.sl (qm.mono ((H.trans E).t _)) (λS b a o c e p f u r l y s l7 q7=>?_);have ay:=hk S b a o c e p f u r l y s ((H.trans E).trans l7) q7;cbv;exact ay
structure SI(d:DB):Prop where
 tw:TW d.ao
 gL:d.ai.Pairwise (λa b=>a.s<b.s)
 ov:∀w∈d.ai,0<=w.s/\w.s<8
 log:∀w∈d.ai,(∀x∈w.log,Bp d.ao x)/\w.log.length<=60
 holds:d.holds.length<=2^17
 waits:d.waits.length<=2^17
theorem lW{l:List eY}(h:l.Pairwise (λa b=>a.s<b.s))(r:∀w∈l,0<=w.s/\w.s<8):l.length<=8:=by have:=yQ h r;omega
theorem sk{l:List eY}(h:l.Pairwise (λa b=>a.s<b.s))(e:l[i]? =some w):∀(j:Nat) (y:eY),l[j]? =some y->y.s=w.s->j=i:=by
 intro j y f g;have d:=ff.1 f;have C:=ff.1 e;rcases kQm j i with c|c|c
 .have:=wL.1 h j i d.1 C.1 c;rw[d.2,C.2]at this;omega
 .exact c
 have:=wL.1 h i j C.1 d.1 c;rw[d.2,C.2]at this;omega
theorem oq(h:SI d)(g:-2^63<=s/\s<2^63)(q:ur d.ai (λw=>decide (w.s=s)) z):
 (z=-1/\iQ (bW d.ai s)=false)\/∃i w,aZ z i/\d.ai[i]? =some w/\w.s=s/\dC (bW d.ai s)=i/\iQ (bW d.ai s)=true:=by
 rcases q.out with⟨rfl,M⟩|⟨i,w,j,a,p,-⟩
 .refine .inl ⟨rfl,?_⟩;cases e:iQ (bW d.ai s)with
  |false=>rfl
  |true=>obtain⟨w,a,f⟩:=(lF h.gL h.ov g).1 e;have:=M w a;rw[ak f]at this;cases this
 have n:w.s=s:=lA p;obtain⟨b,c⟩:=PJ h.gL h.ov a;rw[n]at b c;exact .inr ⟨i,w,j,a,n,b,c⟩
theorem yU{c:Option Addr}{f g r l t:Nat}(q:RP h b o f a p g c r l e t m d)(I:SI d)(s:Int)(R:-2^63<=s/\s<2^63){D:DB×Int}(v:cN d s=D)(C:RK h D.1 D.2 k):
 Ct 165 [.agg #[.slice b o f,.slice a p g,.slice c r l,.slice e t m],.int .i64 s] h k:=by
 obtain⟨A,hA⟩:=Ar.ex;have uC:=lW I.gL I.ov;have J:A .aN .lss (-1) 0=true:=by rw[aR A];rfl
 refine fz eZK A Tryz.func165 ?_;cbv;refine yi q s (λz F=>?_);rcases oq I R F with⟨rfl,O⟩|⟨i,w,E,hw,T,e1,K⟩
 .have Q:D=(d,2):=by rw[<-v];unfold cN;rw[O];rfl
  subst Q;have u:=C h b o f a p g c r l e t m (Le.refl _) q;cbv;rw[J];cbv;exact u
 have iv:=(ff.1 hw).1;have oE:=I.log w (cK hw);have H:=sk I.gL hw;have Q:D=(⟨eB d.ao w.log,d.ai.take i++d.ai.drop (i+1),bR d.holds s,bR d.waits s⟩,0):=by rw[<-v];unfold cN jE uI xW;rw[K,e1,hw];simp only[if_true];rw[jKM]
 clear v F;subst Q;have U:A .aN .lss z 0=false:=E.yW (A:=A);have bL:∀j y,(d.ai.set i ⟨w.s,w.log.take (min 0 w.log.length),w.marks⟩)[j]? =some y->y.s=s->j=i:=by
  intro j y x P;rw[VS]at x;split at x
  .rename_i N;exact N.symm
  exact H j y x (by rw[P,T])
 have Z:(d.ai.set i ⟨w.s,w.log.take (min 0 w.log.length),w.marks⟩)[i]? =some ⟨w.s,w.log.take (min 0 w.log.length),w.marks⟩:=jKx (by omega);have M:(d.ai.set i ⟨w.s,w.log.take (min 0 w.log.length),w.marks⟩).take i=d.ai.take i:=by rw[List.take_set_of_le (kB _)]
 have L:(d.ai.set i ⟨w.s,w.log.take (min 0 w.log.length),w.marks⟩).drop (i+1)=d.ai.drop (i+1):=by rw[List.drop_set_of_lt (by omega)]
 have V:=I.holds;have S:=I.waits;cbv;rw[U];cbv;refine PQ q I.tw (by omega) hw oE.1 (by omega) E (zn:=0) (n:=0) ⟨rfl⟩ (λh5 f1 p1 g1 f2 p2 g2 f3 p3 g3 f4 p4 g4 W q5=>?_);cbv;refine Zb q5 (by show(d.ai.set i _).length<=_;rw[nM];omega) (by show d.holds.length<=_;omega) (by show d.waits.length<=_;omega) Z T bL (λB b o f a p g c r l e t m Y G=>?_);have X:RP B b o f a p g c r l e t m ⟨eB d.ao w.log,d.ai.take i++d.ai.drop (i+1),bR d.holds s,bR d.waits s⟩:=by
  rw[<-M,<-L];have:w.log.drop (min 0 w.log.length)=w.log:=by rw[Nat.zero_min];rfl
  rw[this]at G;exact G
 have u:=C B b o f a p g c r l e t m (W.trans Y) X;cbv;exact u
end Go.S
