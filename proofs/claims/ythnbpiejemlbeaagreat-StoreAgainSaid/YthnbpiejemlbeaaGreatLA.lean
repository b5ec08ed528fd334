import Derived.Test.YthnbpiejemlbeaaGreatKA
set_option linter.all false
set_option maxRecDepth 100000
set_option maxHeartbeats 8000000
namespace Go.S
open Go.Sx Go.Proofs
variable {only:Bool}{nm:ByteArray}{d:DB}{key s z:Int}{R:List Row}{H:List bZ}{cols:List jR}{F c i m n o p sn u:Nat}{a b e:Option Addr}{r:Row}{k:Value->ad->Prop}{h:ad}{w:eJ}
theorem tE(a b:Int)(e:k (.zI (js a b)) h):Ct 367 [.zI a,.zI b] h k:=by
 obtain⟨A,l⟩:=Ar.ex;obtain⟨c,d⟩:∃c,c=js a b:=⟨_,rfl⟩;rw[<-d]at e;generalize e1:A .aQ .lss a b=u;generalize f:A .aQ .gtr a b=j;have g:=e1;have i:=f;rw[aV A]at g;rw[bF A]at i;unfold js at d;rw[g,i]at d;refine kh eQO A Tryz.func367 ?_;cbv;rw[e1];cases u with
 |true=>have d:c=-1:=d;subst d;cbv;exact e
 |false=>
  cbv;rw[f];cases j with
  |true=>have d:c=1:=d;subst d;cbv;exact e
  |false=>have d:c=0:=d;subst d;cbv;exact e
theorem GQ(a b:Int)(s t:ByteArray)(d:∀z,z=js a b->k (.zI z) h):Ct 347 [.agg #[.zI 2,.zI a,.string s],.agg #[.zI 2,.zI b,.string t]] h k:=by
 obtain⟨A,f⟩:=Ar.ex;have g:A .aQ .neq 2 2=false:=by rw[aJ A];rfl
 have i:A .aQ .neq 2 3=true:=by rw[aJ A];rfl
 have d:=d _ rfl;generalize e:js a b=c at d;refine kh bQZ A Tryz.func347 ?_;cbv;rw[g];cbv;rw[i];cbv;refine tE a b ?_;rw[e];cbv;exact d
theorem Ze{xs:List Int}(q:Sl 3 dK h (.slice b n c) xs)(x:Int)(f:∀t,t=decide (x∈xs)->k (.bool t) h):Ct 343 [.slice b n c,.zI x] h k:=by
 have l:=q.len;have E:=q.bound;refine cB eXg Tryz.func343 λA s=>?_;cbv;refine ba.gz (G:=Int) (λg=>[(5,.v (.zI g))]) (λ_=>[]) (λm g h'=>h'=h/\∃i,bg g i/\m=n-i/\i<=n/\∀j,j<i->∀y,xs[j]? =some y->y≠x) n 0 ⟨rfl,0,⟨rfl⟩,ip,ip,λj e=>absurd e ip⟩ ?_
 intro m g h' o;cbv;obtain⟨rfl,i,z,B,w,R⟩:=o;refine bm (λa=>?_) (λa=>?_)
 .have Z:=z.lt a;clear a;obtain⟨y,p⟩:=cK xs i;have Y:b.isSome=true/\0<=g/\g<(n:Int):=⟨q.bu,z.ix Z⟩;have I:=z.eq;have O:=z.succ (A:=A);have u:A .aQ .eql y x=decide (y=x):=by rw[au A]
  cbv;refine⟨Y,?_⟩;cbv;refine q.load p I (λcs r=>?_);have r:cs=[.zI y]:=r;subst r;cbv;rw[u];by_cases P:y=x
  .have d:=f true gg;rw[kS P];cbv;exact d
  rw[kQW P];cbv;refine zqn (n-(i+1)) _ ip ⟨rfl,i+1,O,rfl,ip,λj e F v=>?_⟩
  grind
 have D:=z.ge a;have d:=f false (by
  rw[eq_comm];refine kQW (λC=>?_);obtain⟨j,e⟩:=kXT C
  grind)
 cbv;exact d
theorem uR(s1 s2:Int)(c d:ByteArray)(x e:Bool)(b:∀t,t=eE ⟨s1,c,x⟩ ⟨s2,d,e⟩->k (.bool t) h):Ct 340 [.agg #[.zI s1,.string c,.bool x],.agg #[.zI s2,.string d,.bool e]] h k:=by
 obtain⟨A,j⟩:=Ar.ex;have f:A .aQ .neq s1 s2=decide (s1≠s2):=aJ A ..;have g:A .lu .eql c d=decide (c=d):=eV A ..;unfold eE at b;simp only at b;refine kh eXj A Tryz.func340 ?_;cbv;rw[f];generalize decide (s1≠s2)=u at *;generalize decide (c=d)=i at *;cases u with
 |false=>have a:=b false rfl;cbv;exact a
 |true=>
  cbv;rw[g];cases i with
  |false=>have a:=b false rfl;cbv;exact a
  |true=>
   cbv;cases x with
   |true=>have a:=b true rfl;cbv;exact a
   |false=>have a:=b e io;cbv;exact a
theorem yU{f g:Option Addr}{l v r B t:Nat}(q:RP h b u l e n p f v r g B t d)(s:Int)(E:∀z,uV d.ai (λw=>decide (w.s=s)) z->k (.zI z) h):
 Ct 270 [.agg #[.slice b u l,.slice e n p,.slice f v r,.slice g B t],.zI s] h k:=by
 have F:=q.ai.len;have M:=q.ai.bound;refine cB eZt Tryz.func270 λA J=>?_;cbv;refine ba.gz (G:=Int) (λz=>[(5,.v (.zI z))]) (λ_=>[(2,[.slice b u l,.slice e n p,.slice f v r,.slice g B t])]) (λm z h'=>∃i:Nat,bg z i/\m=n-i/\i<=n/\h'=h/\∀j,j<i->∀y,d.ai[j]? =some y->decide (y.s=s)=false) n 0 ⟨0,⟨rfl⟩,ip,ip,rfl,λj D=>absurd D ip⟩ ?_
 intro m z h' I;cbv;obtain⟨i,a,L,K,rfl,R⟩:=I;refine bm (λc=>?_) (λc=>?_)
 .have Z:=a.lt c;clear c;cbv;obtain⟨x,hx⟩:=cK d.ai i;refine⟨⟨q.ai.bu,a.ix Z⟩,?_⟩;cbv;refine q.ai.cI hx a.eq (o:=0) (m:=1) dl (λcs H=>?_);obtain⟨_,_,_,_,_,_,rfl,-,-⟩:=H;cbv;rw[au A];by_cases C:x.s=s
  .rw[kS C];have hR:=E z ⟨.inr ⟨i,x,a,hx,iu C,R⟩⟩;cbv;exact hR
  rw[kQW C];cbv;refine zqn (n-(i+1)) _ ip ⟨i+1,a.succ (A:=A),rfl,ip,rfl,?_⟩
  grind
 have N:=a.ge c;have hR:=E (-1) ⟨.inl ⟨rfl,λx hx=>by
  obtain⟨j,D⟩:=kXT hx
  grind⟩⟩
 cbv;exact hR
theorem WV{x:bZ}(hx:H[i]? =some x)(h:decide (x.s≠s)=true):bX (H.take (i+1)) s=bX (H.take i) s++[x]:=by
 rw[kJG,hx]
 grind [bX]
theorem TL{x:bZ}(hx:H[i]? =some x)(h:decide (x.s≠s)=false):bX (H.take (i+1)) s=bX (H.take i) s:=by
 rw[kJG,hx]
 grind [bX]
theorem jb(q:Sl 422 bC h (.slice b n c) H)(Y:n<=2^38)(s:Int)(P:∀h' e n' c',Le h h'->bA 422 bC h h' (.slice e n' c') (bX H s)->k (.slice e n' c') h'):
 Ct 341 [.slice b n c,.zI s] h k:=by
 have y:=q.len;refine cB eXi Tryz.func341 λA V=>?_;cbv;refine ba.go (G:=Int×Option Addr×Nat×Nat) (λg=>[(6,.v (.zI g.1)),(5,.v (.slice g.2.1 g.2.2.1 g.2.2.2))]) (λ_=>[])
  (λk g h'=>∃i:Nat,bg g.1 i/\k=n-i/\i<=n/\Le h h'/\bA 422 bC h h' (.slice g.2.1 g.2.2.1 g.2.2.2) (bX (H.take i) s)) n (0,none,0,0) ⟨?_,?_,?_⟩ ⟨0,⟨rfl⟩,ip,ip,Le.refl _,bA.nil⟩ ?_
 .cbv
 .cbv
 .cbv
 intro k g h' N;cbv;obtain⟨i,d,U,W,l,r⟩:=N;obtain⟨z,j,f,p⟩:=g;have d:bg z i:=d;have r:bA 422 bC h h' (.slice j f p) (bX (H.take i) s):=r;refine bm (λt=>?_) (λt=>?_)
 .have D:=d.lt t;clear t;obtain⟨⟨xs,u,v⟩,hx⟩:=cK H i;have L:b.isSome=true/\0<=z/\z<(n:Int):=⟨q.bu,d.ix D⟩;have S:A .aQ .neq xs s=decide (xs≠s):=by rw[aJ A]
  have C:=WV (s:=s) hx;have w0:=TL (s:=s) hx;have T:f<=i:=by
   have:=r.sl.len;rw[this];refine kXj (Dg _ _) ?_
   grind
  have I:=d.eq;have O:=d.succ (A:=A);cbv;refine⟨L,?_⟩;cbv;refine(q.mono (l.t _)).cI hx I (o:=0) (m:=1) dl (λcs a=>?_);have a:cs=[.zI xs,.string u,.bool v]:=a;subst a;cbv;rw[S];cases e1:decide (xs≠s)with
  |true=>
   have C:=C e1;cbv;refine⟨L,?_⟩;cbv;refine(q.mono (l.t _)).load hx I (λcs a=>?_);have a:cs=[.zI xs,.string u,.bool v]:=a;subst a;cbv;intro R J M w;have B:Le h' J:=zqs w M
   have F:=zqt w;cbv;refine(r.mono (B.t _)).append (bh (s:=bC) F (x:=⟨xs,u,v⟩) rfl) dl rfl dl ip (l.trans B) (λm e c' K X Q t3 k3 yL=>?_);have Z:bA 422 bC h K (.slice e m c') (bX (H.take (i+1)) s):=gg
   cbv;refine zqn (n-(i+1)) (_,e,m,c') ip ⟨i+1,O,rfl,ip,Q,Z⟩
  |false=>
   have w0:=w0 e1;have Z:bA 422 bC h h' (.slice j f p) (bX (H.take (i+1)) s):=gg
   cbv;refine zqn (n-(i+1)) (_,j,f,p) ip ⟨i+1,O,rfl,ip,l,Z⟩
 have mw:=d.ge t;have E:=P h' j f p l gg;cbv;exact E
theorem aXn{C:Option Addr}{E D:Nat}(q:Sl 46 bK h (.slice b n c) R)(hR:SR R)(a:Int)(s:ByteArray)
 (w:∀z p,bg z p->At R a p->k (.zI z) h):Ct 346 [.agg #[.string nm,.slice C E D,.zI 0,.bool only,.slice b n c],.agg #[.zI 2,.zI a,.string s]] h k:=by
 have x:=q.len;have kE:=q.bound;refine cB eXe Tryz.func346 λA hA=>?_;cbv;refine ba.gz (G:=Int) (λz=>[(5,.v (.zI z))]) (λ_=>[(2,[.string nm,.slice C E D,.zI 0,.bool only,.slice b n c]),(3,[.zI 2,.zI a,.string s])]) (λm z h'=>∃i:Nat,bg z i/\m=n-i/\i<=n/\h'=h/\∀j r,j<i->R[j]? =some r->kN r<a) n 0 ⟨0,⟨rfl⟩,ip,ip,rfl,λj r d=>absurd d ip⟩ ?_
 intro m z h' P;cbv;obtain⟨i,e,hm,hi,rfl,u⟩:=P;have F:A .aQ .lss z (A .nat n)=decide (i<n):=e.zQ (bg.nat n);rw[F];by_cases l:i<n
 .obtain⟨r,O⟩:=cK R i;obtain⟨f,rv,X⟩:=hR.form r (kQR O);have W:kN r=f:=by rw[X];rfl
  have T:r.length=2:=by rw[X];rfl
  have U:r[0]? =some ⟨2,f,dQ⟩:=by rw[X];rfl
  have L:b.isSome=true/\0<=z/\z<(n:Int):=⟨q.bu,e.ix l⟩;have I:=e.eq;have K:=e.succ (A:=A);have J:∀c,A .aQ .lss c 0=decide (c<0):=λc=>aV A ..;rw[kS l];cbv;refine⟨L,?_⟩;cbv;refine q.load O I (λcs g=>?_);obtain⟨Y,rfl,H⟩:=g;obtain⟨S,y,r3,rfl⟩:=H.form;have Zx:y=2:=by rw[H.len,T]
  have N:S.isSome=true/\(0:Int)<=0/\(0:Int)<(y:Int):=⟨H.bu,ip,ip⟩;cbv;refine⟨N,?_⟩;cbv;refine H.load U (n:=0) rfl (λcs g=>?_);have g:cs=[.zI 2,.zI f,.string dQ]:=g;subst g;cbv;refine GQ f a _ s (λV Q=>?_);have t:decide (V<0)=decide (f<a):=by grind [xC]
  clear Q;cbv;rw[J,t];by_cases Z:f<a
  .rw[kS Z];cbv;refine zqn (n-(i+1)) _ ip ⟨i+1,K,rfl,ip,rfl,λj M d B=>?_⟩
   grind
  have o:=w z i e ⟨ip,λj M d B=>u j M d B,λj M d B=>by
   rcases Nat.eq_or_lt_of_le d with v|v
   .grind
   have h4:=kJJ.1 hR.gi i j ip (HH.1 B).1 v
   grind⟩
  rw[kQW Z];cbv;exact o
 have o:=w z i e ⟨ip,λj M d B=>u j M d B,λj M d B=>by
  grind⟩
 rw[kQW l];cbv;exact o
theorem VK(a:Int)(l:k (.zI 0) h):Ct 353 [.agg #[.zI 2,.zI a,.string dQ]] h k:=by
 obtain⟨A,b⟩:=Ar.ex;have e1:A .aQ .lss 2 0=false:=by rw[aV A];rfl
 have e:A .aQ .gtr 2 3=false:=by rw[bF A];rfl
 have c:A .aQ .eql 2 0=false:=by rw[au A];rfl
 have d:A .aQ .eql 2 1=false:=by rw[au A];rfl
 have f:A .aQ .eql 2 2=true:=by rw[au A];rfl
 have g:A .aQ .eql 2 3=false:=by rw[au A];rfl
 have i:A .lu .neq ⟨#[]⟩ ⟨#[]⟩=false:=by rw[b.lu];simp[Go.Sx.lu]
 have j:A .aQ .gtr (A .lW ⟨#[]⟩) 60=false:=by rw[b.lW,bF A];rfl
 refine kh Oi A Tryz.func353 ?_;cbv;rw[e1];cbv;rw[e];cbv;rw[c];cbv;rw[d];cbv;rw[f];cbv;rw[i];cbv;rw[g];cbv;rw[j];cbv;exact l
theorem VJ(j:k (.zI 0) h):Ct 353 [.agg #[.zI 0,.zI 0,.string dQ]] h k:=by
 obtain⟨A,a⟩:=Ar.ex;have e1:A .aQ .lss 0 0=false:=by rw[aV A];rfl
 have e:A .aQ .gtr 0 3=false:=by rw[bF A];rfl
 have b:A .aQ .eql 0 0=true:=by rw[au A];rfl
 have Q:A .aQ .neq 0 0=false:=by rw[aJ A];rfl
 have c:A .aQ .eql 0 1=false:=by rw[au A];rfl
 have d:A .aQ .eql 0 2=false:=by rw[au A];rfl
 have f:A .aQ .eql 0 3=false:=by rw[au A];rfl
 have g:A .lu .neq ⟨#[]⟩ ⟨#[]⟩=false:=by rw[a.lu];simp[Go.Sx.lu]
 have i:A .aQ .gtr (A .lW ⟨#[]⟩) 60=false:=by rw[a.lW,bF A];rfl
 refine kh Oi A Tryz.func353 ?_;cbv;rw[e1];cbv;rw[e];cbv;rw[b];cbv;rw[Q];cbv;rw[g];cbv;rw[c];cbv;rw[d];cbv;rw[f];cbv;rw[i];cbv;exact j
theorem VH(s:ByteArray)(j:s.size<=60)(i:k (.zI 0) h):Ct 353 [.agg #[.zI 3,.zI 0,.string s]] h k:=by
 obtain⟨A,g⟩:=Ar.ex;have e1:A .aQ .lss 3 0=false:=by rw[aV A];rfl
 have e:A .aQ .gtr 3 3=false:=by rw[bF A];rfl
 have a:A .aQ .eql 3 0=false:=by rw[au A];rfl
 have Q:A .aQ .neq 0 0=false:=by rw[aJ A];rfl
 have b:A .aQ .eql 3 1=false:=by rw[au A];rfl
 have c:A .aQ .eql 3 2=false:=by rw[au A];rfl
 have d:A .aQ .eql 3 3=true:=by rw[au A];rfl
 have f:A .aQ .gtr (A .lW s) 60=false:=by rw[g.lW,bF A];grind
 refine kh Oi A Tryz.func353 ?_;cbv;rw[e1];cbv;rw[e];cbv;rw[a];cbv;rw[b];cbv;rw[c];cbv;rw[d];cbv;rw[Q];cbv;rw[f];cbv;exact i
theorem aQt{s d:Nat}(g:Sl 202 bJ h (.slice a s d) cols)(q:Sl 45 bG h (.slice b n c) r)(V:r.length≠cols.length)(f:k (.zI 1) h):
 Ct 344 [.agg #[.string nm,.slice a s d,.zI key,.bool only],.slice b n c] h k:=by
 obtain⟨A,e⟩:=Ar.ex;have e1:A .aQ .neq (A .nat n) (A .nat s)=true:=by have i:=q.len;have j:=g.len;rw[e.nat,aJ A];grind
 refine kh VW A Tryz.func344 ?_;cbv;rw[e1];cbv;exact f
theorem bQg{j:Option Addr}{w:Nat}(e:Sl 202 bJ h (.slice j w u) bI)(q:Sl 45 bG h (.slice b n c) r)(p:gC r)(B:k (.zI 0) h):
 Ct 344 [.agg #[.string nm,.slice j w u,.zI key,.bool only],.slice b n c] h k:=by
 obtain⟨A,i⟩:=Ar.ex;obtain⟨a,v,rfl,F,-⟩:=p;have D:n=2:=q.len;have W:w=2:=e.len;subst D W;have e1:A .aQ .neq (A .nat 2) (A .nat 2)=false:=by rw[aJ A];simp
 have L:A .aQ .lss 0 (A .nat 2)=true:=by rw[i.nat,aV A];rfl
 have M:A .aQ .lss 1 (A .nat 2)=true:=by rw[i.nat,aV A];rfl
 have O:A .aQ .lss 2 (A .nat 2)=false:=by rw[i.nat,aV A];rfl
 have a1:A .aX .add .i64 0 1=1:=by rw[i.aX];rfl
 have a2:A .aX .add .i64 1 1=2:=by rw[i.aX];rfl
 have Y:A .aQ .neq 0 0=false:=by rw[aJ A];rfl
 have Q:A .aQ .eql 2 0=false:=by rw[au A];rfl
 have y:A .aQ .eql 0 0=true:=by rw[au A];rfl
 have Z:A .aQ .eql 3 0=false:=by rw[au A];rfl
 have X:A .aQ .neq 2 2=false:=by rw[aJ A];rfl
 have T:A .aQ .neq 3 3=false:=by rw[aJ A];rfl
 have J:A .not true=false:=by rw[i.not];rfl
 have l:([⟨2,a,dQ⟩,v]:Row)[0]? =some ⟨2,a,dQ⟩:=rfl;have f:([⟨2,a,dQ⟩,v]:Row)[1]? =some v:=rfl;obtain⟨r,p⟩:∃r:Row,r=[⟨2,a,dQ⟩,v]:=⟨_,rfl⟩;rw[<-p]at q l f;have x:bI[0]? =some ⟨nA,2,false⟩:=rfl;have t:bI[1]? =some ⟨⟨#[98]⟩,3,true⟩:=rfl;obtain⟨P,C⟩:∃c,c=bI:=⟨_,rfl⟩;rw[<-C]at e x t;have H:b.isSome=true/\(0:Int)<=0/\(0:Int)<((2:Nat):Int):=⟨q.bu,ip,ip⟩;have V:b.isSome=true/\(0:Int)<=1/\(1:Int)<((2:Nat):Int):=⟨q.bu,ip,ip⟩;have K:j.isSome=true/\(0:Int)<=0/\(0:Int)<((2:Nat):Int):=⟨e.bu,ip,ip⟩;have N:j.isSome=true/\(0:Int)<=1/\(1:Int)<((2:Nat):Int):=⟨e.bu,ip,ip⟩;clear p C;refine kh VW A Tryz.func344 ?_;cbv;rw[e1];cbv;refine ba.gz (G:=Int) (λg=>[(5,.v (.zI g))]) (λ_=>[(2,[.string nm,.slice j 2 u,.zI key,.bool only])]) (λm g h'=>h'=h/\((g=0/\m=2)\/(g=1/\m=1)\/(g=2/\m=0))) 2 0 ⟨rfl,.inl ⟨rfl,rfl⟩⟩ ?_
 intro m g h' I;cbv;obtain⟨rfl,z⟩:=I;rcases z with⟨rfl,rfl⟩|⟨rfl,rfl⟩|⟨rfl,rfl⟩
 .rw[L];cbv;refine⟨H,?_⟩;cbv;refine q.load l (n:=0) rfl (λcs d=>?_);have d:cs=[.zI 2,.zI a,.string dQ]:=d;subst d;cbv;refine VK a ?_;cbv;rw[Y];cbv;refine⟨H,?_⟩;cbv;refine q.cI l (n:=0) rfl (o:=0) (m:=1) dl (λcs d=>?_);have d:cs=[.zI 2,.zI a,.string dQ]:=d;subst d;cbv;rw[Q];cbv;refine⟨H,?_⟩;cbv;refine q.cI l (n:=0) rfl (o:=0) (m:=1) dl (λcs d=>?_);have d:cs=[.zI 2,.zI a,.string dQ]:=d;subst d;cbv;refine⟨K,?_⟩;cbv;refine e.cI x (n:=0) rfl (o:=1) (m:=1) dl (λcs d=>?_);have d:cs=[.string nA,.zI 2,.bool false]:=d;subst d;cbv;rw[X];cbv;rw[a1];refine zqn 1 1 ip ⟨rfl,.inr (.inl ⟨rfl,rfl⟩)⟩
 .rw[M];cbv;rcases F with rfl| ⟨s,rfl,E⟩
  .refine⟨V,?_⟩;cbv;refine q.load f (n:=1) rfl (λcs d=>?_);have d:cs=[.zI 0,.zI 0,.string dQ]:=d;subst d;cbv;refine VJ ?_;cbv;rw[Y];cbv;refine⟨V,?_⟩;cbv;refine q.cI f (n:=1) rfl (o:=0) (m:=1) dl (λcs d=>?_);have d:cs=[.zI 0,.zI 0,.string dQ]:=d;subst d;cbv;rw[y];cbv;refine⟨N,?_⟩;cbv;refine e.cI t (n:=1) rfl (o:=2) (m:=1) dl (λcs d=>?_);have d:cs=[.string ⟨#[98]⟩,.zI 3,.bool true]:=d;subst d;cbv;rw[J];cbv;rw[a2];refine zqn 0 2 ip ⟨rfl,.inr (.inr ⟨rfl,rfl⟩)⟩
  refine⟨V,?_⟩;cbv;refine q.load f (n:=1) rfl (λcs d=>?_);have d:cs=[.zI 3,.zI 0,.string s]:=d;subst d;cbv;refine VH s E ?_;cbv;rw[Y];cbv;refine⟨V,?_⟩;cbv;refine q.cI f (n:=1) rfl (o:=0) (m:=1) dl (λcs d=>?_);have d:cs=[.zI 3,.zI 0,.string s]:=d;subst d;cbv;rw[Z];cbv;refine⟨V,?_⟩;cbv;refine q.cI f (n:=1) rfl (o:=0) (m:=1) dl (λcs d=>?_);have d:cs=[.zI 3,.zI 0,.string s]:=d;subst d;cbv;refine⟨N,?_⟩;cbv;refine e.cI t (n:=1) rfl (o:=1) (m:=1) dl (λcs d=>?_);have d:cs=[.string ⟨#[98]⟩,.zI 3,.bool true]:=d;subst d;cbv;rw[T];cbv;rw[a2];refine zqn 0 2 ip ⟨rfl,.inr (.inr ⟨rfl,rfl⟩)⟩
 rw[O];cbv;exact B
theorem At.uniq{a:Int}{b:Nat}(q:At R a p)(d:At R a b):p=b:=by
 rcases kQM p b with h|h|h
 .obtain⟨r,c⟩:=ay (xs:=R) (i:=p) (by have:=d.le;omega);have e:=q.hi p r (qA _) c;have f:=d.lo p r h c;omega
 .exact h
 obtain⟨r,c⟩:=ay (xs:=R) (i:=b) (by have:=q.le;omega);have e:=d.hi b r (qA _) c;have f:=q.lo b r h c;omega
theorem aQq{sb:Option Addr}{sc:Nat}(q:Sl 46 bK h (.slice b n c) R)(hR:SR R)(a:Int)(s:ByteArray)
 (j:∀h' o n' c' p t r,Le h h'->At R a p->t=jO R a p->r=(R[p]?).getD []->(t=true->Sl 45 bG h' (.slice o n' c') r)->k (.tuple #[.slice o n' c',.bool t]) h'):
 Ct 345 [.agg #[.string nm,.slice sb sn sc,.zI 0,.bool only,.slice b n c],.agg #[.zI 2,.zI a,.string s]] h k:=by
 have v:=q.len;have kE:=q.bound;refine cB eXf Tryz.func345 λA T=>?_;cbv;refine aXn q hR a s (λz p l i=>?_);have X:=i.le;have F:A .aQ .eql z (A .nat n)=decide (p=n):=by have:=l.eq;rw[au A,T.nat,decide_eq_decide];grind
 cbv;rw[F];by_cases S:p=n
 .have g:jO R a p=false:=by
   grind [jO]
  have f:=j h none 0 0 p false _ (Le.refl _) i g.symm rfl (λh=>by cases h);rw[kS S];cbv;exact f
 obtain⟨r,O⟩:=cK R p;obtain⟨e,rv,B⟩:=hR.form r (kQR O);have Ko:kN r=e:=by rw[B];rfl
 have y:r.length=2:=by rw[B];rfl
 have uh:r[0]? =some ⟨2,e,dQ⟩:=by rw[B];rfl
 have L:b.isSome=true/\0<=z/\z<(n:Int):=⟨q.bu,l.ix ip⟩;have I:=l.eq;have G:∀c,A .aQ .neq c 0=decide (c≠0):=λc=>aJ A ..;rw[kQW S];cbv;refine⟨L,?_⟩;cbv;refine q.load O I (λcs d=>?_);obtain⟨Y,rfl,H⟩:=d;obtain⟨r1,x,r3,rfl⟩:=H.form;have Zx:x=2:=by rw[H.len,y]
 have N:r1.isSome=true/\(0:Int)<=0/\(0:Int)<(x:Int):=⟨H.bu,ip,ip⟩;cbv;refine⟨N,?_⟩;cbv;refine H.load uh (n:=0) rfl (λcs d=>?_);have d:cs=[.zI 2,.zI e,.string dQ]:=d;subst d;cbv;refine GQ e a _ s (λz2 mf=>?_);have m:decide (z2≠0)=decide (e≠a):=by grind [iS]
 clear mf;cbv;rw[G,m];by_cases Z:e=a
 .have g:jO R a p=true:=by
   grind [jO]
  rw[kQW (by simp[Z])];cbv;intro n6 u P E;have w:Le h u:=zqs E P
  have q6:=q.mono (w.t _);cbv;refine⟨L,?_⟩;cbv;refine q6.load O I (λcs d=>?_);obtain⟨V,rfl,M⟩:=d;obtain⟨u1,u2,u3,rfl⟩:=M.form;have Zr:u2=2:=by rw[M.len,y]
  have K:bA 45 bG h u (.slice (zsA n6) 0 0) ([]:Row):=bA.nil;cbv;refine K.append M dl rfl dl ip w (λm7 C D Q Nz W t7 k7 U=>?_);have J:=U.sl;rw[kZA]at J;have f:=j Q C m7 D p true r W i g.symm (by rw[O];rfl) (λ_=>J);cbv;exact f
 have g:jO R a p=false:=by
  grind [jO]
 have f:=j h none 0 0 p false _ (Le.refl _) i g.symm rfl (λh=>by cases h);rw[kS (iu Z)];cbv;exact f
theorem Yy{V J:Option Addr}{Y w c2:Nat}(H:Sl 202 bJ h (.slice V sn Y) bI)(q:Sl 46 bK h (.slice b n c) R)(hR:SO R)(g:Sl 45 bG h (.slice J w c2) r)(i:gC r\/r.length≠2)
 {D:bS×Int} (y:bL ⟨⟨nm,bI,0,only⟩,R⟩ r=D) 
 (j:∀h' b3 n3 c3,Le h h'->Sl 46 bK h' (.slice b3 n3 c3) D.1.rows->k (.tuple #[.agg #[.string nm,.slice V sn Y,.zI 0,.bool only,.slice b3 n3 c3],.zI D.2]) h'):
 Ct 273 [.agg #[.string nm,.slice V sn Y,.zI 0,.bool only,.slice b n c],.slice J w c2] h k:=by
 obtain⟨A,hA⟩:=Ar.ex;have F:A .aQ .neq 1 0=true:=by rw[aJ A];rfl
 have YN:A .aQ .neq 0 0=false:=by rw[aJ A];rfl
 have m:=q.len;have kE:=q.bound;have ao:=hR.le;rcases i with i|i
 .have hf:=i.fits;have Bm:=i;obtain⟨a,v,X,-⟩:=Bm;have uf:r.length=2:=by rw[X];rfl
  have uh:r[0]? =some ⟨2,a,dQ⟩:=by rw[X];rfl
  have fA:w=2:=by rw[g.len,uf]
  have Nk:J.isSome=true/\(0:Int)<=0/\(0:Int)<(w:Int):=⟨g.bu,ip,ip⟩;have Z:∀p,At R a p->(if jO R a p=true then((⟨⟨nm,bI,0,only⟩,R⟩,7):bS×Int)else if decide ((R.length:Int)>=200)=true then(⟨⟨nm,bI,0,only⟩,R⟩,4)else(⟨⟨nm,bI,0,only⟩,R.take p++[r]++R.drop p⟩,0))=D:=λp o=>by
   rw[<-y,X];rw[X]at hf;exact(jv (S:=⟨nm,bI,0,only⟩) rfl hR.sr hf o).symm
  have f8:A .aQ .geq (A .nat n) 200=decide ((R.length:Int)>=200):=by rw[cF A,hA.nat,m];rfl
  clear y;obtain⟨E,C⟩:∃c,c=bI:=⟨_,rfl⟩;rw[<-C]at Z;refine kh bXb A Tryz.func273 ?_;cbv;refine bQg H g i ?_;clear H C;cbv;rw[YN];cbv;refine⟨Nk,?_⟩;cbv;refine g.load uh (n:=0) rfl (λcs e=>?_);have e:cs=[.zI 2,.zI a,.string dQ]:=e;subst e;cbv;refine aQq q hR.sr a _ (λx b' n' c' p t aB l o ht _ _=>?_);have Z:=Z p o;rw[<-ht]at Z;cbv;cases t with
  |true=>have Z:((⟨⟨nm,E,0,only⟩,R⟩,7):bS×Int)=D:=Z;subst Z;have f:=j x b n c l (q.mono (l.t _));cbv;exact f
  |false=>
   have Z:(if decide ((R.length:Int)>=200)=true then((⟨⟨nm,E,0,only⟩,R⟩,4):bS×Int)else(⟨⟨nm,E,0,only⟩,R.take p++[r]++R.drop p⟩,0))=D:=Z;cbv;rw[f8];generalize decide ((R.length:Int)>=200)=u8 at Z;cases u8 with
   |true=>have Z:((⟨⟨nm,E,0,only⟩,R⟩,4):bS×Int)=D:=Z;subst Z;have f:=j x b n c l (q.mono (l.t _));cbv;exact f
   |false=>
    have Z:((⟨⟨nm,E,0,only⟩,R.take p++[r]++R.drop p⟩,0):bS×Int)=D:=Z;have K:=congrArg (λd:bS×Int=>d.1.rows) Z;have K:R.take p++[r]++R.drop p=D.1.rows:=K;have W:=congrArg (λd:bS×Int=>d.2) Z;have W:0=D.2:=W;rw[<-K,<-W]at j;clear K W Z;have U:=q.mono (l.t _);have FL:=g.mono (l.t _);cbv;refine⟨Nk,?_⟩;cbv;refine FL.load uh (n:=0) rfl (λcs e=>?_);have e:cs=[.zI 2,.zI a,.string dQ]:=e;subst e;cbv;refine aXn U hR.sr a _ (λz G u Lb=>?_);obtain rfl:G=p:=Lb.uniq o;have an:=o.le;have sV:A .nR z 0=G:=dJ (A:=A) u;have yJ:=cS (A:=A) u (n:=n);obtain⟨Qo,Qn⟩:=kE;have fv:0<=z/\z<=(c:Int):=by have:=u.eq;omega
    have ly:0<=z/\z<=(n:Int):=by have:=u.eq;omega
    have Sk:G<=n:=ip
    cbv;intro n6 h6 g6 e6;have l6:Le x h6:=zqs e6 g6
    have q6:=U.mono (l6.t _);have fO:bA 46 bK x h6 (.slice (zsA n6) 0 0) ([]:List Row):=bA.nil;cbv;refine⟨fv,?_⟩;cbv;refine fO.append (q6.tp (A:=A) (s:=bK) (z:=A .nat c) Sk sV sV) dl rfl dl gg l6 (λm7 b7 c7 h7 Nz l7 t7 k7 iO=>?_);rw[kZA]at iO;cbv;intro n8 h8 g8 e8;have l8:Le h7 h8:=zqs e8 g8
    have N:=FL.mono ((l7.trans l8).t _);cbv;refine dG N dl rfl dl (λh0=>absurd h0 ip) (λn9 c9 h9 mh _ l9 UO=>?_);have T:Sl 45 bG h9 (.slice (zsA n9) w c9) r:=UO.sl g.len;cbv;intro F iE Ns rE;have gD:Le h9 iE:=zqs rE Ns
    have P:=zqt rE;have ab:Sl 46 bK iE (.slice (zsA F) 1 1) [r]:=bh (s:=bK) P ⟨_,rfl,T.mono (gD.t _)⟩;have B:=(l8.trans l9).trans gD;cbv;refine(iO.mono (B.t _)).append ab dl rfl dl ip (l7.trans B) (λaA aq ak oV ax An aC al M=>?_);have vL:=U.mono (An.t _);cbv;refine⟨ly,?_⟩;cbv;refine M.append (vL.jX (A:=A) (s:=bK) u Sk yJ (c':=c-G) rfl) dl rfl dl gg An (λI L Q tM aw fk aD ag O=>?_);have f:=j tM L I Q (l.trans fk) O.sl;cbv;exact f
 have y:D=(⟨⟨nm,bI,0,only⟩,R⟩,1):=by
  grind [bL,eF,bI]
 subst y;have f:=j h b n c (Le.refl _) q;obtain⟨E,C⟩:∃c,c=bI:=⟨_,rfl⟩;have qu:E.length=2:=by rw[C];rfl
 rw[<-C]at H;clear C;refine kh bXb A Tryz.func273 ?_;cbv;refine aQt H g ip ?_;cbv;rw[F];cbv;exact f
theorem Rq{T:Option Addr}{Y U:Nat}(q:Sl 46 bK h (.slice b n c) R)(hR:SR R)(ag:R.length<=200)(a:Int)
 {D:bS×Row×Int} (hD:bE ⟨⟨nm,cols,0,only⟩,R⟩ ⟨2,a,dQ⟩=D) 
 (m:∀h' y P C B S E,Le h h'->Sl 46 bK h' (.slice y P C) D.1.rows->Sl 45 bG h' (.slice B S E) D.2.1->k (.tuple #[.agg #[.string nm,.slice T Y U,.zI 0,.bool only,.slice y P C],.slice B S E,.zI D.2.2]) h'):
 Ct 278 [.agg #[.string nm,.slice T Y U,.zI 0,.bool only,.slice b n c],.agg #[.zI 2,.zI a,.string dQ]] h k:=by
 obtain⟨A,H⟩:=Ar.ex;have gE:A .not true=false:=by rw[H.not];rfl
 have sA:A .not false=true:=by rw[H.not];rfl
 have I:=q.len;have kE:=q.bound;have Z:∀p,At R a p->(if jO R a p=true then((⟨⟨nm,cols,0,only⟩,R.take p++R.drop (p+1)⟩,(R[p]?).getD [],0):bS×Row×Int)else(⟨⟨nm,cols,0,only⟩,R⟩,[],2))=D:=λp o=>by
  grind [je,hR]
 clear hD;refine kh eZm A Tryz.func278 ?_;cbv;refine aQq q hR a _ (λj b' n' c' p t r l o ht dO N=>?_);have Z:=Z p o;rw[<-ht,<-dO]at Z;cbv;cases t with
 |false=>have Z:((⟨⟨nm,cols,0,only⟩,R⟩,[],2):bS×Row×Int)=D:=Z;subst Z;have g:=m j b n c none 0 0 l (q.mono (l.t _)) Sl.nil;rw[sA];cbv;exact g
 |true=>
  have Z:((⟨⟨nm,cols,0,only⟩,R.take p++R.drop (p+1)⟩,r,0):bS×Row×Int)=D:=Z;have K:=congrArg (λd:bS×Row×Int=>d.1.rows) Z;have K:R.take p++R.drop (p+1)=D.1.rows:=K;have W:=congrArg (λd:bS×Row×Int=>d.2.2) Z;have W:0=D.2.2:=W;have f:=congrArg (λd:bS×Row×Int=>d.2.1) Z;have f:r=D.2.1:=f;rw[<-K,<-W,<-f]at m;clear K W f Z;have al:p<R.length:=by
   grind [jO]
  have N:=N rfl;have x:=q.mono (l.t _);rw[gE];cbv;refine aXn x hR a _ (λz e u Lb=>?_);obtain rfl:e=p:=Lb.uniq o;have v:=u.succ (A:=A);have V:A .nR z 0=e:=dJ (A:=A) u;have yJ:=cS (A:=A) v (n:=n);obtain⟨Qo,Qn⟩:=kE;have fv:0<=z/\z<=(c:Int):=by have:=u.eq;omega
  have ly:0<=A .aX .add .i64 z 1/\A .aX .add .i64 z 1<=(n:Int):=by have:=v.eq;omega
  have Sk:e<=n:=ip
  have J:e+1<=n:=ip
  cbv;intro n6 G g6 e6;have L:Le j G:=zqs e6 g6
  have q6:=x.mono (L.t _);have fO:bA 46 bK j G (.slice (zsA n6) 0 0) ([]:List Row):=bA.nil;cbv;refine⟨fv,?_⟩;cbv;refine fO.append (q6.tp (A:=A) (s:=bK) (z:=A .nat c) Sk V V) dl rfl dl gg L (λm7 b7 c7 h7 Nz M t7 k7 O=>?_);rw[kZA]at O;have q7:=x.mono (M.t _);cbv;refine⟨ly,?_⟩;cbv;refine O.append (q7.jX (A:=A) (s:=bK) v J yJ (c':=c-(e+1)) rfl) dl rfl dl gg M (λX i Q tM ak F an ab w=>?_);have g:=m tM i X Q b' n' c' (l.trans F) w.sl (N.mono (F.t _));cbv;exact g
theorem aJv{Y:Option Addr}{sc:Nat}(q:Sl 46 bK h (.slice b n c) R)(hR:SR R)(ag:R.length<=200)
 (hk:∀h' u S w,Le h h'->Sl 46 bK h' (.slice u S w) R->k (.slice u S w) h'):
 Ct 279 [.agg #[.string nm,.slice Y sn sc,.zI 0,.bool only,.slice b n c],.agg #[.zI 0,.zI 0,.string dQ],.agg #[.zI 0,.zI 0,.string dQ]] h k:=by
 obtain⟨A,hA⟩:=Ar.ex;have t:A .aQ .eql 0 0=true:=by rw[au A];rfl
 have N:=q.len;have kE:=q.bound;refine kh eZl A Tryz.func279 ?_;cbv;refine ba.go (G:=Int×Option Addr×Nat×Nat) (λg=>[(8,.v (.zI g.1)),(7,.v (.slice g.2.1 g.2.2.1 g.2.2.2))]) (λ_=>[(3,[.string nm,.slice Y sn sc,.zI 0,.bool only,.slice b n c]),(4,[.zI 0,.zI 0,.string dQ]),(5,[.zI 0,.zI 0,.string dQ])])
  (λm g h'=>∃i:Nat,bg g.1 i/\m=n-i/\i<=n/\Le h h'/\bA 46 bK h h' (.slice g.2.1 g.2.2.1 g.2.2.2) (R.take i)) n (0,none,0,0) ⟨?_,?_,?_⟩ ⟨0,⟨rfl⟩,ip,ip,Le.refl _,bA.nil⟩ ?_
 .cbv
 .cbv
 .cbv
 intro m g h' hI;cbv;obtain⟨i,d,hm,hi,l,e⟩:=hI;obtain⟨z,C,o,E⟩:=g;have d:bg z i:=d;have e:bA 46 bK h h' (.slice C o E) (R.take i):=e;refine bm (λf=>?_) (λf=>?_)
 .have aZ:=d.lt f;clear f;obtain⟨r,O⟩:=cK R i;obtain⟨X,rv,B⟩:=hR.form r (kQR O);have uf:r.length=2:=by rw[B];rfl
  have uh:r[0]? =some ⟨2,X,dQ⟩:=by rw[B];rfl
  have L:b.isSome=true/\0<=z/\z<(n:Int):=⟨q.bu,d.ix aZ⟩;have I:=d.eq;have gO:=d.succ (A:=A);have T:=q.mono (l.t _);have Cb:o=i:=by have:=e.sl.len;grind
  have OL:R.take (i+1)=R.take i++[r]:=by rw[kJG,O];rfl
  cbv;refine⟨L,?_⟩;cbv;refine T.load O I (λcs a=>?_);obtain⟨al,rfl,H⟩:=a;obtain⟨r1,U,r3,rfl⟩:=H.form;have Zx:U=2:=by rw[H.len,uf]
  have Nk:r1.isSome=true/\(0:Int)<=0/\(0:Int)<(U:Int):=⟨H.bu,ip,ip⟩;cbv;refine⟨Nk,?_⟩;cbv;refine H.load uh (n:=0) rfl (λcs a=>?_);have a:cs=[.zI 2,.zI X,.string dQ]:=a;subst a;cbv;rw[t];cbv;rw[t];cbv;intro n6 h6 g6 e6;have Q:Le h' h6:=zqs e6 g6
  have q6:=T.mono (Q.t _);cbv;refine⟨L,?_⟩;cbv;refine q6.load O I (λcs a=>?_);obtain⟨an,rfl,M⟩:=a;obtain⟨u1,u2,u3,rfl⟩:=M.form;have Zr:u2=2:=by rw[M.len,uf]
  cbv;refine dG M dl rfl dl (λh0=>absurd h0 ip) (λn9 c9 J mh _ l9 UO=>?_);have W:Sl 45 bG J (.slice (zsA n9) u2 c9) r:=UO.sl M.len;cbv;intro F P Ns V;have y:Le J P:=zqs V Ns
  have j:=zqt V;have v:Sl 46 bK P (.slice (zsA F) 1 1) [r]:=bh (s:=bK) j ⟨_,rfl,W.mono (y.t _)⟩;have Z:=(Q.trans l9).trans y;cbv;refine(e.mono (Z.t _)).append v dl rfl dl ip (l.trans Z) (λD p x oV ak An ao ab K=>?_);rw[<-OL]at K;cbv;refine zqn (n-(i+1)) (_,p,D,x) ip ⟨i+1,gO,rfl,ip,An,K⟩
 have mw:=d.ge f;have az:=hk h' C o E l (by have:=e.sl;grind);cbv;exact az
abbrev dQT(h:ad)(d':DB)(k:Value->ad->Prop):Prop:=
 ∀h' b1 n1 c1 b2 n2 c2 b3 n3 c3 b4 n4 c4,Le h h'->RP h' b1 n1 c1 b2 n2 c2 b3 n3 c3 b4 n4 c4 d'->k (.agg #[.slice b1 n1 c1,.slice b2 n2 c2,.slice b3 n3 c3,.slice b4 n4 c4]) h'
theorem JN{s c:Option Addr}{t j e f g:Nat}(q:RP h s n t b j e a m f c o g d)(hl:d.ao.length<=2^30)(v:bg z i)(N:i<d.ao.length)
      {D y:Option Addr} {E C B:Nat} (X:Sl 202 bJ h (.slice D F E) cols) (W:Sl 46 bK h (.slice y C B) R)  (O:dQT h ⟨d.ao.set i ⟨⟨nm,cols,key,only⟩,R⟩,d.ai,d.holds,d.waits⟩ k):
 Ct 275 [.agg #[.slice s n t,.slice b j e,.slice a m f,.slice c o g],.zI z,.agg #[.string nm,.slice D F E,.zI key,.bool only,.slice y C B]] h k:=by
 have hn:=q.ao.len;have I:=v.eq;refine cB eZp Tryz.func275 λA Z=>?_;cbv;intro n5 K J H;have l:Le h K:=zqs H J
 have V:=q.mono l;cbv;refine dG V.ao dl rfl dl (λh0=>absurd h0 ip) (λp cap Y M _ T P=>?_);have S:=l.trans T;have L:(some (⟨p,0,none⟩:Addr)).isSome=true/\0<=z/\z<(n:Int):=⟨rfl,v.ix ip⟩;cbv;refine⟨L,?_⟩;cbv;refine P.setAt dl N I rfl (x:=⟨⟨nm,cols,key,only⟩,R⟩) ⟨_,_,_,_,_,_,rfl,X.mono (S.t _),W.mono (S.t _)⟩ (λu Q t7 U=>?_);have w:Le h u:=S.bf (bs:=[p]) (by simpa using l.none M) Q;have r:=q.mono w;have G:=O u (zsA p) n cap b j e a m f c o g w ⟨U.sl gg,r.ai,r.holds,r.waits⟩;cbv;exact G
theorem oy{t c:Option Addr}{j e f g:Nat}(q:RP h b j e t n u a m f c o g d)(hl:d.ai.length<=2^30)(w:bg z i)(Q:i<d.ai.length)
  {L:List cR} {M:List mS} {E B:Option Addr} {G D C:Nat} (Z:Sl 161 bD h (.slice E G F) L) (Y:Sl 340 dw h (.slice B D C) M)  (R:dQT h ⟨d.ao,d.ai.set i ⟨s,L,M⟩,d.holds,d.waits⟩ k):
 Ct 282 [.agg #[.slice b j e,.slice t n u,.slice a m f,.slice c o g],.zI z,.agg #[.zI s,.slice E G F,.slice B D C]] h k:=by
 have hn:=q.ai.len;have I:=w.eq;refine cB eZj Tryz.func282 λA hA=>?_;cbv;intro n5 P O J;have l:Le h P:=zqs J O
 have X:=q.mono l;cbv;refine dG X.ai dl rfl dl (λh0=>absurd h0 ip) (λp cap h6 N _ V T=>?_);have S:=l.trans V;have K:(some (⟨p,0,none⟩:Addr)).isSome=true/\0<=z/\z<(n:Int):=⟨rfl,w.ix ip⟩;cbv;refine⟨K,?_⟩;cbv;refine T.setAt dl Q I rfl (x:=⟨s,L,M⟩) ⟨_,_,_,_,_,_,rfl,Z.mono (S.t _),Y.mono (S.t _)⟩ (λv U t7 W=>?_);have y:Le h v:=S.bf (bs:=[p]) (by simpa using l.none N) U;have r:=q.mono y;have H:=R v b j e (zsA p) n cap a m f c o g y ⟨r.ao,W.sl gg,r.holds,r.waits⟩;cbv;exact H
theorem bQc{W:List bZ}{g i:Option Addr}{j d l:Nat}(v:Sl 422 bC h (.slice g n j) H)(w:Sl 422 bC h (.slice i d l) W)(q:n<=2^38)(r:d<=2^38)(s:Int)
 (u:∀h' e m f a c b,Le h h'->Sl 422 bC h' (.slice e m f) (bX H s)->Sl 422 bC h' (.slice a c b) (bX W s)->k (.agg #[.slice e m f,.slice a c b]) h'):
 Ct 349 [.agg #[.slice g n j,.slice i d l],.zI s] h k:=by
 refine cB eXc Tryz.func349 λA y=>?_;cbv;refine jb v q s (λx e m f o L=>?_);cbv;refine jb (w.mono (o.t _)) r s (λt a c b p J=>?_);have z:=u t e m f a c b (o.trans p) (L.sl.mono (p.t _)) J.sl;cbv;exact z
theorem aQA{p r t:Option Addr}{f a G v:Nat}(q:RP h e m f p a c r F u t G v d)(hl:d.ai.length<=2^30)(h3:d.holds.length<=2^30)(h4:d.waits.length<=2^30)(X:d.ai[i]? =some w)(hw:w.s=s)(hu:∀j y,d.ai[j]? =some y->y.s=s->j=i)(hk:dQT h ⟨d.ao,d.ai.take i++d.ai.drop (i+1),bX d.holds s,bX d.waits s⟩ k):
 Ct 284 [.agg #[.slice e m f,.slice p a c,.slice r F u,.slice t G v],.zI s] h k:=by
 have hn:=q.ai.len;have Hq:=q.holds.len;have Gq:=q.waits.len;have kE:=q.ai.bound;have ic:=(HH.1 X).1;refine cB eZh Tryz.func284 λA hA=>?_;cbv;refine yU q s (λz B=>?_);have b:bg z i:=by
  rcases B.out with⟨-,bR⟩|⟨j,y,b,hy,hp,-⟩
  .grind
  grind
 clear B;have g:=b.succ (A:=A);have V:A .nR z 0=i:=dJ (A:=A) b;have yJ:=cS (A:=A) g (n:=a);obtain⟨Qo,Qn⟩:=kE;have T:0<=z/\z<=(c:Int):=by have:=b.eq;omega
 have ly:0<=A .aX .add .i64 z 1/\A .aX .add .i64 z 1<=(a:Int):=by have:=g.eq;omega
 have R:i<=a:=ip
 have Y:i+1<=a:=ip
 cbv;intro n6 x U M;have C:Le h x:=zqs M U
 have q6:=q.mono C;have S:bA 337 ke h x (.slice (zsA n6) 0 0) ([]:List eJ):=bA.nil;cbv;refine⟨T,?_⟩;cbv;refine S.append (q6.ai.tp (A:=A) (s:=ke) (z:=A .nat c) R V V) dl rfl dl gg C (λm7 b7 c7 h7 Nz D t7 k7 O=>?_);rw[kZA]at O;have q7:=q.mono D;cbv;refine⟨ly,?_⟩;cbv;refine O.append (q7.ai.jX (A:=A) (s:=ke) g Y yJ (c':=c-(i+1)) rfl) dl rfl dl gg D (λm8 I J h8 Q E t8 k8 Z=>?_);have o:=q.mono E;cbv;refine bQc o.holds o.waits ip ip s (λW K m3 N L m4 P l p3 p4=>?_);have q9:=o.mono l;have H:=hk W e m f I m8 J K m3 N L m4 P (E.trans l) ⟨q9.ao,Z.sl.mono (l.t _),p3,p4⟩;cbv;exact H
theorem RY{c f:Option Addr}{r l t:Nat}(q:RP h c r l b n m e t o f u p d)(hl:d.ai.length<=2^30)(hi:d.ai[i]? =some w)(hw:w.s=s)(hu:∀j y,d.ai[j]? =some y->y.s=s->j=i)(vd:w.log.length<=2^30){x:cR}{rb:Option Addr}{rn rc:Nat}(qr:Sl 45 bG h (.slice rb rn rc) x.row)(uf:x.row.length=2)(T:dQT h ⟨d.ao,d.ai.set i ⟨w.s,w.log++[x],w.marks⟩,d.holds,d.waits⟩ k):
 Ct 274 [.agg #[.slice c r l,.slice b n m,.slice e t o,.slice f u p],.zI s,.agg #[.string x.table,.zI x.op,.slice rb rn rc]] h k:=by
 have hn:=q.ai.len;have U:=(HH.1 hi).1;obtain⟨ws,wl,wm⟩:=w;obtain⟨xt,xo,xr⟩:=x;have qr:Sl 45 bG h (.slice rb rn rc) xr:=qr;have uf:xr.length=2:=uf;have vd:wl.length<=2^30:=vd;have Bj:=qr.len;refine cB eZq Tryz.func274 λA hA=>?_;cbv;refine yU q s (λz jr=>?_);have J:bg z i:=by
  rcases jr.out with⟨-,bR⟩|⟨j,y,J,hy,hp,-⟩
  .have:=bR _ (kQR hi)
   grind
  grind
 clear jr;have eL:b.isSome=true/\0<=z/\z<(n:Int):=⟨q.ai.bu,J.ix ip⟩;have dI:=J.eq;cbv;refine⟨eL,?_⟩;cbv;refine q.ai.load hi dI (λcs ar=>?_);obtain⟨u1,v1,w1,u2,v2,w2,rfl,R,Y⟩:=ar;have R:Sl 161 bD h (.slice u1 v1 w1) wl:=R;have Z:=R.len;cbv;intro n5 h5 g5 e5;have l5:Le h h5:=zqs e5 g5
 cbv;refine dG (qr.mono (l5.t _)) dl rfl dl (λh0=>absurd h0 ip) (λn6 c6 h6 MZ _ l6 ak=>?_);have K:Sl 45 bG h6 (.slice (zsA n6) rn c6) xr:=ak.sl qr.len;have Se:=l5.trans l6;cbv;refine⟨?_,?_⟩
 .intro P I g7 e7;have O:Le h6 I:=zqs e7 g7
  have PD:=Se.trans O;have fO:bA 161 bD h I (.slice (zsA P) 0 0) ([]:List cR):=bA.nil;cbv;refine⟨?_,?_⟩
  .cbv;refine fO.append (R.mono (PD.t _)) dl rfl dl ip PD (λm8 b8 c8 C an M t8 k8 ag=>?_);have al:=K.mono (O.t _);cbv;intro Q N g9 e9;have D:Le C N:=zqs e9 g9
   have f9:=zqt e9;have H:Sl 161 bD N (.slice (zsA Q) 1 1) [⟨xt,xo,xr⟩]:=bh (s:=bD) f9 ⟨_,_,_,rfl,(al.mono (t8 _ dl)).mono (D.t _)⟩;have G:=ag.mono (D.t _);have X:=M.trans D;cbv;refine G.append H dl rfl dl ip X (λII EO Jp iE BD g E Be F=>?_);rw[kZA]at F;cbv;refine oy (q.mono g) hl J U F.sl (Y.mono (g.t _)) (λV c r l b n m e t o f u p v L=>?_);have B:=T V c r l b n m e t o f u p (g.trans v) L;cbv;exact B
  cbv;intro W C g8 S;have M:Le I C:=zqs S g8
  have f8:=zqt S;have v8:Sl 161 bD C (.slice (zsA W) 1 1) [⟨xt,xo,xr⟩]:=bh (s:=bD) f8 ⟨_,_,_,rfl,K.mono ((O.trans M).t _)⟩;have a:=PD.trans M;have ZE:bA 161 bD h C (.slice (zsA P) 0 0) ([]:List cR):=bA.nil;cbv;refine dG (R.mono (a.t _)) dl rfl dl (λh0=>?_) (λQ c9 N mh _ D UO=>?_)
  .have ab:wl=[]:=kZh ip;have G:bA 161 bD h C (.slice (zsA P) 0 0) wl:=gg
   have H:=v8;have X:=a;cbv;refine G.append H dl rfl dl ip X (λII EO Jp iE BD g E Be F=>?_);cbv;refine oy (q.mono g) hl J U F.sl (Y.mono (g.t _)) (λV c r l b n m e t o f u p v L=>?_);have B:=T V c r l b n m e t o f u p (g.trans v) L;cbv;exact B
  have G:bA 161 bD h N (.slice (zsA Q) v1 c9) wl:=UO.buf (a.none mh) Z;have H:=v8.mono (D.t _);have X:=a.trans D;cbv;refine G.append H dl rfl dl ip X (λII EO Jp iE BD g E Be F=>?_);cbv;refine oy (q.mono g) hl J U F.sl (Y.mono (g.t _)) (λV c r l b n m e t o f u p v L=>?_);have B:=T V c r l b n m e t o f u p (g.trans v) L;cbv;exact B
 intro W C g8 S;have M:Le h6 C:=zqs S g8
 have f8:=zqt S;cbv;intro P I g7 e7;have O:Le C I:=zqs e7 g7
 have v8:Sl 161 bD I (.slice (zsA W) 1 1) [⟨xt,xo,xr⟩]:=(bh (s:=bD) (x:=⟨xt,xo,xr⟩) f8 ⟨_,_,_,rfl,K.mono (M.t _)⟩).mono (O.t _);have a:=(Se.trans M).trans O;have ZE:bA 161 bD h I (.slice (zsA P) 0 0) ([]:List cR):=bA.nil;cbv;refine dG (R.mono (a.t _)) dl rfl dl (λh0=>?_) (λQ c9 N mh _ D UO=>?_)
 .have ab:wl=[]:=kZh ip;have G:bA 161 bD h I (.slice (zsA P) 0 0) wl:=gg
  have H:=v8;have X:=a;cbv;refine G.append H dl rfl dl ip X (λII EO Jp iE BD g E Be F=>?_);cbv;refine oy (q.mono g) hl J U F.sl (Y.mono (g.t _)) (λV c r l b n m e t o f u p v L=>?_);have B:=T V c r l b n m e t o f u p (g.trans v) L;cbv;exact B
 have G:bA 161 bD h N (.slice (zsA Q) v1 c9) wl:=UO.buf (a.none mh) Z;have H:=v8.mono (D.t _);have X:=a.trans D;cbv;refine G.append H dl rfl dl ip X (λII EO Jp iE BD g E Be F=>?_);cbv;refine oy (q.mono g) hl J U F.sl (Y.mono (g.t _)) (λV c r l b n m e t o f u p v L=>?_);have B:=T V c r l b n m e t o f u p (g.trans v) L;cbv;exact B
theorem Jl:∀a b:List UInt8,Lib.compareBytes a b=0↔a=b
 | [],[]=>by simp[Lib.compareBytes]
 | [],y::b=>by simp[Lib.compareBytes]
 |x::a,[]=>by simp[Lib.compareBytes]
 |x::a,y::b=>by
  unfold Lib.compareBytes;by_cases h:x<y
  .grind
  by_cases c:y<x
  .grind
  have:x=y:=by
   grind
  subst this;simp[h,Jl a b]
theorem NK:∀a b:List UInt8,Lib.compareBytes a b=- Lib.compareBytes b a
 | [],[]=>by simp[Lib.compareBytes]
 | [],y::b=>by simp[Lib.compareBytes]
 |x::a,[]=>by simp[Lib.compareBytes]
 |x::a,y::b=>by
  unfold Lib.compareBytes;by_cases h:x<y
  .grind
  by_cases c:y<x
  .simp[h,c]
  simp[h,c,NK a b]
theorem mO{a b:ByteArray}(h:dy a b=0):a=b:=by
 unfold dy at h;have:=(Jl _ _).1 h;cases a with
 |mk a=>
  cases b with
  |mk b=>congr 1;exact Array.ext' this
theorem xD(a b:ByteArray):dy a b=- dy b a:=by unfold dy;exact NK _ _
def tG:ByteArray:=⟨#[116,100]⟩
structure TW(T:List bS):Prop where
 gi:T.Pairwise (λa b=>dy a.S.name b.S.name<0)
 ok:∀t∈T,(t.S.name≠tG->t.S.cols=bI/\t.S.key=0)/\SO t.rows/\t.S.name.size<=12/\(t.S.name=tG->t.rows=[])
 le:T.length<=8
theorem qE{T:List bS}(h:T.Pairwise (λa b=>dy a.S.name b.S.name<0)){t:bS}(d:T[i]? =some t):dE (aU T t.S.name)=i/\iC (aU T t.S.name)=true:=by
 have e:=(HH.1 d).1;have hl:(aU T t.S.name).length=T.length:=by simp[aU]
 have get:∀j x,T[j]? =some x->(aU T t.S.name).getD j 0=dy x.S.name t.S.name:=λj x hx=>by
  grind [aU,hx]
 refine bJu _ i ip (by rw[get i t d];exact yu _) (λj c=>?_) (λj c N=>?_)
 .obtain⟨x,hx⟩:=cK T j;rw[get j x hx];have:=kJJ.1 h j i (HH.1 hx).1 e c
  grind
 obtain⟨x,hx⟩:=cK T j;rw[get j x hx];have:=kJJ.1 h i j e (HH.1 hx).1 c
 grind [hx,xD]
theorem LL{T:List bS}(h:∀t∈T,t.S.name≠nm):iC (aU T nm)=false:=by
 cases b:iC (aU T nm)with
 |false=>rfl
 |true=>
  unfold iC at b
  grind [ay,dE,aU,dy,mO]
theorem uo{T:List bS}(h:T.Pairwise (λa b=>dy a.S.name b.S.name<0))(q:uV T (λt=>decide (t.S.name=nm)) z):
 (z=-1/\iC (aU T nm)=false/\∀t∈T,t.S.name≠nm)\/∃i t,bg z i/\T[i]? =some t/\t.S.name=nm/\dE (aU T nm)=i/\iC (aU T nm)=true:=by
 rcases q.out with⟨rfl,R⟩|⟨i,t,d,c,p,-⟩
 .grind [LL]
 grind [qE]
theorem Rm{S:rM}(g:S.cols=bI)(c:S.key=0)(h:SO R)(b:gC r\/r.length≠2):SO (bL ⟨S,R⟩ r).1.rows:=by
 rcases b with b|b
 .have i:=b.fits;have B:=b;obtain⟨a,v,rfl,-⟩:=B;obtain⟨p,q⟩:=h.sr.at_ a;rw[jv (S:=S) c h.sr gg q];by_cases e:jO R a p=true
  .grind
  rw[if_neg e];by_cases f:decide ((R.length:Int)>=200)=true
  .grind
  rw[if_neg f];have f:R.length<200:=gg
  refine⟨h.sr.ins (v:=v) q (iu e),λo d=>?_,?_⟩
  .rcases kJj.1 d with d|d
   .rcases kJj.1 d with d|d
    .exact h.ok o (kZx d)
    grind
   exact h.ok o (kXN d)
  grind
 have:eF S.cols r=1:=by
  unfold eF;have c:S.cols.length=2:=by rw[g];rfl
  grind
 grind [bL]
theorem LG{S:rM}(c:S.key=0)(h:SO R)(a:Int):SO (bE ⟨S,R⟩ ⟨2,a,dQ⟩).1.rows:=by
 obtain⟨p,q⟩:=h.sr.at_ a;rw[je (S:=S) c h.sr q];by_cases b:jO R a p=true
 .rw[if_pos b];have k:=jg R p;exact⟨h.sr.sub k,λr d=>h.ok r (k.subset d),kXj k.length_le h.le⟩
 grind
theorem TW.set{T:List bS}(h:TW T){t t':bS}(d:T[i]? =some t)(hd:t.S.name≠tG)(S:t'.S=t.S)(r:SO t'.rows):TW (T.set i t'):=by
 have l:=(HH.1 d).1;refine⟨?_,λx hx=>?_,by rw[kJE];exact h.le⟩
 .rw[kJJ];have e:∀j (f:j<(T.set i t').length),(T.set i t')[j].S=(T[j]'(iu f)).S:=λj f=>by
   grind
  intro a b g k Q;rw[e a g,e b k];exact kJJ.1 h.gi a b _ _ Q
 rcases kZa hx with c|c
 .exact h.ok x c
 have:=h.ok t (kQR d)
 grind
structure vJ(T:List bS)(x:cR):Prop where
 row:gC x.row
 op:x.op=1\/x.op=2
 at_:∃t∈T,t.S.name=x.table
 nd:x.table≠tG
theorem vJ.map{T a:List bS}{x:cR}(h:vJ T x)(e:a.map (·.S)=T.map (·.S)):vJ a x:=by
 refine⟨h.row,h.op,?_,h.nd⟩;obtain⟨t,b,n⟩:=h.at_;have:t.S∈a.map (·.S):=gg
 grind
theorem Ff{T:List bS}(h:TW T){x:cR}(hx:vJ T x){t:bS}(b:T[i]? =some t)(n:t.S.name=x.table):
 gz T x=T.set i (if x.op=2 then(bL t x.row).1 else(bE t (sY x.row 0)).1)/\TW (gz T x):=by
 obtain⟨f,g⟩:=qE h.gi b;rw[n]at f g;obtain⟨j,d,-⟩:=h.ok t (kQR b);have hd:t.S.name≠tG:=by rw[n];exact hx.nd
 obtain⟨k,c⟩:=j hd;have e:gz T x=T.set i (if x.op=2 then(bL t x.row).1 else(bE t (sY x.row 0)).1):=by
  unfold gz;rw[f,g,b];simp only[if_true];by_cases o:x.op=2
  .rw[if_pos (kS o),if_pos o]
  rw[if_neg (iu o),if_neg o,if_pos (by
   obtain⟨a,v,r,-⟩:=hx.row
   grind),c]
 refine⟨e,?_⟩;rw[e];obtain⟨S,R⟩:=t;by_cases o:x.op=2
 .rw[if_pos o];exact h.set b hd (lY _ _) (Rm k c d (.inl hx.row))
 rw[if_neg o];obtain⟨a,v,r,-⟩:=hx.row;rw[r];exact h.set b hd (lE _ _) (LG c d a)
theorem Xj{T:List bS}(h:TW T){x:cR}(hx:vJ T x):TW (gz T x):=by obtain⟨t,b,n⟩:=hx.at_;obtain⟨i,a⟩:=kXT b;exact(Ff h hx a n).2
theorem vT{T:List bS}(h:TW T):∀ {l:List cR},(∀x∈l,vJ T x)->TW (ea T l)
 | [],_=>h
 |x::r,hl=>Xj (vT h (λy a=>hl y (kQH _ a))) ((hl x io).map (pI T r))
structure hKX where
 w:bJE
 lb:Option Addr
 ln:Nat
 lc:Nat
theorem Rl{c f l:Option Addr}{a e r y s:Nat}(q:RP h b a o c e p f u r l y s d)(hT:TW d.ao)(hl:d.ai.length<=2^30)(hi:d.ai[i]? =some w)(nP:∀x∈w.log,vJ d.ao x)(F:w.log.length<=2^30)
  (hz:bg z i) {zn:Int}  (ly:bg zn n)  (hk:dQT h ⟨ea d.ao (w.log.drop (min n w.log.length)),d.ai.set i ⟨w.s,w.log.take (min n w.log.length),w.marks⟩,d.holds,d.waits⟩ k):
 Ct 283 [.agg #[.slice b a o,.slice c e p,.slice f u r,.slice l y s],.zI z,.zI zn] h k:=by
 have fA:=q.ai.len;have ic:=(HH.1 hi).1;have eL:c.isSome=true/\0<=z/\z<(e:Int):=⟨q.ai.bu,hz.ix ip⟩;have dI:=hz.eq;obtain⟨ws,wl,wm⟩:=w;have nP:∀x∈wl,vJ d.ao x:=nP;have F:wl.length<=2^30:=F;have hk:dQT h ⟨ea d.ao (wl.drop (min n wl.length)),d.ai.set i ⟨ws,wl.take (min n wl.length),wm⟩,d.holds,d.waits⟩ k:=hk;refine cB eZi Tryz.func283 λA hA=>?_;cbv;refine⟨eL,?_⟩;cbv;refine q.ai.load hi dI (λcs C=>?_);obtain⟨u1,v1,w1,u2,v2,w2,rfl,ql,qm⟩:=C;have ql:Sl 161 bD h (.slice u1 v1 w1) wl:=ql;have qm:Sl 340 dw h (.slice u2 v2 w2) wm:=qm;have aD:=ql.len;obtain⟨I,gX⟩:∃I:Nat->hKX->ad->Prop,∀m g h',I m g h'=(m<=wl.length/\min n wl.length<=m/\Le h h'/\RP h' g.w.b1 g.w.n1 g.w.c1 g.w.b2 g.w.n2 g.w.c2 g.w.b3 g.w.n3 g.w.c3 g.w.b4 g.w.n4 g.w.c4 ⟨ea d.ao (wl.drop m),d.ai,d.holds,d.waits⟩/\Sl 161 bD h' (.slice g.lb g.ln g.lc) (wl.take m)):=⟨_,λ_ _ _=>rfl⟩;cbv;refine ba.go (G:=hKX) (λg=>[]) (λg=>[(3,[.slice g.w.b1 g.w.n1 g.w.c1,.slice g.w.b2 g.w.n2 g.w.c2,.slice g.w.b3 g.w.n3 g.w.c3,.slice g.w.b4 g.w.n4 g.w.c4]),(6,[.zN,.zN,.zN,.zN]),(7,[.zI ws,.slice g.lb g.ln g.lc,.slice u2 v2 w2])])
  (λm g h'=>I m g h') wl.length ⟨⟨b,a,o,c,e,p,f,u,r,l,y,s⟩,u1,v1,w1⟩ ⟨?_,?_,?_⟩ (by rw[gX];exact⟨qA _,kZK _ _,Le.refl _,by rw[kXq];exact q,gg⟩) ?_
 .cbv
 .cbv
 .cbv
 intro m g h' hI;rw[gX]at hI;cbv;obtain⟨sS,nG,E,Y,L⟩:=hI;obtain⟨⟨b,a,o,c,e,p,f,u,r,l,y,s⟩,y1,y2,y3⟩:=g;have Y:RP h' b a o c e p f u r l y s ⟨ea d.ao (wl.drop m),d.ai,d.holds,d.waits⟩:=Y;have L:Sl 161 bD h' (.slice y1 y2 y3) (wl.take m):=L;have sy:y2=m:=by rw[L.len,kJI];omega
 have aF:=L.bound;have f1:A .aQ .gtr (A .nat y2) zn=decide (n<m):=by have:=ly.eq;rw[bF A,hA.nat,decide_eq_decide];grind
 have O:TW (ea d.ao (wl.drop m)):=vT hT (λx hx=>nP x (kXN hx));have hS:=pI d.ao (wl.drop m);rw[f1];by_cases al:n<m
 .obtain⟨x,hx⟩:=cK wl (m-1);have K:=(nP x (kQR hx)).map hS;have qS:=Fe (T:=d.ao) hx;rw[show m-1+1=m by omega]at qS;have aB:(wl.take m)[m-1]? =some x:=gg
  obtain⟨TT,ab⟩:∃T,T=ea d.ao (wl.drop m):=⟨_,rfl⟩;rw[<-ab]at O K qS Y;clear ab hS;obtain⟨xt,xo,xr⟩:=x;have an:gC xr:=K.row;have aC:=an;obtain⟨ra,rv,BX,-⟩:=aC;have uf:xr.length=2:=by rw[BX];rfl
  have uh:xr[0]? =some ⟨2,ra,dQ⟩:=by rw[BX];rfl
  have kj:bg (A .aX .sub .i64 (A .nat y2) 1) (m-1):=by
   have:=(bg.nat (A:=A) y2).sub (A:=A) (w:=1) (j:=1) ⟨rfl⟩ ip ip
   grind
  have aw:=kj.eq;have jW:y1.isSome=true/\0<=A .aX .sub .i64 (A .nat y2) 1/\A .aX .sub .i64 (A .nat y2) 1<(y2:Int):=⟨L.bu,kj.ix ip⟩;have zX:0<=A .aX .sub .i64 (A .nat y2) 1/\A .aX .sub .i64 (A .nat y2) 1<=(y3:Int):=ip
  have sV:A .nR (A .aX .sub .i64 (A .nat y2) 1) 0=m-1:=dJ (A:=A) kj;have OL:=L.Ip (A:=A) (i:=m-1) ip;rw[kKe,kXx ip]at OL;have e1:A .aQ .eql xo 1=decide (xo=1):=au A ..;rw[kS al];cbv;refine⟨jW,?_⟩;cbv;refine L.load aB aw (λcs C=>?_);obtain⟨x1,x2,x3,rfl,sx⟩:=C;have sx:Sl 45 bG h' (.slice x1 x2 x3) xr:=sx;have Zo:x2=2:=by rw[sx.len,uf]
  have ax:x1.isSome=true/\(0:Int)<=0/\(0:Int)<(x2:Int):=⟨sx.bu,ip,ip⟩;cbv;refine⟨zX,?_⟩;cbv;rw[sV];refine(xi Y).mono (λv h5 hR=>?_);obtain⟨P,zf,rfl,jr⟩:=hR;have X:=Y.mono P;rcases uo O.gi jr with⟨-,-,oT⟩|⟨kt,t,HE,H,Z,-,-⟩
  .obtain⟨t,H,Z⟩:=K.at_;exact absurd Z (oT t H)
  have H:TT[kt]? =some t:=H;have Z:t.S.name=xt:=Z;have W:=(Ff O K H Z).1;obtain⟨p0,p3,-⟩:=O.ok t (kQR H);obtain⟨p1,p2⟩:=p0 (by rw[Z];exact K.nd);obtain⟨⟨U,J,tk,V⟩,S⟩:=t;have pc:J=bI:=p1;have p2:tk=0:=p2;have p3:SO S:=p3;subst p2;have W:gz TT ⟨xt,xo,xr⟩=TT.set kt (if xo=2 then(bL ⟨⟨U,J,0,V⟩,S⟩ xr).1 else(bE ⟨⟨U,J,0,V⟩,S⟩ (sY xr 0)).1):=W;rw[show sY xr 0=⟨2,ra,dQ⟩by rw[BX];rfl]at W;have ak:=(HH.1 H).1;have fG:a=TT.length:=X.ao.len;have GA:b.isSome=true/\0<=zf/\zf<(a:Int):=⟨X.ao.bu,HE.ix ip⟩;have aA:=HE.eq;have aG:=O.le;have ao:=sx.mono (P.t _);clear jr;cbv;refine⟨GA,?_⟩;cbv;refine X.ao.load H aA (λcs C=>?_);obtain⟨x4,x5,x6,x7,x8,x9,rfl,s1,s2⟩:=C;have s1:Sl 202 bJ h5 (.slice x4 x5 x6) J:=s1;have s2:Sl 46 bK h5 (.slice x7 x8 x9) S:=s2;cbv;rw[e1];by_cases Bn:xo=1
  .rw[kS Bn];obtain⟨D,hD⟩:∃D,bE ⟨⟨U,J,0,V⟩,S⟩ ⟨2,ra,dQ⟩=D:=⟨_,rfl⟩;have N:D.1=⟨⟨U,J,0,V⟩,D.1.rows⟩:=AF (by rw[<-hD];exact lE _ _);rw[if_neg ip,hD,N]at W;cbv;refine⟨ax,?_⟩;cbv;refine ao.load uh (n:=0) rfl (λcs C=>?_);have C:cs=[.zI 2,.zI ra,.string dQ]:=C;subst C;cbv;refine Rq s2 p3.sr p3.le ra hD (λh6 r1 r2 r3 r4 r5 r6 B FL _=>?_);have Q:=X.mono B;cbv;refine JN Q gg HE ak (s1.mono (B.t _)) FL (λM b a o c e p f u r l y s l7 R=>?_);have q7:RP M b a o c e p f u r l y s ⟨ea d.ao (wl.drop (m-1)),d.ai,d.holds,d.waits⟩:=gg
   clear R;have PD:=(P.trans B).trans l7;have kL:I (m-1) ⟨⟨b,a,o,c,e,p,f,u,r,l,y,s⟩,A .cut y1 0 (A .nat y3) 3,m-1,y3⟩ M:=by rw[gX];exact⟨ip,ip,E.trans PD,q7,OL.mono (PD.t _)⟩
   cbv;refine zqn (m-1) ⟨⟨b,a,o,c,e,p,f,u,r,l,y,s⟩,A .cut y1 0 (A .nat y3) 3,m-1,y3⟩ ip kL
  rw[kQW Bn];have aq:xo=2:=by
   rcases K.op with h1|h1
   .exact absurd h1 Bn
   exact h1
  obtain⟨D,hD⟩:∃D,bL ⟨⟨U,bI,0,V⟩,S⟩ xr=D:=⟨_,rfl⟩;have N:D.1=⟨⟨U,J,0,V⟩,D.1.rows⟩:=by grind [AF,lY]
  rw[if_pos aq]at W;rw[show bL ⟨⟨U,J,0,V⟩,S⟩ xr=D by grind,N]at W;cbv;refine Yy gg s2 p3 ao (.inl an) hD (λh6 r1 r2 r3 B FL=>?_);have Q:=X.mono B;cbv;refine JN Q gg HE ak (s1.mono (B.t _)) FL (λM b a o c e p f u r l y s l7 R=>?_);have q7:RP M b a o c e p f u r l y s ⟨ea d.ao (wl.drop (m-1)),d.ai,d.holds,d.waits⟩:=gg
  clear R;have PD:=(P.trans B).trans l7;have kL:I (m-1) ⟨⟨b,a,o,c,e,p,f,u,r,l,y,s⟩,A .cut y1 0 (A .nat y3) 3,m-1,y3⟩ M:=by rw[gX];exact⟨ip,ip,E.trans PD,q7,OL.mono (PD.t _)⟩
  cbv;refine zqn (m-1) ⟨⟨b,a,o,c,e,p,f,u,r,l,y,s⟩,A .cut y1 0 (A .nat y3) 3,m-1,y3⟩ ip kL
 have Ed:m=min n wl.length:=ip
 rw[kQW al];subst Ed;cbv;intro n5 h5 g5 e5;have P:Le h' h5:=zqs e5 g5
 have fO:bA 161 bD h' h5 (.slice (zsA n5) 0 0) ([]:List cR):=bA.nil;cbv;refine fO.append (L.mono (P.t _)) dl rfl dl ip P (λm6 b6 c6 h6 aE B t6 k6 ag=>?_);rw[kZA]at ag;have Q:=Y.mono B;cbv;refine oy Q hl hz ic ag.sl (qm.mono ((E.trans B).t _)) (λM b a o c e p f u r l y s l7 q7=>?_);have az:=hk M b a o c e p f u r l y s ((E.trans B).trans l7) q7;cbv;exact az
structure SI(d:DB):Prop where
 tw:TW d.ao
 gi:d.ai.Pairwise (λa b=>a.s<b.s)
 mX:∀w∈d.ai,0<=w.s/\w.s<8
 log:∀w∈d.ai,(∀x∈w.log,vJ d.ao x)/\w.log.length<=60
 holds:d.holds.length<=2^17
 waits:d.waits.length<=2^17
theorem mG{l:List eJ}(h:l.Pairwise (λa b=>a.s<b.s))(r:∀w∈l,0<=w.s/\w.s<8):l.length<=8:=by have:=zH h r;omega
theorem mH{l:List eJ}(h:l.Pairwise (λa b=>a.s<b.s))(e:l[i]? =some w):∀(j:Nat) (y:eJ),l[j]? =some y->y.s=w.s->j=i:=by
 intro j y f g;have d:=HH.1 f;have C:=HH.1 e;rcases kQM j i with c|c|c
 .have:=kJJ.1 h j i d.1 C.1 c
  grind
 .exact c
 have:=kJJ.1 h i j C.1 d.1 c
 grind
theorem oK(h:SI d)(c:-2^63<=s/\s<2^63)(q:uV d.ai (λw=>decide (w.s=s)) z):
 (z=-1/\iC (cf d.ai s)=false)\/∃i w,bg z i/\d.ai[i]? =some w/\w.s=s/\dE (cf d.ai s)=i/\iC (cf d.ai s)=true:=by
 rcases q.out with⟨rfl,R⟩|⟨i,w,j,a,p,-⟩
 .refine .inl ⟨rfl,?_⟩;cases b:iC (cf d.ai s)with
  |false=>rfl
  |true=>
   obtain⟨w,a,g⟩:=(kP h.gi h.mX c).1 b
   grind
 have n:w.s=s:=kZr p;obtain⟨e,f⟩:=JA h.gi h.mX a
 grind
theorem zM{c:Option Addr}{f g r l t:Nat}(q:RP h b o f a p g c r l e t m d)(I:SI d)(s:Int)(F:-2^63<=s/\s<2^63){D:DB×Int}(E:cA d s=D)(x:RK h D.1 D.2 k):
 Ct 165 [.agg #[.slice b o f,.slice a p g,.slice c r l,.slice e t m],.zI s] h k:=by
 obtain⟨A,hA⟩:=Ar.ex;have vd:=mG I.gi I.mX;have S:A .aQ .lss (-1) 0=true:=by rw[aV A];rfl
 refine kh eKg A Tryz.func165 ?_;cbv;refine yU q s (λz C=>?_);rcases oK I F C with⟨rfl,hb⟩|⟨i,w,B,hw,O,e1,R⟩
 .have Y:D=(d,2):=by grind [cA]
  subst Y;have u:=x h b o f a p g c r l e t m (Le.refl _) q;cbv;rw[S];cbv;exact u
 have ic:=(HH.1 hw).1;have P:=I.log w (kQR hw);have Q:=mH I.gi hw;have Y:D=(⟨ea d.ao w.log,d.ai.take i++d.ai.drop (i+1),bX d.holds s,bX d.waits s⟩,0):=by
  grind [cA,jo,tV,tU]
 clear E C;subst Y;have Z:A .aQ .lss z 0=false:=B.zO (A:=A);have bO:∀j y,(d.ai.set i ⟨w.s,w.log.take (min 0 w.log.length),w.marks⟩)[j]? =some y->y.s=s->j=i:=by
  grind
 have K:(d.ai.set i ⟨w.s,w.log.take (min 0 w.log.length),w.marks⟩)[i]? =some ⟨w.s,w.log.take (min 0 w.log.length),w.marks⟩:=kXU ip;have U:(d.ai.set i ⟨w.s,w.log.take (min 0 w.log.length),w.marks⟩).take i=d.ai.take i:=by rw[List.take_set_of_le (qA _)]
 have T:(d.ai.set i ⟨w.s,w.log.take (min 0 w.log.length),w.marks⟩).drop (i+1)=d.ai.drop (i+1):=by rw[List.drop_set_of_lt ip]
 have H:=I.holds;have G:=I.waits;cbv;rw[Z];cbv;refine Rl q I.tw ip hw P.1 ip B (zn:=0) (n:=0) ⟨rfl⟩ (λh5 V p1 g1 W p2 g2 X p3 g3 f4 p4 g4 L N=>?_);cbv;refine aQA N gg gg gg K O bO (λv b o f a p g c r l e t m M q6=>?_);have J:RP v b o f a p g c r l e t m ⟨ea d.ao w.log,d.ai.take i++d.ai.drop (i+1),bX d.holds s,bX d.waits s⟩:=by
  grind
 have u:=x v b o f a p g c r l e t m (L.trans M) J;cbv;exact u
end Go.S
