import Derived.Test.YthnbpiejemlbeaaGreatJ3a
set_option linter.all false
set_option maxRecDepth 100000
set_option maxHeartbeats 8000000
namespace Go.S
open Go.Sx Go.Proofs
variable {only:Bool}{nm:ByteArray}{key s:Int}{H:List bG}{L:List cC}{cols:List iK}{M:List kJ}{f i j n p r:Nat}{F:Nat->List Row}{a b c d e:Option Addr}{k:Value->ab->Prop}{h:ab}
theorem cKe{xs:List gV}{c:Nat}(q:Sl 45 aS h (.slice d n p) xs)(l:Sl 45 aS h (.slice e c r) xs)(y:k (.bool true) h):
 Ct 55 [.slice d n p,.slice e c r] h k:=by
 obtain⟨A,f⟩:=Ar.ex;have E:=q.len;have C:=l.len;have W:=q.bound.1;have U:A .ay .neq (A .nat n) (A .nat c)=false:=by rw[E,C,av A];simp
 have B:∀a:Int,A .ay .eql a a=true:=λa=>by rw[aq A];simp
 have H:∀s:ByteArray,A .js .eql s s=true:=λs=>by rw[dF A];simp
 have v:∀x:Bool,A .qP .eql x x=true:=λx=>by rw[f.qP];cases x<;>rfl
 have u:∀(a b:Int) (s:ByteArray),A .not (A .and (A .ay .eql a a) (A .and (A .ay .eql b b) (A .and (A .js .eql s s) true)))=false:=by
  intros
  simp only[B,H,v];rw[f.not,f.and];rfl
 refine bB eXD A Tryz.func55 ?_;cbv;rw[U];cbv;refine aG.go (G:=Int) (λg=>[(13,.v (.int .i64 g))]) (λ_=>[]) (λm g h'=>h'=h/\∃i,aK g i/\m=n-i/\i<=n) n 0 (by constructor<;>cbv) ⟨rfl,0,⟨rfl⟩,by omega,by omega⟩ ?_
 intro m g h' I;cbv;obtain⟨rfl,i,z,K,J⟩:=I;refine aJ (λj=>?_) (λj=>?_)
 .have F:=z.lt j;clear j;obtain⟨⟨va,vb,vc⟩,hx⟩:=bn xs i;have D:d.isSome=true/\0<=g/\g<(n:Int):=⟨q.aQ,z.ix F⟩;have X:e.isSome=true/\0<=g/\g<(c:Int):=⟨l.aQ,z.ix (by omega)⟩;have t:=z.eq;have w:=z.succ (A:=A);cbv;refine⟨D,?_⟩;cbv;refine q.load hx t (λcs o=>?_);have o:cs=[.int .i64 va,.int .i64 vb,.string vc]:=o;subst o;cbv;refine⟨X,?_⟩;cbv;refine l.load hx t (λcs o=>?_);have o:cs=[.int .i64 va,.int .i64 vb,.string vc]:=o;subst o;cbv;rw[u];cbv;refine⟨n-(i+1),_,by omega,by constructor<;>cbv,rfl,i+1,w,rfl,by omega⟩
 cbv;exact y
theorem cKf{xs:List iK}{c:Nat}(q:Sl 202 bh h (.slice d n p) xs)(l:Sl 202 bh h (.slice e c r) xs)(y:k (.bool true) h):
 Ct 257 [.slice d n p,.slice e c r] h k:=by
 obtain⟨A,f⟩:=Ar.ex;have E:=q.len;have C:=l.len;have W:=q.bound.1;have U:A .ay .neq (A .nat n) (A .nat c)=false:=by rw[E,C,av A];simp
 have B:∀a:Int,A .ay .eql a a=true:=λa=>by rw[aq A];simp
 have H:∀s:ByteArray,A .js .eql s s=true:=λs=>by rw[dF A];simp
 have v:∀x:Bool,A .qP .eql x x=true:=λx=>by rw[f.qP];cases x<;>rfl
 have u:∀(s:ByteArray) (a:Int) (b:Bool),A .not (A .and (A .js .eql s s) (A .and (A .ay .eql a a) (A .and (A .qP .eql b b) true)))=false:=by
  intros
  simp only[B,H,v];rw[f.not,f.and];rfl
 refine bB dXG A Tryz.func257 ?_;cbv;rw[U];cbv;refine aG.go (G:=Int) (λg=>[(13,.v (.int .i64 g))]) (λ_=>[]) (λm g h'=>h'=h/\∃i,aK g i/\m=n-i/\i<=n) n 0 (by constructor<;>cbv) ⟨rfl,0,⟨rfl⟩,by omega,by omega⟩ ?_
 intro m g h' I;cbv;obtain⟨rfl,i,z,K,J⟩:=I;refine aJ (λj=>?_) (λj=>?_)
 .have F:=z.lt j;clear j;obtain⟨⟨va,vb,vc⟩,hx⟩:=bn xs i;have D:d.isSome=true/\0<=g/\g<(n:Int):=⟨q.aQ,z.ix F⟩;have X:e.isSome=true/\0<=g/\g<(c:Int):=⟨l.aQ,z.ix (by omega)⟩;have t:=z.eq;have w:=z.succ (A:=A);cbv;refine⟨D,?_⟩;cbv;refine q.load hx t (λcs o=>?_);have o:cs=[.string va,.int .i64 vb,.bool vc]:=o;subst o;cbv;refine⟨X,?_⟩;cbv;refine l.load hx t (λcs o=>?_);have o:cs=[.string va,.int .i64 vb,.bool vc]:=o;subst o;cbv;rw[u];cbv;refine⟨n-(i+1),_,by omega,by constructor<;>cbv,rfl,i+1,w,rfl,by omega⟩
 cbv;exact y
theorem aZC{xs:List bG}{c:Nat}(q:Sl 253 aO h (.slice d n p) xs)(l:Sl 253 aO h (.slice e c r) xs)(y:k (.bool true) h):
 Ct 139 [.slice d n p,.slice e c r] h k:=by
 obtain⟨A,f⟩:=Ar.ex;have E:=q.len;have C:=l.len;have W:=q.bound.1;have U:A .ay .neq (A .nat n) (A .nat c)=false:=by rw[E,C,av A];simp
 have B:∀a:Int,A .ay .eql a a=true:=λa=>by rw[aq A];simp
 have H:∀s:ByteArray,A .js .eql s s=true:=λs=>by rw[dF A];simp
 have v:∀x:Bool,A .qP .eql x x=true:=λx=>by rw[f.qP];cases x<;>rfl
 have u:∀(a:Int) (s:ByteArray) (b:Bool),A .not (A .and (A .ay .eql a a) (A .and (A .js .eql s s) (A .and (A .qP .eql b b) true)))=false:=by
  intros
  simp only[B,H,v];rw[f.not,f.and];rfl
 refine bB dJz A Tryz.func139 ?_;cbv;rw[U];cbv;refine aG.go (G:=Int) (λg=>[(13,.v (.int .i64 g))]) (λ_=>[]) (λm g h'=>h'=h/\∃i,aK g i/\m=n-i/\i<=n) n 0 (by constructor<;>cbv) ⟨rfl,0,⟨rfl⟩,by omega,by omega⟩ ?_
 intro m g h' I;cbv;obtain⟨rfl,i,z,K,J⟩:=I;refine aJ (λj=>?_) (λj=>?_)
 .have F:=z.lt j;clear j;obtain⟨⟨va,vb,vc⟩,hx⟩:=bn xs i;have D:d.isSome=true/\0<=g/\g<(n:Int):=⟨q.aQ,z.ix F⟩;have X:e.isSome=true/\0<=g/\g<(c:Int):=⟨l.aQ,z.ix (by omega)⟩;have t:=z.eq;have w:=z.succ (A:=A);cbv;refine⟨D,?_⟩;cbv;refine q.load hx t (λcs o=>?_);have o:cs=[.int .i64 va,.string vb,.bool vc]:=o;subst o;cbv;refine⟨X,?_⟩;cbv;refine l.load hx t (λcs o=>?_);have o:cs=[.int .i64 va,.string vb,.bool vc]:=o;subst o;cbv;rw[u];cbv;refine⟨n-(i+1),_,by omega,by constructor<;>cbv,rfl,i+1,w,rfl,by omega⟩
 cbv;exact y
theorem fKk{xs:List kJ}{l b:Nat}(q:Sl 183 cF h (.slice c n l) xs)(j:Sl 183 cF h (.slice d b p) xs)(w:k (.bool true) h):
 Ct 58 [.slice c n l,.slice d b p] h k:=by
 obtain⟨A,e⟩:=Ar.ex;have E:=q.len;have B:=j.len;have W:=q.bound.1;have U:A .ay .neq (A .nat n) (A .nat b)=false:=by rw[E,B,av A];simp
 have y:∀a:Int,A .ay .eql a a=true:=λa=>by rw[aq A];simp
 have D:∀s:ByteArray,A .js .eql s s=true:=λs=>by rw[dF A];simp
 have u:∀x:Bool,A .qP .eql x x=true:=λx=>by rw[e.qP];cases x<;>rfl
 have t:∀(s:ByteArray) (a:Int),A .not (A .and (A .js .eql s s) (A .and (A .ay .eql a a) true))=false:=by
  intros
  simp only[y,D,u];rw[e.not,e.and];rfl
 refine bB gJU A Tryz.func58 ?_;cbv;rw[U];cbv;refine aG.go (G:=Int) (λg=>[(13,.v (.int .i64 g))]) (λ_=>[]) (λm g h'=>h'=h/\∃i,aK g i/\m=n-i/\i<=n) n 0 (by constructor<;>cbv) ⟨rfl,0,⟨rfl⟩,by omega,by omega⟩ ?_
 intro m g h' I;cbv;obtain⟨rfl,i,z,J,H⟩:=I;refine aJ (λf=>?_) (λf=>?_)
 .have F:=z.lt f;clear f;obtain⟨⟨va,vb⟩,hx⟩:=bn xs i;have C:c.isSome=true/\0<=g/\g<(n:Int):=⟨q.aQ,z.ix F⟩;have X:d.isSome=true/\0<=g/\g<(b:Int):=⟨j.aQ,z.ix (by omega)⟩;have r:=z.eq;have v:=z.succ (A:=A);cbv;refine⟨C,?_⟩;cbv;refine q.load hx r (λcs o=>?_);have o:cs=[.string va,.int .i64 vb]:=o;subst o;cbv;refine⟨X,?_⟩;cbv;refine j.load hx r (λcs o=>?_);have o:cs=[.string va,.int .i64 vb]:=o;subst o;cbv;rw[t];cbv;refine⟨n-(i+1),_,by omega,by constructor<;>cbv,rfl,i+1,v,rfl,by omega⟩
 cbv;exact w
theorem aJy{r:Row}{c e d:Nat}(q:Sl 45 aS h (.slice b n c) r)(g:Sl 45 aS h (.slice a e d) r)(f:k (.bool true) h):
 Ct 138 [.slice b n c,.slice a e d] h k:=by
 refine an aQB Tryz.func138 λA i=>?_;cbv;refine cKe q g ?_;cbv;exact f
theorem aJC{x:cC}{c e d:Nat}(q:Sl 45 aS h (.slice b n c) x.row)(g:Sl 45 aS h (.slice a e d) x.row)(f:k (.bool true) h):
 Ct 54 [.agg #[.string x.table,.int .i64 x.op,.slice b n c],.agg #[.string x.table,.int .i64 x.op,.slice a e d]] h k:=by
 obtain⟨A,j⟩:=Ar.ex;obtain⟨t,o,r⟩:=x;have s:A .js .eql t t=true:=by rw[dF A];simp
 have i:A .ay .eql o o=true:=by rw[aq A];simp
 refine bB gJX A Tryz.func54 ?_;cbv;rw[s];cbv;rw[i];cbv;refine cKe (xs:=r) q g ?_;cbv;exact f
theorem cKd{xs:List cC}{a:Nat}(q:Sl 161 aV h (.slice b n f) xs)(e:Sl 161 aV h (.slice c a j) xs)(u:∀h',Le h h'->k (.bool true) h'):
 Ct 57 [.slice b n f,.slice c a j,.func (.func 54) #[] #[]] h k:=by
 obtain⟨A,t⟩:=Ar.ex;have E:=q.len;have v:=e.len;have W:=q.bound.1;have U:A .ay .neq (A .nat n) (A .nat a)=false:=by rw[E,v,av A];simp
 have P:A .not true=false:=by rw[t.not];rfl
 refine bB gJV A Tryz.func57 ?_;cbv;rw[U];cbv;refine aG.go (G:=Int) (λg=>[(17,.v (.int .i64 g))]) (λ_=>[]) (λm g h'=>Le h h'/\∃i,aK g i/\m=n-i/\i<=n) n 0 (by constructor<;>cbv) ⟨Le.refl _,0,⟨rfl⟩,by omega,by omega⟩ ?_
 intro m g h' I;cbv;obtain⟨l,i,z,B,y⟩:=I;refine aJ (λd=>?_) (λd=>?_)
 .have F:=z.lt d;clear d;obtain⟨x,hx⟩:=bn xs i;have w:b.isSome=true/\0<=g/\g<(n:Int):=⟨q.aQ,z.ix F⟩;have X:c.isSome=true/\0<=g/\g<(a:Int):=⟨e.aQ,z.ix (by omega)⟩;have p:=z.eq;have s:=z.succ (A:=A);cbv;refine⟨w,?_⟩;cbv;refine(q.mono (l.t _)).load hx p (λcs o=>?_);obtain⟨C,D,H,rfl,s1⟩:=o;cbv;refine⟨X,?_⟩;cbv;refine(e.mono (l.t _)).load hx p (λcs o=>?_);obtain⟨y1,y2,y3,rfl,s2⟩:=o;cbv;refine aJC (x:=x) s1 s2 ?_;have Q:=l;cbv;rw[P];cbv;refine⟨n-(i+1),_,by omega,by constructor<;>cbv,Q,i+1,s,rfl,by omega⟩
 have r:=u h' l;cbv;exact r
theorem cKa{xs:List Row}{a:Nat}(q:Sl 46 ba h (.slice b n f) xs)(e:Sl 46 ba h (.slice c a j) xs)(v:∀h',Le h h'->k (.bool true) h'):
 Ct 137 [.slice b n f,.slice c a j,.func (.func 138) #[] #[]] h k:=by
 obtain⟨A,u⟩:=Ar.ex;have E:=q.len;have w:=e.len;have W:=q.bound.1;have U:A .ay .neq (A .nat n) (A .nat a)=false:=by rw[E,w,av A];simp
 have P:A .not true=false:=by rw[u.not];rfl
 refine bB dJA A Tryz.func137 ?_;cbv;rw[U];cbv;refine aG.go (G:=Int) (λg=>[(17,.v (.int .i64 g))]) (λ_=>[]) (λm g h'=>Le h h'/\∃i,aK g i/\m=n-i/\i<=n) n 0 (by constructor<;>cbv) ⟨Le.refl _,0,⟨rfl⟩,by omega,by omega⟩ ?_
 intro m g h' I;cbv;obtain⟨l,i,z,C,B⟩:=I;refine aJ (λd=>?_) (λd=>?_)
 .have F:=z.lt d;clear d;obtain⟨x,hx⟩:=bn xs i;have y:b.isSome=true/\0<=g/\g<(n:Int):=⟨q.aQ,z.ix F⟩;have X:c.isSome=true/\0<=g/\g<(a:Int):=⟨e.aQ,z.ix (by omega)⟩;have p:=z.eq;have t:=z.succ (A:=A);cbv;refine⟨y,?_⟩;cbv;refine(q.mono (l.t _)).load hx p (λcs o=>?_);obtain⟨D,rfl,s1⟩:=o;obtain⟨J,K,L,rfl⟩:=s1.form;cbv;refine⟨X,?_⟩;cbv;refine(e.mono (l.t _)).load hx p (λcs o=>?_);obtain⟨H,rfl,s2⟩:=o;obtain⟨y1,y2,y3,rfl⟩:=s2.form;cbv;refine aJy (r:=x) s1 s2 ?_;have Q:=l;cbv;rw[P];cbv;refine⟨n-(i+1),_,by omega,by constructor<;>cbv,Q,i+1,t,rfl,by omega⟩
 have s:=v h' l;cbv;exact s
theorem aJz{c e d:Nat}(q:Sl 202 bh h (.slice b n c) cols)(j:Sl 202 bh h (.slice a e d) cols)(g:k (.bool true) h):
 Ct 136 [.agg #[.string nm,.slice b n c,.int .i64 key,.bool only],.agg #[.string nm,.slice a e d,.int .i64 key,.bool only]] h k:=by
 obtain⟨A,f⟩:=Ar.ex;have s:A .js .eql nm nm=true:=by rw[dF A];simp
 have i:A .ay .eql key key=true:=by rw[aq A];simp
 have bb:A .qP .eql only only=true:=by rw[f.qP];cases only<;>rfl
 refine bB dJB A Tryz.func136 ?_;cbv;rw[s];cbv;refine cKf q j ?_;cbv;rw[i];cbv;rw[bb];cbv;exact g
theorem aJD{r:List Row}{e m g o:Nat}(s:Sl 202 bh h (.slice b n e) cols)(t:Sl 202 bh h (.slice a j f) cols)(u:Sl 46 ba h (.slice c m g) r)(v:Sl 46 ba h (.slice d o i) r)(q:∀h',Le h h'->k (.bool true) h'):
 Ct 60 [.agg #[.string nm,.slice b n e,.int .i64 key,.bool only,.slice c m g],.agg #[.string nm,.slice a j f,.int .i64 key,.bool only,.slice d o i]] h k:=by
 refine an gJS Tryz.func60 λA w=>?_;cbv;refine aJz (cols:=cols) s t ?_;cbv;refine cKa u v (λh' l=>?_);have p:=q h' l;cbv;exact p
theorem aJA{W:List bG}{e l g m:Nat}(q:Sl 253 aO h (.slice b n e) H)(p:Sl 253 aO h (.slice a j f) H)(r:Sl 253 aO h (.slice c l g) W)(s:Sl 253 aO h (.slice d m i) W)(o:k (.bool true) h):
 Ct 62 [.agg #[.slice b n e,.slice c l g],.agg #[.slice a j f,.slice d m i]] h k:=by
 refine an gJQ Tryz.func62 λA t=>?_;cbv;refine aZC q p ?_;cbv;refine aZC r s ?_;cbv;exact o
theorem aJB{o:List cC}{m:List kJ}{t:Nat}(g:h t=some (.cells #[.func (.func 54) #[] #[]] 179 (0,0))){e q:Nat}(x:Sl 161 aV h (.slice b n e) o)(y:Sl 161 aV h (.slice a p f) o)(z:Sl 183 cF h (.slice c q i) m)(B:Sl 183 cF h (.slice d r j) m)(v:∀h',Le h h'->k (.bool true) h'):
 Ct 56 [.agg #[.int .i64 s,.slice b n e,.slice c q i],.agg #[.int .i64 s,.slice a p f,.slice d r j],.pointer (some ⟨t,0,none⟩)] h k:=by
 obtain⟨A,C⟩:=Ar.ex;have w:A .ay .eql s s=true:=by rw[aq A];simp
 refine bB gJW A Tryz.func56 ?_;cbv;rw[w];cbv;refine ak g ?_;cbv;refine cKd x y (λh' l=>?_);cbv;refine fKk (z.mono (l.t _)) (B.mono (l.t _)) ?_;have u:=v h' l;cbv;exact u
theorem cKc{xs:List bJ}{a:Nat}(q:Sl 61 bo h (.slice b n f) xs)(e:Sl 61 bo h (.slice c a j) xs)(v:∀h',Le h h'->k (.bool true) h'):
 Ct 59 [.slice b n f,.slice c a j,.func (.func 60) #[] #[]] h k:=by
 obtain⟨A,u⟩:=Ar.ex;have E:=q.len;have w:=e.len;have W:=q.bound.1;have U:A .ay .neq (A .nat n) (A .nat a)=false:=by rw[E,w,av A];simp
 have P:A .not true=false:=by rw[u.not];rfl
 refine bB gJT A Tryz.func59 ?_;cbv;rw[U];cbv;refine aG.go (G:=Int) (λg=>[(17,.v (.int .i64 g))]) (λ_=>[]) (λm g h'=>Le h h'/\∃i,aK g i/\m=n-i/\i<=n) n 0 (by constructor<;>cbv) ⟨Le.refl _,0,⟨rfl⟩,by omega,by omega⟩ ?_
 intro m g h' I;cbv;obtain⟨l,i,z,L,J⟩:=I;refine aJ (λd=>?_) (λd=>?_)
 .have F:=z.lt d;clear d;obtain⟨x,hx⟩:=bn xs i;have B:b.isSome=true/\0<=g/\g<(n:Int):=⟨q.aQ,z.ix F⟩;have X:c.isSome=true/\0<=g/\g<(a:Int):=⟨e.aQ,z.ix (by omega)⟩;have p:=z.eq;have t:=z.succ (A:=A);cbv;refine⟨B,?_⟩;cbv;refine(q.mono (l.t _)).load hx p (λcs o=>?_);obtain⟨M,N,O,R,S,T,rfl,Q,C⟩:=o;cbv;refine⟨X,?_⟩;cbv;refine(e.mono (l.t _)).load hx p (λcs o=>?_);obtain⟨y1,y2,y3,y4,y5,V,rfl,K,D⟩:=o;cbv;refine aJD Q K C D (λH y=>?_);have s:=l.trans y;cbv;rw[P];cbv;refine⟨n-(i+1),_,by omega,by constructor<;>cbv,s,i+1,t,rfl,by omega⟩
 have r:=v h' l;cbv;exact r
theorem cKb{xs:List (ep×Bool)}{a:Nat}(u:h r=some (.cells #[.func (.func 54) #[] #[]] 179 (0,0)))(q:Sl 79 bE h (.slice b n f) xs)(e:Sl 79 bE h (.slice c a j) xs)(w:∀h',Le h h'->k (.bool true) h'):
 Ct 61 [.slice b n f,.slice c a j,.func (.func 56) #[] #[.pointer (some ⟨r,0,none⟩)]] h k:=by
 obtain⟨A,v⟩:=Ar.ex;have E:=q.len;have y:=e.len;have W:=q.bound.1;have U:A .ay .neq (A .nat n) (A .nat a)=false:=by rw[E,y,av A];simp
 have P:A .not true=false:=by rw[v.not];rfl
 refine bB gJR A Tryz.func61 ?_;cbv;rw[U];cbv;refine aG.go (G:=Int) (λg=>[(17,.v (.int .i64 g))]) (λ_=>[]) (λm g h'=>Le h h'/\∃i,aK g i/\m=n-i/\i<=n) n 0 (by constructor<;>cbv) ⟨Le.refl _,0,⟨rfl⟩,by omega,by omega⟩ ?_
 intro m g h' I;cbv;obtain⟨l,i,z,N,M⟩:=I;refine aJ (λd=>?_) (λd=>?_)
 .have F:=z.lt d;clear d;obtain⟨x,hx⟩:=bn xs i;have C:b.isSome=true/\0<=g/\g<(n:Int):=⟨q.aQ,z.ix F⟩;have X:c.isSome=true/\0<=g/\g<(a:Int):=⟨e.aQ,z.ix (by omega)⟩;have p:=z.eq;have t:=z.succ (A:=A);cbv;refine⟨C,?_⟩;cbv;refine(q.mono (l.t _)).load hx p (λcs o=>?_);obtain⟨O,R,S,T,V,Y,rfl,D,H,-⟩:=o;cbv;refine⟨X,?_⟩;cbv;refine(e.mono (l.t _)).load hx p (λcs o=>?_);obtain⟨y1,y2,y3,y4,y5,Z,rfl,J,K,-⟩:=o;cbv;refine aJB (l _ _ u) D J H K (λL B=>?_);have Q:=l.trans B;cbv;rw[P];cbv;refine⟨n-(i+1),_,by omega,by constructor<;>cbv,Q,i+1,t,rfl,by omega⟩
 have s:=w h' l;cbv;exact s
theorem Sk{T:List bJ}{L:List (ep×Bool)}{W:List bG}{f i j m:Option Addr}{F G q I K s:Nat}{t u v w:Option Addr}{B e1 C x D y E z:Nat}
 (q1:Sl 61 bo h (.slice f F p) T) (q2:Sl 79 bE h (.slice i G q) L) (q3:Sl 253 aO h (.slice j I r) H) (q4:Sl 253 aO h (.slice m K s) W)
 (V:Sl 61 bo h (.slice t B e1) T) (X:Sl 79 bE h (.slice u C x) L) (Y:Sl 253 aO h (.slice v D y) H) (Z:Sl 253 aO h (.slice w E z) W)  (R:∀h',Le h h'->k (.bool true) h'):
 Ct 18 [.agg #[.slice f F p,.slice i G q,.slice j I r,.slice m K s],.agg #[.slice t B e1,.slice u C x,.slice v D y,.slice w E z]] h k:=by
 refine an gKr Tryz.func18 λA hA=>?_;cbv;intro d h0 S J;have N:=(congrFun J d).trans ae;cbv;refine jr N (by decide) (λP g=>?_);have l:Le h P:=by
  rw[g,J];intro b o c;have:b≠d:=λe=>by rw[e,S]at c;cases c
  rw[bN this,bN this];exact c
 have O:=(congrFun g d).trans ae;cbv;refine cKc (q1.mono (l.t _)) (V.mono (l.t _)) (λh2 a=>?_);cbv;refine cKb (a _ _ O) (q2.mono ((l.trans a).t _)) (X.mono ((l.trans a).t _)) (λQ U=>?_);have n:=(l.trans a).trans U;cbv;refine aJA (q3.mono (n.t _)) (Y.mono (n.t _)) (q4.mono (n.t _)) (Z.mono (n.t _)) ?_;have M:=R Q n;cbv;exact M
theorem eD.aKb{d:DB}{k g l m:Nat}(q:eD h (.agg #[.slice b n f,.slice a k g,.slice c l i,.slice e m j]) d):
 Sl 61 bo h (.slice b n f) d.aj/\(∃w,Sl 79 bE h (.slice a k g) w/\w.map (·.1)=d.ah)/\Sl 253 aO h (.slice c l i) d.holds/\Sl 253 aO h (.slice e m j) d.waits:=by
 obtain⟨_,_,_,_,_,_,_,_,_,_,_,_,w,o,r,s,t,u,p⟩:=q.out;cases o;exact⟨r,⟨w,s,p⟩,t,u⟩
set_option maxHeartbeats 4000000
def TG(F:Nat->List Row):List bJ:=[⟨aA 0,F 0⟩,⟨aA 1,F 1⟩,⟨aA 2,F 2⟩]
def rZ(F:Nat->List Row)(t:Nat)(R:List Row):Nat->List Row:=λj=>if j=t then R else F j
def GD(s:Int)(F:Nat->List Row)(L:List cC)(M:List kJ)(H:List bG):DB:=⟨TG F,[⟨s,L,M⟩],H,[]⟩
theorem three{t:Nat}(h:t<3):t=0\/t=1\/t=2:=by omega
theorem Bv(F:Nat->List Row){t:Nat}(h:t<3):(TG F)[t]? =some ⟨aA t,F t⟩:=by rcases three h with rfl|rfl|rfl<;>rfl
theorem yi(F:Nat->List Row){t:Nat}(h:t<3)(R:List Row):(TG F).set t ⟨aA t,R⟩=TG (rZ F t R):=by rcases three h with rfl|rfl|rfl<;>rfl
theorem Eb(F:Nat->List Row){t:Nat}(h:t<3):gZ (aB (TG F) (aA t).name)=true/\cR (aB (TG F) (aA t).name)=t:=by
 rcases three h with rfl|rfl|rfl
 .exact⟨by kernel_rfl,by kernel_rfl⟩
 .exact⟨by kernel_rfl,by kernel_rfl⟩
 exact⟨by kernel_rfl,by kernel_rfl⟩
theorem DV(s:Int)(L:List cC)(M:List kJ):gZ (bH [⟨s,L,M⟩] s)=true/\cR (bH [⟨s,L,M⟩] s)=0:=by
 have e:bH [⟨s,L,M⟩] s=[0]:=by unfold bH;simp only[List.map_cons,List.map_nil];rw[Int.sub_self];rfl
 rw[e];exact⟨by kernel_rfl,by kernel_rfl⟩
def pS(s:Int)(H:List bG):Prop:=∀x∈H,x.s=s
theorem pS.any(h:pS s H)(n:ByteArray)(x:Bool):H.any (dm ⟨s,n,x⟩)=false:=by rw[List.any_eq_false];intro o a;unfold dm;rw[h o a];simp
theorem pS.out(h:pS s H):bA H s=[]:=by unfold bA;rw[List.filter_eq_nil_iff];intro x hx;rw[h x hx];simp
theorem pS.ask(h:pS s H)(n:ByteArray)(x:Bool):pS s (cj H ⟨s,n,x⟩)/\(cj H ⟨s,n,x⟩).length<=H.length+1:=by
 unfold cj;split
 .split
  .exact⟨h,by omega⟩
  split
  .rename_i i _;refine⟨λy b=>?_,by simp⟩;rcases List.mem_or_eq_of_mem_set b with a|a
   .exact h y a
   rw[a]
  refine⟨λy b=>?_,by simp⟩;rcases List.mem_append.1 b with a|a
  .exact h y a
  simp at a;rw[a]
 exact⟨h,by omega⟩
theorem Nh(h:pS s H){t:Nat}(b:t<3)(x:Bool):
 ∃a,bU (GD s F L M H) ⟨s,(aA t).name,x⟩=(GD s F L M a,0)/\pS s a/\a.length<=H.length+1:=by
 have f:bz H ⟨s,(aA t).name,x⟩=true:=by unfold bz;rw[h.any];simp
 obtain⟨a1,a2⟩:=h.ask (aA t).name x;refine⟨_,?_,a1,a2⟩;have o:Dv (GD s F L M H) ⟨s,(aA t).name,x⟩=true:=by unfold Dv;simp only[Bool.and_eq_true];exact⟨(DV s L M).1,(Eb F b).1⟩
 unfold bU;rw[if_pos o];unfold kZ;rw[show(GD s F L M H).holds=H from rfl,if_pos f];have w:cm H (GD s F L M H).waits ⟨s,(aA t).name,x⟩=[]:=by unfold cm;rw[if_pos f];rfl
 rw[w];rfl
theorem cQh{R:List Row}{r:Row}(h:SO R)(g:gK r)(t:Nat):(∃e,e≠0/\bm ⟨aA t,R⟩ r=(⟨aA t,R⟩,e))\/
 ∃c,bm ⟨aA t,R⟩ r=(⟨aA t,c⟩,0)/\SO c/\(aY ⟨aA t,c⟩ (qY r 0)).1=⟨aA t,R⟩:=by
 have j:=g.fits;have w:=g;obtain⟨a,v,rfl,-⟩:=w;obtain⟨p,q⟩:=h.sr.at_ a;rw[jv (S:=aA t) rfl h.sr j q];by_cases f:iQ R a p=true
 .rw[if_pos f];exact .inl ⟨7,by decide,rfl⟩
 rw[if_neg f];by_cases b:decide ((R.length:Int)>=200)=true
 .rw[if_pos b];exact .inl ⟨4,by decide,rfl⟩
 rw[if_neg b];have b:R.length<200:=by simp at b;omega
 have i:=h.sr.ins (v:=v) q (by simpa using f);refine .inr ⟨_,rfl,⟨i,λo d=>?_,?_⟩,?_⟩
 .rcases List.mem_append.1 d with d|d
  .rcases List.mem_append.1 d with d|d
   .exact h.ok o (List.mem_of_mem_take d)
   simp at d;rw[d];exact g
  exact h.ok o (List.mem_of_mem_drop d)
 .have:=q.le;simp;omega
 obtain⟨k,l⟩:=q.ins (v:=v);rw[show qY [⟨2,a,dM⟩,v] 0=⟨2,a,dM⟩from rfl,ja (S:=aA t) rfl i k,if_pos l,MJ q.le]
def QL(F:Nat->List Row):Prop:=∀j,j<3->SO (F j)
def G0(F:Nat->List Row):DB:=⟨TG F,[],[],[]⟩
theorem EL(h:pS s H):cW (GD s F L M H) s=(G0 F,L,0):=by obtain⟨b,a⟩:=DV s L M;unfold cW uz;rw[show(GD s F L M H).ah=[⟨s,L,M⟩]from rfl,b,a,show(GD s F L M H).holds=H from rfl,h.out];rfl
theorem UW(d:0<=s/\s<8)(F:Nat->List Row):jT (G0 F) s=(GD s F [] [] [],0):=by
 unfold jT iR;have e:bH (G0 F).ah s=[]:=rfl;rw[e];have h:decide (s<0)=false:=decide_eq_false (by omega);have c:decide (s>=8)=false:=decide_eq_false (by omega);rw[h,c];have a:gZ []=false:=by kernel_rfl
 have b:cR []=0:=by kernel_rfl
 rw[a,b];rfl
theorem Zy{a:Nat->List Row}(h:pS s H)(u:dw (TG F) L=TG a):dU (GD s F L M H) s=(G0 a,0):=by obtain⟨b,c⟩:=DV s L M;unfold dU iI rC uz;rw[show(GD s F L M H).ah=[⟨s,L,M⟩]from rfl,b,c,show(GD s F L M H).holds=H from rfl,h.out,show(GD s F L M H).aj=TG F from rfl];simp only[if_true];rw[show([⟨s,L,M⟩]:List ep)[0]? =some ⟨s,L,M⟩from rfl];simp only;rw[u];rfl
theorem aZw(a:0<=s/\s<8)(h:pS s H)(c:QL F)(e:H.length<=n):pQ n (GD s F L M H):=by
 refine⟨by simp[GD,TG],by simp[GD],by simp[GD];exact a,?_,e,by simp[GD],λx hx=>by rw[h x hx];exact a⟩;intro t b;have l:=λj d=>(c j d).le;simp[GD,TG]at b;rcases b with rfl|rfl|rfl
 .exact Nat.le_trans (l 0 (by omega)) (by decide)
 .exact Nat.le_trans (l 1 (by omega)) (by decide)
 exact Nat.le_trans (l 2 (by omega)) (by decide)
theorem IK(F:Nat->List Row)(b:QL F):Small (G0 F):=by
 refine⟨by simp[G0,TG],by simp[G0],?_,by simp[G0],by simp[G0]⟩;intro t a;have h:=λj c=>(b j c).le;simp[G0,TG]at a;rcases a with rfl|rfl|rfl
 .exact Nat.le_trans (h 0 (by omega)) (by decide)
 .exact Nat.le_trans (h 1 (by omega)) (by decide)
 exact Nat.le_trans (h 2 (by omega)) (by decide)
end Go.S
