import Derived.Test.YthnbpiejemlbeaaGreatJ3a
set_option linter.all false
set_option maxRecDepth 100000
set_option maxHeartbeats 8000000
namespace Go.S
open Go.Sx Go.Proofs
variable {only:Bool}{nm:ByteArray}{key:Int}{H:List bZ}{cols:List jR}{f g i j n o p:Nat}{a b c d e:Option Addr}{k:Value->ad->Prop}{h:ad}
theorem eQh{xs:List jq}{c:Nat}(q:Sl 45 bG h (.slice d n o) xs)(l:Sl 45 bG h (.slice e c p) xs)(v:k (.bool true) h):
 Ct 55 [.slice d n o,.slice e c p] h k:=by
 obtain⟨A,f⟩:=Ar.ex;have y:=q.len;have N:=l.len;have H:=q.bound.1;have C:A .aQ .neq (A .nat n) (A .nat c)=false:=by rw[y,N,aJ A];simp
 have w:∀a:Int,A .aQ .eql a a=true:=λa=>by rw[au A];simp
 have B:∀s:ByteArray,A .lu .eql s s=true:=λs=>by rw[eV A];simp
 have t:∀x:Bool,A .uP .eql x x=true:=λx=>by rw[f.uP];cases x<;>rfl
 have K:∀(a b:Int) (s:ByteArray),A .not (A .and (A .aQ .eql a a) (A .and (A .aQ .eql b b) (A .and (A .lu .eql s s) true)))=false:=by
  intros
  simp only[w,B,t];rw[f.not,f.and];rfl
 refine kh fZA A Tryz.func55 ?_;cbv;rw[C];cbv;refine ba.gz (G:=Int) (λg=>[(13,.v (.zI g))]) (λ_=>[]) (λm g h'=>h'=h/\∃i,bg g i/\m=n-i/\i<=n) n 0 ⟨rfl,0,⟨rfl⟩,ip,ip⟩ ?_
 intro m g h' u;cbv;obtain⟨rfl,i,z,E,D⟩:=u;refine bm (λj=>?_) (λj=>?_)
 .have Z:=z.lt j;clear j;obtain⟨⟨va,vb,vc⟩,hx⟩:=cK xs i;have Y:d.isSome=true/\0<=g/\g<(n:Int):=⟨q.bu,z.ix Z⟩;have F:e.isSome=true/\0<=g/\g<(c:Int):=⟨l.bu,z.ix ip⟩;have I:=z.eq;have O:=z.succ (A:=A);cbv;refine⟨Y,?_⟩;cbv;refine q.load hx I (λcs r=>?_);have r:cs=[.zI va,.zI vb,.string vc]:=r;subst r;cbv;refine⟨F,?_⟩;cbv;refine l.load hx I (λcs r=>?_);have r:cs=[.zI va,.zI vb,.string vc]:=r;subst r;cbv;rw[K];cbv;refine zqn (n-(i+1)) _ ip ⟨rfl,i+1,O,rfl,ip⟩
 cbv;exact v
theorem eQi{xs:List jR}{c:Nat}(q:Sl 202 bJ h (.slice d n o) xs)(l:Sl 202 bJ h (.slice e c p) xs)(v:k (.bool true) h):
 Ct 257 [.slice d n o,.slice e c p] h k:=by
 obtain⟨A,f⟩:=Ar.ex;have y:=q.len;have N:=l.len;have H:=q.bound.1;have C:A .aQ .neq (A .nat n) (A .nat c)=false:=by rw[y,N,aJ A];simp
 have w:∀a:Int,A .aQ .eql a a=true:=λa=>by rw[au A];simp
 have B:∀s:ByteArray,A .lu .eql s s=true:=λs=>by rw[eV A];simp
 have t:∀x:Bool,A .uP .eql x x=true:=λx=>by rw[f.uP];cases x<;>rfl
 have K:∀(s:ByteArray) (a:Int) (b:Bool),A .not (A .and (A .lu .eql s s) (A .and (A .aQ .eql a a) (A .and (A .uP .eql b b) true)))=false:=by
  intros
  simp only[w,B,t];rw[f.not,f.and];rfl
 refine kh eZG A Tryz.func257 ?_;cbv;rw[C];cbv;refine ba.gz (G:=Int) (λg=>[(13,.v (.zI g))]) (λ_=>[]) (λm g h'=>h'=h/\∃i,bg g i/\m=n-i/\i<=n) n 0 ⟨rfl,0,⟨rfl⟩,ip,ip⟩ ?_
 intro m g h' u;cbv;obtain⟨rfl,i,z,E,D⟩:=u;refine bm (λj=>?_) (λj=>?_)
 .have Z:=z.lt j;clear j;obtain⟨⟨va,vb,vc⟩,hx⟩:=cK xs i;have Y:d.isSome=true/\0<=g/\g<(n:Int):=⟨q.bu,z.ix Z⟩;have F:e.isSome=true/\0<=g/\g<(c:Int):=⟨l.bu,z.ix ip⟩;have I:=z.eq;have O:=z.succ (A:=A);cbv;refine⟨Y,?_⟩;cbv;refine q.load hx I (λcs r=>?_);have r:cs=[.string va,.zI vb,.bool vc]:=r;subst r;cbv;refine⟨F,?_⟩;cbv;refine l.load hx I (λcs r=>?_);have r:cs=[.string va,.zI vb,.bool vc]:=r;subst r;cbv;rw[K];cbv;refine zqn (n-(i+1)) _ ip ⟨rfl,i+1,O,rfl,ip⟩
 cbv;exact v
theorem bJn{xs:List bZ}{c:Nat}(q:Sl 253 bC h (.slice d n o) xs)(l:Sl 253 bC h (.slice e c p) xs)(v:k (.bool true) h):
 Ct 139 [.slice d n o,.slice e c p] h k:=by
 obtain⟨A,f⟩:=Ar.ex;have y:=q.len;have N:=l.len;have H:=q.bound.1;have C:A .aQ .neq (A .nat n) (A .nat c)=false:=by rw[y,N,aJ A];simp
 have w:∀a:Int,A .aQ .eql a a=true:=λa=>by rw[au A];simp
 have B:∀s:ByteArray,A .lu .eql s s=true:=λs=>by rw[eV A];simp
 have t:∀x:Bool,A .uP .eql x x=true:=λx=>by rw[f.uP];cases x<;>rfl
 have K:∀(a:Int) (s:ByteArray) (b:Bool),A .not (A .and (A .aQ .eql a a) (A .and (A .lu .eql s s) (A .and (A .uP .eql b b) true)))=false:=by
  intros
  simp only[w,B,t];rw[f.not,f.and];rfl
 refine kh eKC A Tryz.func139 ?_;cbv;rw[C];cbv;refine ba.gz (G:=Int) (λg=>[(13,.v (.zI g))]) (λ_=>[]) (λm g h'=>h'=h/\∃i,bg g i/\m=n-i/\i<=n) n 0 ⟨rfl,0,⟨rfl⟩,ip,ip⟩ ?_
 intro m g h' u;cbv;obtain⟨rfl,i,z,E,D⟩:=u;refine bm (λj=>?_) (λj=>?_)
 .have Z:=z.lt j;clear j;obtain⟨⟨va,vb,vc⟩,hx⟩:=cK xs i;have Y:d.isSome=true/\0<=g/\g<(n:Int):=⟨q.bu,z.ix Z⟩;have F:e.isSome=true/\0<=g/\g<(c:Int):=⟨l.bu,z.ix ip⟩;have I:=z.eq;have O:=z.succ (A:=A);cbv;refine⟨Y,?_⟩;cbv;refine q.load hx I (λcs r=>?_);have r:cs=[.zI va,.string vb,.bool vc]:=r;subst r;cbv;refine⟨F,?_⟩;cbv;refine l.load hx I (λcs r=>?_);have r:cs=[.zI va,.string vb,.bool vc]:=r;subst r;cbv;rw[K];cbv;refine zqn (n-(i+1)) _ ip ⟨rfl,i+1,O,rfl,ip⟩
 cbv;exact v
theorem hQN{xs:List mS}{l b:Nat}(q:Sl 183 dw h (.slice c n l) xs)(j:Sl 183 dw h (.slice d b o) xs)(u:k (.bool true) h):
 Ct 58 [.slice c n l,.slice d b o] h k:=by
 obtain⟨A,e⟩:=Ar.ex;have w:=q.len;have N:=j.len;have E:=q.bound.1;have B:A .aQ .neq (A .nat n) (A .nat b)=false:=by rw[w,N,aJ A];simp
 have v:∀a:Int,A .aQ .eql a a=true:=λa=>by rw[au A];simp
 have y:∀s:ByteArray,A .lu .eql s s=true:=λs=>by rw[eV A];simp
 have p:∀x:Bool,A .uP .eql x x=true:=λx=>by rw[e.uP];cases x<;>rfl
 have K:∀(s:ByteArray) (a:Int),A .not (A .and (A .lu .eql s s) (A .and (A .aQ .eql a a) true))=false:=by
  intros
  simp only[v,y,p];rw[e.not,e.and];rfl
 refine kh iQF A Tryz.func58 ?_;cbv;rw[B];cbv;refine ba.gz (G:=Int) (λg=>[(13,.v (.zI g))]) (λ_=>[]) (λm g h'=>h'=h/\∃i,bg g i/\m=n-i/\i<=n) n 0 ⟨rfl,0,⟨rfl⟩,ip,ip⟩ ?_
 intro m g h' t;cbv;obtain⟨rfl,i,z,D,C⟩:=t;refine bm (λf=>?_) (λf=>?_)
 .have Z:=z.lt f;clear f;obtain⟨⟨va,vb⟩,hx⟩:=cK xs i;have Y:c.isSome=true/\0<=g/\g<(n:Int):=⟨q.bu,z.ix Z⟩;have F:d.isSome=true/\0<=g/\g<(b:Int):=⟨j.bu,z.ix ip⟩;have I:=z.eq;have O:=z.succ (A:=A);cbv;refine⟨Y,?_⟩;cbv;refine q.load hx I (λcs r=>?_);have r:cs=[.string va,.zI vb]:=r;subst r;cbv;refine⟨F,?_⟩;cbv;refine j.load hx I (λcs r=>?_);have r:cs=[.string va,.zI vb]:=r;subst r;cbv;rw[K];cbv;refine zqn (n-(i+1)) _ ip ⟨rfl,i+1,O,rfl,ip⟩
 cbv;exact u
theorem bKs{r:Row}{c e d:Nat}(q:Sl 45 bG h (.slice b n c) r)(g:Sl 45 bG h (.slice a e d) r)(f:k (.bool true) h):
 Ct 138 [.slice b n c,.slice a e d] h k:=by
 refine cB bXn Tryz.func138 λA i=>?_;cbv;refine eQh q g ?_;cbv;exact f
theorem bKw{x:cR}{c e d:Nat}(q:Sl 45 bG h (.slice b n c) x.row)(g:Sl 45 bG h (.slice a e d) x.row)(f:k (.bool true) h):
 Ct 54 [.agg #[.string x.table,.zI x.op,.slice b n c],.agg #[.string x.table,.zI x.op,.slice a e d]] h k:=by
 obtain⟨A,j⟩:=Ar.ex;obtain⟨t,o,xr⟩:=x;have s:A .lu .eql t t=true:=by rw[eV A];simp
 have i:A .aQ .eql o o=true:=by rw[au A];simp
 refine kh iQI A Tryz.func54 ?_;cbv;rw[s];cbv;rw[i];cbv;refine eQh (xs:=xr) q g ?_;cbv;exact f
theorem eQg{xs:List cR}{a:Nat}(q:Sl 161 bD h (.slice b n f) xs)(e:Sl 161 bD h (.slice c a j) xs)(t:∀h',Le h h'->k (.bool true) h'):
 Ct 57 [.slice b n f,.slice c a j,.func (.func 54) #[] #[]] h k:=by
 obtain⟨A,p⟩:=Ar.ex;have u:=q.len;have N:=e.len;have B:=q.bound.1;have v:A .aQ .neq (A .nat n) (A .nat a)=false:=by rw[u,N,aJ A];simp
 have E:A .not true=false:=by rw[p.not];rfl
 refine kh iQG A Tryz.func57 ?_;cbv;rw[v];cbv;refine ba.gz (G:=Int) (λg=>[(17,.v (.zI g))]) (λ_=>[]) (λm g h'=>Le h h'/\∃i,bg g i/\m=n-i/\i<=n) n 0 ⟨Le.refl _,0,⟨rfl⟩,ip,ip⟩ ?_
 intro m g h' s;cbv;obtain⟨l,i,z,y,w⟩:=s;refine bm (λd=>?_) (λd=>?_)
 .have Z:=z.lt d;clear d;obtain⟨x,hx⟩:=cK xs i;have Y:b.isSome=true/\0<=g/\g<(n:Int):=⟨q.bu,z.ix Z⟩;have F:c.isSome=true/\0<=g/\g<(a:Int):=⟨e.bu,z.ix ip⟩;have I:=z.eq;have O:=z.succ (A:=A);cbv;refine⟨Y,?_⟩;cbv;refine(q.mono (l.t _)).load hx I (λcs r=>?_);obtain⟨C,D,H,rfl,s1⟩:=r;cbv;refine⟨F,?_⟩;cbv;refine(e.mono (l.t _)).load hx I (λcs r=>?_);obtain⟨y1,y2,y3,rfl,s2⟩:=r;cbv;refine bKw (x:=x) s1 s2 ?_;have M:=l;cbv;rw[E];cbv;refine zqn (n-(i+1)) _ ip ⟨M,i+1,O,rfl,ip⟩
 have o:=t h' l;cbv;exact o
theorem eQd{xs:List Row}{a:Nat}(q:Sl 46 bK h (.slice c n j) xs)(f:Sl 46 bK h (.slice d a o) xs)(u:∀h',Le h h'->k (.bool true) h'):
 Ct 137 [.slice c n j,.slice d a o,.func (.func 138) #[] #[]] h k:=by
 obtain⟨A,s⟩:=Ar.ex;have v:=q.len;have N:=f.len;have C:=q.bound.1;have w:A .aQ .neq (A .nat n) (A .nat a)=false:=by rw[v,N,aJ A];simp
 have E:A .not true=false:=by rw[s.not];rfl
 refine kh eKD A Tryz.func137 ?_;cbv;rw[w];cbv;refine ba.gz (G:=Int) (λg=>[(17,.v (.zI g))]) (λ_=>[]) (λm g h'=>Le h h'/\∃i,bg g i/\m=n-i/\i<=n) n 0 ⟨Le.refl _,0,⟨rfl⟩,ip,ip⟩ ?_
 intro m g h' t;cbv;obtain⟨l,i,z,B,y⟩:=t;refine bm (λe=>?_) (λe=>?_)
 .have Z:=z.lt e;clear e;obtain⟨x,hx⟩:=cK xs i;have Y:c.isSome=true/\0<=g/\g<(n:Int):=⟨q.bu,z.ix Z⟩;have F:d.isSome=true/\0<=g/\g<(a:Int):=⟨f.bu,z.ix ip⟩;have I:=z.eq;have O:=z.succ (A:=A);cbv;refine⟨Y,?_⟩;cbv;refine(q.mono (l.t _)).load hx I (λcs b=>?_);obtain⟨D,rfl,s1⟩:=b;obtain⟨J,K,L,rfl⟩:=s1.form;cbv;refine⟨F,?_⟩;cbv;refine(f.mono (l.t _)).load hx I (λcs b=>?_);obtain⟨H,rfl,s2⟩:=b;obtain⟨y1,y2,y3,rfl⟩:=s2.form;cbv;refine bKs (r:=x) s1 s2 ?_;have M:=l;cbv;rw[E];cbv;refine zqn (n-(i+1)) _ ip ⟨M,i+1,O,rfl,ip⟩
 have p:=u h' l;cbv;exact p
theorem bKt{c e d:Nat}(q:Sl 202 bJ h (.slice b n c) cols)(g:Sl 202 bJ h (.slice a e d) cols)(j:k (.bool true) h):
 Ct 136 [.agg #[.string nm,.slice b n c,.zI key,.bool only],.agg #[.string nm,.slice a e d,.zI key,.bool only]] h k:=by
 obtain⟨A,f⟩:=Ar.ex;have s:A .lu .eql nm nm=true:=by rw[eV A];simp
 have i:A .aQ .eql key key=true:=by rw[au A];simp
 have bb:A .uP .eql only only=true:=by rw[f.uP];cases only<;>rfl
 refine kh eKE A Tryz.func136 ?_;cbv;rw[s];cbv;refine eQi q g ?_;cbv;rw[i];cbv
 grind
theorem bKx{r:List Row}{e m:Nat}(q:Sl 202 bJ h (.slice b n e) cols)(s:Sl 202 bJ h (.slice a j f) cols)(t:Sl 46 bK h (.slice c m g) r)(u:Sl 46 bK h (.slice d o i) r)(p:∀h',Le h h'->k (.bool true) h'):
 Ct 60 [.agg #[.string nm,.slice b n e,.zI key,.bool only,.slice c m g],.agg #[.string nm,.slice a j f,.zI key,.bool only,.slice d o i]] h k:=by
 refine cB iQD Tryz.func60 λA v=>?_;cbv;refine bKt (cols:=cols) q s ?_;cbv;refine eQd t u (λh' l=>?_);have z:=p h' l;cbv;exact z
theorem bKu{W:List bZ}{e l m:Nat}(q:Sl 253 bC h (.slice b n e) H)(p:Sl 253 bC h (.slice a j f) H)(r:Sl 253 bC h (.slice c l g) W)(s:Sl 253 bC h (.slice d m i) W)(o:k (.bool true) h):
 Ct 62 [.agg #[.slice b n e,.slice c l g],.agg #[.slice a j f,.slice d m i]] h k:=by
 refine cB iQB Tryz.func62 λA t=>?_;cbv;refine bJn q p ?_;cbv;refine bJn r s ?_;cbv;exact o
theorem bKv{s:Int}{o:List cR}{m:List mS}{t:Nat}(g:h t=some (.cells #[.func (.func 54) #[] #[]] 179 (0,0))){e q r:Nat}(w:Sl 161 bD h (.slice b n e) o)(x:Sl 161 bD h (.slice a p f) o)(y:Sl 183 dw h (.slice c q i) m)(B:Sl 183 dw h (.slice d r j) m)(u:∀h',Le h h'->k (.bool true) h'):
 Ct 56 [.agg #[.zI s,.slice b n e,.slice c q i],.agg #[.zI s,.slice a p f,.slice d r j],.zP t] h k:=by
 obtain⟨A,C⟩:=Ar.ex;have v:A .aQ .eql s s=true:=by rw[au A];simp
 refine kh iQH A Tryz.func56 ?_;cbv;rw[v];cbv;refine cy g ?_;cbv;refine eQg w x (λh' l=>?_);cbv;refine hQN (y.mono (l.t _)) (B.mono (l.t _)) ?_;have z:=u h' l;cbv;exact z
theorem eQf{xs:List bS}{a:Nat}(q:Sl 61 bT h (.slice b n f) xs)(e:Sl 61 bT h (.slice c a j) xs)(u:∀h',Le h h'->k (.bool true) h'):
 Ct 59 [.slice b n f,.slice c a j,.func (.func 60) #[] #[]] h k:=by
 obtain⟨A,s⟩:=Ar.ex;have w:=q.len;have N:=e.len;have J:=q.bound.1;have y:A .aQ .neq (A .nat n) (A .nat a)=false:=by rw[w,N,aJ A];simp
 have E:A .not true=false:=by rw[s.not];rfl
 refine kh iQE A Tryz.func59 ?_;cbv;rw[y];cbv;refine ba.gz (G:=Int) (λg=>[(17,.v (.zI g))]) (λ_=>[]) (λm g h'=>Le h h'/\∃i,bg g i/\m=n-i/\i<=n) n 0 ⟨Le.refl _,0,⟨rfl⟩,ip,ip⟩ ?_
 intro m g h' t;cbv;obtain⟨l,i,z,H,D⟩:=t;refine bm (λd=>?_) (λd=>?_)
 .have o:=z.lt d;clear d;obtain⟨x,hx⟩:=cK xs i;have Y:b.isSome=true/\0<=g/\g<(n:Int):=⟨q.bu,z.ix o⟩;have F:c.isSome=true/\0<=g/\g<(a:Int):=⟨e.bu,z.ix ip⟩;have I:=z.eq;have O:=z.succ (A:=A);cbv;refine⟨Y,?_⟩;cbv;refine(q.mono (l.t _)).load hx I (λcs r=>?_);obtain⟨K,L,P,Q,R,S,rfl,Z,xr⟩:=r;cbv;refine⟨F,?_⟩;cbv;refine(e.mono (l.t _)).load hx I (λcs r=>?_);obtain⟨y1,y2,y3,y4,y5,T,rfl,X,B⟩:=r;cbv;refine bKx Z X xr B (λC v=>?_);have M:=l.trans v;cbv;rw[E];cbv;refine zqn (n-(i+1)) _ ip ⟨M,i+1,O,rfl,ip⟩
 have p:=u h' l;cbv;exact p
theorem eQe{xs:List (eJ×Bool)}{a:Nat}(s:h o=some (.cells #[.func (.func 54) #[] #[]] 179 (0,0)))(q:Sl 79 cu h (.slice b n f) xs)(e:Sl 79 cu h (.slice c a j) xs)(v:∀h',Le h h'->k (.bool true) h'):
 Ct 61 [.slice b n f,.slice c a j,.func (.func 56) #[] #[.zP o]] h k:=by
 obtain⟨A,t⟩:=Ar.ex;have y:=q.len;have N:=e.len;have Q:=q.bound.1;have B:A .aQ .neq (A .nat n) (A .nat a)=false:=by rw[y,N,aJ A];simp
 have E:A .not true=false:=by rw[t.not];rfl
 refine kh iQC A Tryz.func61 ?_;cbv;rw[B];cbv;refine ba.gz (G:=Int) (λg=>[(17,.v (.zI g))]) (λ_=>[]) (λm g h'=>Le h h'/\∃i,bg g i/\m=n-i/\i<=n) n 0 ⟨Le.refl _,0,⟨rfl⟩,ip,ip⟩ ?_
 intro m g h' u;cbv;obtain⟨l,i,z,P,L⟩:=u;refine bm (λd=>?_) (λd=>?_)
 .have Z:=z.lt d;clear d;obtain⟨x,hx⟩:=cK xs i;have Y:b.isSome=true/\0<=g/\g<(n:Int):=⟨q.bu,z.ix Z⟩;have F:c.isSome=true/\0<=g/\g<(a:Int):=⟨e.bu,z.ix ip⟩;have I:=z.eq;have O:=z.succ (A:=A);cbv;refine⟨Y,?_⟩;cbv;refine(q.mono (l.t _)).load hx I (λcs r=>?_);obtain⟨R,S,T,U,V,W,rfl,C,D,-⟩:=r;cbv;refine⟨F,?_⟩;cbv;refine(e.mono (l.t _)).load hx I (λcs r=>?_);obtain⟨y1,y2,y3,y4,y5,X,rfl,H,J,-⟩:=r;cbv;refine bKv (l _ _ s) C H D J (λK w=>?_);have M:=l.trans w;cbv;rw[E];cbv;refine zqn (n-(i+1)) _ ip ⟨M,i+1,O,rfl,ip⟩
 have p:=v h' l;cbv;exact p
theorem bKy{T:List bS}{ws:List (eJ×Bool)}{W:List bZ}{f:Option Addr}{B C D E m:Nat}{p q r s:Option Addr}{w e1 x t y u z v:Nat}
 (V:Sl 61 bT h (.slice c B g) T) (X:Sl 79 cu h (.slice d C i) ws) (Y:Sl 253 bC h (.slice e D j) H) (Z:Sl 253 bC h (.slice f E m) W)
 (Q:Sl 61 bT h (.slice p w e1) T) (R:Sl 79 cu h (.slice q x t) ws) (S:Sl 253 bC h (.slice r y u) H) (U:Sl 253 bC h (.slice s z v) W)  (N:∀h',Le h h'->k (.bool true) h'):
 Ct 18 [.agg #[.slice c B g,.slice d C i,.slice e D j,.slice f E m],.agg #[.slice p w e1,.slice q x t,.slice r y u,.slice s z v]] h k:=by
 refine cB iXh Tryz.func18 λA hA=>?_;cbv;intro F h0 hn O;have I:=zqt O;cbv;refine jE I dl (λL K=>?_);have l:Le h L:=by
  rw[K,O];intro b o hb
  grind [cH]
 have J:=zqt K;cbv;refine eQf (V.mono (l.t _)) (Q.mono (l.t _)) (λh2 a=>?_);cbv;refine eQe (a _ _ J) (X.mono ((l.trans a).t _)) (R.mono ((l.trans a).t _)) (λM P=>?_);have n:=(l.trans a).trans P;cbv;refine bKu (Y.mono (n.t _)) (S.mono (n.t _)) (Z.mono (n.t _)) (U.mono (n.t _)) ?_;have G:=N M n;cbv;exact G
theorem fD.Ps{d:DB}{k l m:Nat}(q:fD h (.agg #[.slice b n f,.slice a k g,.slice c l i,.slice e m j]) d):
 Sl 61 bT h (.slice b n f) d.ao/\(∃ws,Sl 79 cu h (.slice a k g) ws/\ws.map (·.1)=d.ai)/\Sl 253 bC h (.slice c l i) d.holds/\Sl 253 bC h (.slice e m j) d.waits:=by
 obtain⟨_,_,_,_,_,_,_,_,_,_,_,_,ws,o,r,s,t,u,p⟩:=q.out
 grind
set_option maxHeartbeats 4000000
def TG(F:Nat->List Row):List bS:=[⟨aS 0,F 0⟩,⟨aS 1,F 1⟩,⟨aS 2,F 2⟩]
def vS(F:Nat->List Row)(t:Nat)(R:List Row):Nat->List Row:=λj=>if j=t then R else F j
theorem three{t:Nat}(h:t<3):t=0\/t=1\/t=2:=ip
def G0(F:Nat->List Row):DB:=⟨TG F,[],[],[]⟩
end Go.S
