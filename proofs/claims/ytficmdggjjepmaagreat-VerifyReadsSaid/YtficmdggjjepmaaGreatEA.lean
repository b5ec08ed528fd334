import Derived.Test.YtficmdggjjepmaaGreatDB
set_option linter.all false
set_option maxRecDepth 100000
namespace Go.S
open Go.Sx Go.Proofs
variable {only:Bool}{nm:ByteArray}{z:Int}{L:List (List Row)}{xs:List Int}{rows:List Row}{a:List gY}{D c cap m n:Nat}{b:Option Addr}{r:Row}{h:ab}
theorem Dm{xs:List gY}{len:Nat}(q:Sl 58 bt h (.slice b len cap) xs):
 Ct 201 [.slice b len cap] h (λv h'=>Le h h'/\∃d Q,v=.slice d len Q/\aT 58 bt h h' (.slice d len Q) xs):=by
 refine cp XL Tryz.func201 λA j=>?_;cbv;refine aL (λa=>?_) (λa=>?_)
 .rw[j.yw]at a;cbv;have k:b=none:=by cases b<;>simp at a |-
  subst k;have hl:len=0:=by
   rcases hJL len with e|e
   .exact e
   have:=q.aR e;cases this
  have:=q.len;have hx:xs=[]:=ee (by omega);subst hx hl;exact⟨Le.refl _,none,0,rfl,aT.nil⟩
 cbv;intro p i R r;have l:Le h i:=by rw[r];exact Le.set R
 cbv;refine fj (q.mono (l.t _)) (by simp[bt]) rfl (by decide) (λn=>?_) (λs c o e1 m f g=>?_)
 .cbv;have:=q.len;have hx:xs=[]:=ee (by omega);subst hx n;exact⟨l,_,_,rfl,aT.nil⟩
 cbv;exact⟨l.trans f,_,_,rfl,g.buf (l.none e1) q.len⟩
theorem Dl{xs:List gI}{len:Nat}(q:Sl 87 aZ h (.slice b len cap) xs):
 Ct 174 [.slice b len cap] h (λv h'=>Le h h'/\∃d Q,v=.slice d len Q/\aT 87 aZ h h' (.slice d len Q) xs):=by
 refine cp XP Tryz.func174 λA j=>?_;cbv;refine aL (λa=>?_) (λa=>?_)
 .rw[j.yw]at a;cbv;have k:b=none:=by cases b<;>simp at a |-
  subst k;have hl:len=0:=by
   rcases hJL len with e|e
   .exact e
   have:=q.aR e;cases this
  have:=q.len;have hx:xs=[]:=ee (by omega);subst hx hl;exact⟨Le.refl _,none,0,rfl,aT.nil⟩
 cbv;intro p i R r;have l:Le h i:=by rw[r];exact Le.set R
 cbv;refine fj (q.mono (l.t _)) (by simp[aZ]) rfl (by decide) (λn=>?_) (λs c o e1 m f g=>?_)
 .cbv;have:=q.len;have hx:xs=[]:=ee (by omega);subst hx n;exact⟨l,_,_,rfl,aT.nil⟩
 cbv;exact⟨l.trans f,_,_,rfl,g.buf (l.none e1) q.len⟩
abbrev bJ.v(h:bJ):Value:=.agg #[.int .i64 h.s,.string h.table,.bool h.x]
def fS(a b:bJ):Bool:=decide (a.s≠b.s)&&(decide (a.table=b.table)&&(a.x||b.x))
def bO(l:List bJ)(s:Int):List bJ:=l.filter λh=>decide (h.s≠s)
def kA(h o:bJ):Bool:=decide (o.s=h.s)&&decide (o.table=h.table)
theorem WG(d:aM z m)(n:m<=2^38):
 Ct 314 [.slice none 0 0,.int .i64 z] h (λv h'=>Le h h'/\∃b c',v=.slice b 0 c'/\aT 88 aU h h' (.slice b 0 c') ([]:List Row)):=by
 obtain⟨A,j⟩:=Ar.ex;have h0:aM (A .nat 0) 0:=aM.nat 0;have a:=d.sub (A:=A) (h0.sub (A:=A) h0 (by omega) (by omega)) (by omega) (by omega);simp only[hKr,hJW]at a;refine dH cXM A Tryz.func314 ?_;cbv;rw[d.vf (A:=A)];cbv;generalize e:A .az .gtr (A .aC .sub .i64 z (A .aC .sub .i64 (A .nat 0) (A .nat 0))) 0=u;generalize g:A .aC .sub .i64 z (A .aC .sub .i64 (A .nat 0) (A .nat 0))=w at a e;rw[aO A]at e;cases u with
 |true=>
  have p:=qH e;have J:0<m:=by have:=a.eq;omega
  cbv;have M:(0:Int)<=A .nat 0/\A .nat 0<=((0:Nat):Int):=by have:=h0.eq;omega
  refine⟨M,?_⟩;cbv;refine⟨rG a (by omega) (by decide),?_⟩;cbv;rw[cQ (A:=A) a,cQ (A:=A) h0];refine ly (s:=aU) (xs:=([]:List Row)) Sl.nil (by omega) rfl (by decide) (by omega) rfl rfl (λq c i V l k o=>?_);rw[qp];have f:(0:Int)<=A .nat 0/\A .nat 0<=((c:Nat):Int):=by have:=h0.eq;omega
  cbv;refine⟨f,?_⟩;cbv;rw[cQ (A:=A) h0,rC (A:=A)];exact⟨l,_,_,rfl,o.buf V rfl⟩
 |false=>cbv;exact⟨Le.refl _,_,_,rfl,aT.nil⟩
theorem Nu(q:Sl 98 (sM 88 aU) h (.slice b n c) L)(M:L.flatten.length<=2^38):
 Ct 266 [.slice b n c] h (λv h'=>Le h h'/\∃o n' c',v=.slice o n' c'/\aT 88 aU h h' (.slice o n' c') L.flatten):=by
 have C:=q.len;obtain⟨iY,X⟩:=q.bound;refine cp cZv Tryz.func266 λA hA=>?_;cbv;refine aK.go (G:=Int×Int) (λg=>[(11,.v (.int .i64 g.1)),(3,.v (.int .i64 g.2))]) (λ_=>[])
  (λk g h'=>∃i:Nat,aM g.1 i/\k=n-i/\i<=n/\h'=h/\aM g.2 (L.take i).flatten.length) n (0,0) ⟨?_,?_,?_⟩ ⟨0,⟨rfl⟩,by omega,by omega,rfl,⟨rfl⟩⟩ ?_
 .cbv
 .cbv
 .cbv
 intro k g h' s;cbv;obtain⟨i,a,K,J,rfl,j⟩:=s;refine aL (λd=>?_) (λd=>?_)
 .have I:=a.lt d;clear d;cbv;obtain⟨x,hx⟩:=di L i;refine⟨⟨q.aR,a.ix I⟩,?_⟩;cbv;refine q.load hx a.eq (λcs u=>?_);obtain⟨v,rfl,f⟩:=u;obtain⟨t,r,y,rfl⟩:=f.form;have P:=f.len;have l:=sB L (i+1);rw[eX hx,dr,<-P]at l;have E:=j.add (A:=A) (aM.nat (A:=A) r) (by omega);have V:=eX hx;cbv;rw[E.vf (A:=A)];cbv;refine⟨n-(i+1),(_,A .aC .add .i64 g.2 (A .nat r)),by omega,by constructor<;>cbv,i+1,a.succ (A:=A),rfl,by omega,rfl,?_⟩
  .rw[V,dr,<-P];exact E
 have W:=a.ge d;have Z:i=n:=by omega
 rw[hO (by omega)]at j;obtain⟨z,w⟩:=g;have j:aM w L.flatten.length:=j;cbv;refine(WG j M).mono (λv U hR=>?_);obtain⟨r,t,y,rfl,e⟩:=hR;cbv;refine aK.go (G:=Int×Option Addr×Nat×Nat) (λg=>[(27,.v (.int .i64 g.1)),(6,.v (.slice g.2.1 g.2.2.1 g.2.2.2))]) (λ_=>[])
  (λk g p=>∃i:Nat,aM g.1 i/\k=n-i/\i<=n/\Le h' p/\aT 88 aU h' p (.slice g.2.1 g.2.2.1 g.2.2.2) (L.take i).flatten) n (0,t,0,y) ⟨?_,?_,?_⟩ ⟨0,⟨rfl⟩,by omega,by omega,r,e⟩ ?_
 .cbv
 .cbv
 .cbv
 intro k g p s;cbv;obtain⟨i,a,K,J,l,e⟩:=s;obtain⟨z,F,B,H⟩:=g;have a:aM z i:=a;have e:aT 88 aU h' p (.slice F B H) (L.take i).flatten:=e;refine aL (λd=>?_) (λd=>?_)
 .have I:=a.lt d;clear d;cbv;obtain⟨x,hx⟩:=di L i;refine⟨⟨q.aR,a.ix I⟩,?_⟩;cbv;refine(q.mono (l.t _)).load hx a.eq (λcs u=>?_);obtain⟨v,rfl,f⟩:=u;obtain⟨S,l2,T,rfl⟩:=f.form;have N:=f.len;have Q:B=(L.take i).flatten.length:=e.sl.len;have D:=sB L (i+1);have V:=eX hx;rw[V,dr,<-N,<-Q]at D;cbv;refine e.append f (by decide) rfl (by decide) (by omega) l (λm o c' Y hm O t3 k3 R=>?_);cbv;refine⟨n-(i+1),(_,o,m,c'),by omega,by constructor<;>cbv,i+1,a.succ (A:=A),rfl,by omega,O,?_⟩
  .rw[V];exact R
 have W:=a.ge d;cbv;rw[hO (by omega)]at e;exact⟨l,_,_,_,rfl,e⟩
def dm:Sh Int where
 n:=1
 R _ cs v:=cs=[.int .i64 v]
 len:=by rintro h cs x rfl;rfl
 one:=by rintro h cs x rfl;rfl
 tys:=[]
 mono:=λ_ q=>q
def fY(a b:Int):Int:=if decide (a<b)=true then -1 else if decide (a>b)=true then 1 else 0
def dR:List Int->Int
 | []=>0
 |x::r=>if decide (x≠0)=true then x else dR r
def bY(a b:gI):Int:=dR [fY a.k b.k,fY a.n b.n,cU a.s b.s]
def keyOf(key:Int)(r:Row):gI:=if(decide (key<0)||decide (key>=(r.length:Int)))=true then⟨0,0,⟨#[]⟩⟩else(r[key.toNat]?).getD ⟨0,0,⟨#[]⟩⟩
abbrev gI.v(x:gI):Value:=.agg #[.int .i64 x.k,.int .i64 x.n,.string x.s]
theorem Gz(a:Int)(h:ab):Ct 346 [.int .i64 a] h (λv h'=>Le h h'/\v=.bool false):=by
 obtain⟨A,b⟩:=Ar.ex;have q:A .az .neq a a=false:=by rw[av A];simp
 refine dH cXt A Tryz.func346 ?_;cbv;rw[q];exact⟨Le.refl _,rfl⟩
theorem Sj(a b:Int)(h:ab):Ct 316 [.int .i64 a,.int .i64 b] h (λv h'=>Le h h'/\∃z,v=.int .i64 z/\z=fY a b):=by
 refine cp cXK Tryz.func316 λA j=>?_;cbv;refine(Gz a h).mono (λv d hR=>?_);obtain⟨l,rfl⟩:=hR;cbv;refine(Gz b d).mono (λv i hR=>?_);obtain⟨c,rfl⟩:=hR;cbv;generalize e1:A .az .lss a b=u;generalize e:A .az .gtr a b=g;have f:=e;rw[aJ A]at e1;rw[aO A]at e;cases u with
 |true=>cbv;exact⟨l.trans c,_,rfl,by simp only[fY,e1];rfl⟩
 |false=>
  cbv;rw[f];cases g with
  |true=>cbv;exact⟨l.trans c,_,rfl,by simp only[fY,e1,e];rfl⟩
  |false=>cbv;exact⟨l.trans c,_,rfl,by simp only[fY,e1,e];rfl⟩
theorem mj{i:Nat}(h:∀j,j<i->∀y,xs[j]? =some y->y=0):dR xs=dR (xs.drop i):=by
 induction i generalizing xs with
 |zero=>rfl
 |succ i b=>
  cases xs with
  |nil=>rfl
  |cons x r=>have hx:x=0:=h 0 (by omega) x rfl;simp only[hKG,dR,hx];rw[if_neg (by decide)];exact b (λj c y a=>h (j+1) (by omega) y (by simpa using a))
theorem bZl(q:Sl 3 dm h (.slice b n c) xs):
 Ct 315 [.slice b n c] h (λv h'=>Le h h'/\∃z,v=.int .i64 z/\z=dR xs):=by
 have m:=q.len;obtain⟨Y,X⟩:=q.bound;refine cp cXL Tryz.func315 λA r=>?_;cbv;refine aK.go (G:=Int) (λz=>[(8,.v (.int .i64 z))]) (λ_=>[]) (λk z h'=>∃i:Nat,aM z i/\k=n-i/\i<=n/\h'=h/\∀j,j<i->∀y,xs[j]? =some y->y=0) n 0 (by constructor<;>cbv) ⟨0,⟨rfl⟩,by omega,by omega,rfl,λj p=>(by omega)⟩ ?_
 intro k z h' o;cbv;obtain⟨i,a,t,s,rfl,g⟩:=o;refine aL (λd=>?_) (λd=>?_)
 .have I:=a.lt d;clear d;cbv;obtain⟨x,hx⟩:=di xs i;refine⟨⟨q.aR,a.ix I⟩,?_⟩;cbv;refine q.load hx a.eq (λcs e=>?_);have e:cs=[.int .i64 x]:=e;subst e;generalize ex:A .az .neq x 0=u;rw[av A]at ex;have F:xs.drop i=x::xs.drop (i+1):=by rw[qM (by omega)];have:=(dB.1 hx).2;rw[this]
  have f:=mj g;rw[F]at f;cbv;rw[av A,ex];cases u with
  |true=>cbv;refine⟨Le.refl _,_,rfl,?_⟩;rw[f];simp only[dR,ex];rfl
  |false=>
   cbv;refine⟨n-(i+1),_,by omega,by constructor<;>cbv,i+1,a.succ (A:=A),rfl,by omega,rfl,?_⟩
   intro j p y l;rcases ss j i with C|C
   .exact g j C y l
   have:j=i:=by omega
   subst this;rw[hx]at l;cases l;have:=ra ex;exact se.1 this
 have W:=a.ge d;have f:=mj g;rw[Yd (by omega)]at f;cbv;exact⟨Le.refl _,_,rfl,f.symm⟩
theorem JO(a b:gI)(h:ab):Ct 269 [.agg #[.int .i64 a.k,.int .i64 a.n,.string a.s],.agg #[.int .i64 b.k,.int .i64 b.n,.string b.s]] h (λv h'=>Le h h'/\∃z,v=.int .i64 z/\z=bY a b):=by
 obtain⟨n,B,E⟩:=a;obtain⟨o,C,F⟩:=b;refine cp cZs Tryz.func269 λA K=>?_;cbv;refine(Sj n o h).mono (λv j hR=>?_);obtain⟨p,G,rfl,e1⟩:=hR;cbv;refine(Sj B C j).mono (λv k hR=>?_);obtain⟨q,H,rfl,c⟩:=hR;cbv;refine(Sm E F k).mono (λv l hR=>?_);obtain⟨r,I,rfl,f⟩:=hR;cbv;intro D m d e;have t:Le l m:=by rw[e];exact Le.set d
 have i:=(congrFun e D).trans ae;cbv;refine(bZl (qq (s:=dm) rfl i (x:=G) (y:=H) (w:=I) rfl rfl rfl)).mono (λv J hR=>?_);obtain⟨u,z,rfl,g⟩:=hR;cbv;exact⟨(((p.trans q).trans r).trans t).trans u,z,rfl,by rw[g,e1,c,f];rfl⟩
theorem Qr{i j m o:Value}{key:Int}(q:Sl 87 aZ h (.slice b n c) r):
 Ct 173 [.agg #[i,j,.int .i64 key,m,o],.slice b n c] h (λv h'=>Le h h'/\∃k:gI,v=.agg #[.int .i64 k.k,.int .i64 k.n,.string k.s]/\k=keyOf key r):=by
 obtain⟨A,p⟩:=Ar.ex;have l:=q.len;generalize e1:A .az .lss key 0=u;generalize e:A .az .geq key (A .nat n)=s;have f:=e1;have g:=e;rw[aJ A]at e1;rw[cZ A,p.nat]at e;simp only[kH]at e;refine dH cJJ A Tryz.func173 ?_;cbv;rw[f];cases u with
 |true=>cbv;exact⟨Le.refl _,⟨0,0,⟨#[]⟩⟩,rfl,by simp only[keyOf,e1];rfl⟩
 |false=>
  cbv;rw[g];cases s with
  |true=>cbv;refine⟨Le.refl _,⟨0,0,⟨#[]⟩⟩,rfl,?_⟩;rw[l]at e;simp only[keyOf,e1,e];rfl
  |false=>obtain⟨d,Y⟩:=IW A f g;obtain⟨x,hx⟩:=di r key.toNat;cbv;refine⟨⟨q.aR,d.ix Y⟩,?_⟩;cbv;refine q.load hx d.eq (λcs a=>?_);have a:cs=[.int .i64 x.k,.int .i64 x.n,.string x.s]:=a;subst a;cbv;refine⟨Le.refl _,x,rfl,?_⟩;rw[l]at e;simp only[keyOf,e1,e,hx];rfl
theorem Lq{k:Nat}{key:Int}{f i j l:Value}(g:h k=some (.cells #[f,i,.int .i64 key,j,l] 333 (0,0)))(q:Sl 87 aZ h (.slice b n c) r)(kv:gI):
 Ct 268 [.slice b n c,.agg #[.int .i64 kv.k,.int .i64 kv.n,.string kv.s],.pointer (some ⟨k,0,none⟩)] h (λv h'=>Le h h'/\∃z,v=.int .i64 z/\z=bY (keyOf key r) kv):=by
 refine cp cZt Tryz.func268 λA t=>?_;cbv;refine bc g ?_;cbv;refine(Qr q).mono (λv d hR=>?_);obtain⟨o,m,rfl,e⟩:=hR;cbv;refine(JO m kv d).mono (λv s hR=>?_);obtain⟨p,z,rfl,a⟩:=hR;cbv;exact⟨o.trans p,z,rfl,by rw[a,e]⟩
theorem cXa{xs:List Row}{len:Nat}(q:Sl 88 aU h (.slice b len cap) xs){key:Int}{N O P Q:Value}(C:h D=some (.cells #[N,O,.int .i64 key,P,Q] 333 (0,0)))(kv:gI):
 Ct 267 [.slice b len cap,.agg #[.int .i64 kv.k,.int .i64 kv.n,.string kv.s],.func (.func 268) #[] #[.pointer (some ⟨D,0,none⟩)]] h (λv h'=>Le h h'/\∃(z:Int) (t:Bool),v=.tuple #[.int .i64 z,.bool t]/\Kc (xs.map (λx:Row=>bY (keyOf key x) kv)) z t):=by
 have f:=q.len;obtain⟨Y,T⟩:=q.bound;have s:(xs.map (λx:Row=>bY (keyOf key x) kv)).length=len:=by simp[f]
 generalize hl:xs.map (λx:Row=>bY (keyOf key x) kv)=l at s;have E:∀(i:Nat) x,xs[i]? =some x->l[i]? =some ((λx:Row=>bY (keyOf key x) kv) x):=λi x hx=>by rw[<-hl];simp[hx]
 refine cp cZu Tryz.func267 λA c=>?_;cbv;refine aK.go (G:=Int×Int) (λg=>[(9,.v (.int .i64 g.1)),(10,.v (.int .i64 g.2))]) (λ_=>[(4,[.int .i64 kv.k,.int .i64 kv.n,.string kv.s])])
  (λn g h'=>∃i j:Nat,aM g.1 i/\aM g.2 j/\n=j-i/\i<=j/\j<=len/\Le h h'/\nQ l 0 len=nQ l i j) len (0,A .nat len) ⟨?_,?_,?_⟩ ⟨0,len,⟨rfl⟩,⟨by rw[c.nat];rfl⟩,by omega,by omega,by omega,Le.refl _,rfl⟩ ?_
 .cbv
 .cbv
 .cbv
 intro n g h' M;cbv;obtain⟨i,j,a,o,V,K,S,e,F⟩:=M;refine aL (λd=>?_) (λd=>?_)
 .rw[a.pL (A:=A) o,yr]at d;cbv;refine⟨by decide,?_⟩;cbv;have p:=a.eXi (A:=A) o (by omega) (by omega);obtain⟨x,hx⟩:=ay (xs:=xs) (i:=(i+j) / 2) (by omega);refine⟨⟨q.aR,p.ix (by omega)⟩,?_⟩;cbv;refine(q.mono (e.t _)).load hx p.eq (λcs u=>?_);obtain⟨v,rfl,m⟩:=u;obtain⟨H,R,J,rfl⟩:=m.form;cbv;refine(Lq (e _ _ C) m kv).mono (λv L hR=>?_);obtain⟨I,z,rfl,y⟩:=hR;cbv;have r:l.getD ((i+j) / 2) 0=z:=by rw[xa,E _ _ hx,y];rfl
  have U:=F;rw[nQ.eq_1 l i j,if_pos d,r]at U;refine aL (λk=>?_) (λk=>?_)
  .rw[c.az]at k;have B:z<0:=qH k;rw[if_pos B]at U;clear k B;cbv;refine⟨j-((i+j) / 2+1),(_,g.2),by omega,by constructor<;>cbv,(i+j) / 2+1,j,p.succ (A:=A),o,rfl,by omega,S,e.trans I,U⟩
  rw[c.az]at k;have B:¬z<0:=ra k;rw[if_neg B]at U;clear k B;cbv;refine⟨(i+j) / 2-i,(g.1,A .conv .i64 (A .aC .shr .u64 (A .conv .u64 (A .aC .add .i64 g.1 g.2)) 1)),by omega,by constructor<;>cbv,i,(i+j) / 2,a,p,rfl,by omega,by omega,e.trans I,U⟩
 rw[a.pL (A:=A) o,decide_eq_false_iff_not]at d;cbv;have U:=F;rw[nQ.eq_1 l i j,if_neg d]at U;have X:=a.pL (A:=A) (w:=A .nat len) (j:=len) ⟨by rw[c.nat];rfl⟩;refine aL (λk=>?_) (λk=>?_)
 .rw[k];rw[X,yr]at k;cbv;obtain⟨x,hx⟩:=di xs i;refine⟨⟨q.aR,a.ix (by omega)⟩,?_⟩;cbv;refine(q.mono (e.t _)).load hx a.eq (λcs u=>?_);obtain⟨v,rfl,m⟩:=u;obtain⟨H,R,J,rfl⟩:=m.form;cbv;refine(Lq (e _ _ C) m kv).mono (λv L hR=>?_);obtain⟨I,z,rfl,y⟩:=hR;cbv;refine⟨e.trans I,_,_,rfl,⟨i,a,?_,?_⟩⟩
  .rw[s];exact U.symm
  rw[c.az];have r:l.getD i 0=z:=by rw[xa,E _ _ hx,y];rfl
  rw[r,s];simp[az,k];rfl
 rw[k];rw[X,decide_eq_false_iff_not]at k;cbv;refine⟨e,_,_,rfl,⟨i,a,?_,?_⟩⟩
 .rw[s];exact U.symm
 rw[s];simp[k]
theorem Lr{a d e:Value}{key:Int}(q:Sl 88 aU h (.slice b n c) rows)(kv:gI):
 Ct 172 [.agg #[a,d,.int .i64 key,e,.slice b n c],.agg #[.int .i64 kv.k,.int .i64 kv.n,.string kv.s]] h (λv h'=>Le h h'/\∃z t,v=.tuple #[.int .i64 z,.bool t]/\Kc (rows.map λr=>bY (keyOf key r) kv) z t):=by
 refine cp cJK Tryz.func172 λA o=>?_;cbv;intro k f V e1;have l:Le h f:=by rw[e1];exact Le.set V
 have g:=(congrFun e1 k).trans ae;cbv;rw[ao A];rw[ao A];refine bc g ?_;cbv;refine(cXa (q.mono (l.t _)) g kv).mono (λv m hR=>?_);obtain⟨j,z,t,rfl,i⟩:=hR;cbv;exact⟨l.trans j,z,t,rfl,i⟩
def ir(v:gI):gI:=if decide (v.k=3)=true then⟨v.k,0,v.s⟩else if decide (v.k=1)=true then⟨v.k,v.n,⟨#[]⟩⟩else if decide (v.k=2)=true then⟨v.k,v.n,⟨#[]⟩⟩else⟨v.k,0,⟨#[]⟩⟩
def gS(a b:gI):Bool:=decide (a.k=b.k)&&(decide (a.n=b.n)&&decide (a.s=b.s))
def dX(v:gI):Int:=
 if(decide (v.k<0)||decide (v.k>3))=true then 3
 else if(!gS v (ir v)||(decide (v.k=1)&&decide (v.n≠0)&&decide (v.n≠1)))=true then 1
 else if decide ((v.s.size:Int)>60)=true then 5 else 0
theorem aXr{xs:List Row}{len:Nat}(q:Sl 88 aU h (.slice b len cap) xs):
 Ct 265 [.slice b len cap] h (λv h'=>Le h h'/\∃c,h c=none/\v=.slice (some ⟨c,0,none⟩) len len/\cM 88 aU h' c len xs):=by
 have l:=q.len;obtain⟨Y,X⟩:=q.bound;refine cp cZw Tryz.func265 λA C=>?_;cbv;refine oy (s:=aU) rfl (by omega) (by decide) (λc w V e o=>?_);cbv;refine aK.go (G:=Int) (λz=>[(11,.v (.int .i64 z))]) (λ_=>[]) (λn z h'=>∃i:Nat,aM z i/\n=len-i/\i<=len/\Le h h'/\cM 88 aU h' c len (xs.take i)) len 0 (by constructor<;>cbv) ⟨0,⟨rfl⟩,by omega,by omega,e,o⟩ ?_
 intro n z h' j;cbv;obtain⟨i,a,H,D,m,P⟩:=j;refine aL (λd=>?_) (λd=>?_)
 .have I:=a.lt d;clear d;cbv;obtain⟨x,hx⟩:=di xs i;refine⟨⟨q.aR,a.ix I⟩,?_⟩;cbv;refine(q.mono (m.t _)).load hx a.eq (λcs u=>?_);obtain⟨v,rfl,g⟩:=u;obtain⟨p,K,t,rfl⟩:=g.form;cbv;refine(Bf g).mono (λL y hR=>?_);obtain⟨f,r,E,rfl,Q,-⟩:=hR;cbv;refine⟨⟨rfl,a.ix I⟩,?_⟩;cbv;refine(P.mono (f.t _)).store (by decide) (i:=i) (by simp;omega) (by omega) (by omega) a.eq rfl (x:=x) ⟨_,rfl,Q⟩ (λB k J F=>?_);cbv;refine⟨len-(i+1),_,by omega,by constructor<;>cbv,i+1,a.succ (A:=A),rfl,by omega,?_,?_⟩
  .exact(m.trans f).aE (by simpa using V) k
  rw[if_neg (by simp;omega)]at F;rw[xx,hx];exact F
 have W:=a.ge d;cbv;have:i=len:=by omega
 subst this;refine⟨m,c,V,rfl,?_⟩;rw[l,hJz]at P;rw[l];exact P
theorem rR{W:List gY}{key:Int}{s p:Option Addr}{o u r:Nat}(z:Sl 58 bt h (.slice s o m) W)(y:Sl 98 (sM 88 aU) h (.slice b n c) L)(t:L.flatten.length<=2^38):
 Ct 171 [.agg #[.string nm,.slice s o m,.int .i64 key,.bool only,.slice p u r],.slice b n c] h (λv h'=>Le h h'/\∃a j k d f e,v=.agg #[.string nm,.slice a j k,.int .i64 key,.bool only,.slice d f e]/\Sl 58 bt h' (.slice a j k) W/\Sl 88 aU h' (.slice d f e) L.flatten):=by
 refine cp cJL Tryz.func171 λA E=>?_;cbv;refine(Hq z).mono (λv B hR=>?_);obtain⟨l,a,k,rfl,x,-⟩:=hR;cbv;refine(Nu (y.mono (l.t _)) t).mono (λv C hR=>?_);obtain⟨g,d,f,e,rfl,q⟩:=hR;cbv;refine(aXr q.sl).mono (λv D hR=>?_);obtain⟨i,F,V,rfl,w⟩:=hR;cbv;exact⟨(l.trans g).trans i,_,_,_,_,_,_,rfl,x.mono ((g.trans i).t _),w.sl q.sl.len⟩
theorem Xw(w:gI)(h:ab):Ct 313 [.agg #[.int .i64 w.k,.int .i64 w.n,.string w.s]] h (λv h'=>Le h h'/\∃x:gI,v=.agg #[.int .i64 x.k,.int .i64 x.n,.string x.s]/\x=ir w):=by
 obtain⟨A,i⟩:=Ar.ex;obtain⟨k,n,s⟩:=w;generalize e:A .az .eql k 3=g;generalize e1:A .az .eql k 1=u;generalize a:A .az .eql k 2=d;have c:=e;have b:=a;have f:=e1;rw[aq A]at e1 a e;refine dH cXN A Tryz.func313 ?_;cbv;rw[c];cases g with
 |true=>cbv;exact⟨Le.refl _,⟨k,0,s⟩,rfl,by simp only[ir,e];rfl⟩
 |false=>
  cbv;rw[f];cases u with
  |true=>cbv;exact⟨Le.refl _,⟨k,n,⟨#[]⟩⟩,rfl,by simp only[ir,e,e1];rfl⟩
  |false=>
   cbv;rw[b];cases d with
   |true=>cbv;exact⟨Le.refl _,⟨k,n,⟨#[]⟩⟩,rfl,by simp only[ir,e,e1,a];rfl⟩
   |false=>cbv;exact⟨Le.refl _,⟨k,0,⟨#[]⟩⟩,rfl,by simp only[ir,e,e1,a];rfl⟩
theorem Hs(w:gI)(h:ab):Ct 264 [.agg #[.int .i64 w.k,.int .i64 w.n,.string w.s]] h (λv h'=>Le h h'/\∃z,v=.int .i64 z/\z=dX w):=by
 obtain⟨A,i⟩:=Ar.ex;obtain⟨k,n,s⟩:=w;generalize j:ir ⟨k,n,s⟩=bv;obtain⟨H,n',I⟩:=bv;generalize e1:A .az .lss k 0=m;generalize e:A .az .gtr k 3=o;generalize a:A .not (A .and (A .az .eql k H) (A .and (A .az .eql n n') (A .and (A .jX .eql s I) true)))=p;generalize b:A .az .eql k 1=q;generalize c:A .az .neq n 0=r;generalize d:A .az .neq n 1=t;generalize f:A .az .gtr (A .iQ s) 60=u;have y:=e1;have B:=e;have C:=a;have D:=b;have E:=c;have F:=d;have g:=f;rw[aJ A]at e1;rw[aO A]at e;rw[aq A]at b;rw[av A]at c d;rw[aO A,i.iQ]at f;rw[i.not,i.and,aq A,aq A,ek A]at a;have key:∀z,z=(if(m||o)=true then(3:Int)else if(p||(q&&r&&t))=true then 1 else if u=true then 5 else 0)->z=dX ⟨k,n,s⟩:=λz G=>by
  rw[G,<-e1,<-e,<-a,<-b,<-c,<-d,<-f];simp only[dX,j,gS,iQx]
 refine dH cZx A Tryz.func264 ?_;cbv;rw[y];cases m with
 |true=>cbv;exact⟨Le.refl _,3,rfl,key 3 rfl⟩
 |false=>
  cbv;rw[B];cases o with
  |true=>cbv;exact⟨Le.refl _,3,rfl,key 3 rfl⟩
  |false=>
   cbv;refine(Xw ⟨k,n,s⟩ h).mono (λv J hR=>?_);obtain⟨l,x,rfl,ex⟩:=hR;rw[j]at ex;subst ex;cbv;rw[C];cases p with
   |true=>cbv;exact⟨l,1,rfl,key 1 rfl⟩
   |false=>
    cbv;rw[D];cases q with
    |false=>
     cbv;rw[g];cases u with
     |true=>cbv;exact⟨l,5,rfl,key 5 rfl⟩
     |false=>cbv;exact⟨l,0,rfl,key 0 rfl⟩
    |true=>
     cbv;rw[E];cases r with
     |false=>
      cbv;rw[g];cases u with
      |true=>cbv;exact⟨l,5,rfl,key 5 rfl⟩
      |false=>cbv;exact⟨l,0,rfl,key 0 rfl⟩
     |true=>
      cbv;rw[F];cases t with
      |true=>cbv;exact⟨l,1,rfl,key 1 rfl⟩
      |false=>
       cbv;rw[g];cases u with
       |true=>cbv;exact⟨l,5,rfl,key 5 rfl⟩
       |false=>cbv;exact⟨l,0,rfl,key 0 rfl⟩
theorem Kc.at_{l:List Int}{t:Bool}(q:Kc l z t):aM z (dE l)/\t=gH l:=by obtain⟨i,h,a,b⟩:=q.out;subst a;exact⟨h,b⟩
def cT(c:gY)(v:gI):Int:=if decide (dX v≠0)=true then dX v else if(decide (v.k=0)&& !c.null)=true then 13 else if(decide (v.k≠0)&&decide (v.k≠c.kind))=true then 3 else 0
def cS(aW:List gY)(r:Row):Int:=if decide ((r.length:Int)≠(aW.length:Int))=true then 1 else dR (List.zipWith cT aW r)
def bX(t:bM)(k:gI):List Int:=t.rows.map λr=>bY (keyOf t.S.key r) k
def wA(t:bM)(i:Nat)(r:Row):bM:=⟨t.S,t.rows.take i++[r]++t.rows.drop i⟩
def zE(t:bM)(i:Nat):bM:=⟨t.S,t.rows.take i++t.rows.drop (i+1)⟩
def bq(t:bM)(r:Row):bM×Int:=
 if decide (cS t.S.aW r≠0)=true then(t,cS t.S.aW r)
 else if gH (bX t (keyOf t.S.key r))=true then(t,7)
 else if decide ((t.rows.length:Int)>=200)=true then(t,4)
 else(wA t (dE (bX t (keyOf t.S.key r))) r,0)
def aS(t:bM)(k:gI):bM×Row×Int:=
 if gH (bX t k)=true then(zE t (dE (bX t k)),(t.rows[dE (bX t k)]?).getD [],0)else(t,[],2)
theorem WR{key:Int}{R:Option Addr}{B S:Nat}(P:Sl 58 bt h (.slice R B S) a)(q:Sl 87 aZ h (.slice b n c) r):
 Ct 170 [.agg #[.string nm,.slice R B S,.int .i64 key,.bool only],.slice b n c] h (λv h'=>Le h h'/\∃z,v=.int .i64 z/\z=cS a r):=by
 obtain⟨A,X⟩:=Ar.ex;have s:=q.len;have M:=P.len;obtain⟨iY,fX⟩:=q.bound;generalize e1:A .az .neq (A .nat n) (A .nat B)=u1;have f1:=e1;rw[av A,X.nat]at e1;simp only[kH]at e1;rw[s,M]at e1;have Z:u1=false->n=B:=λe=>by rw[e]at e1;have:=se.1 (ra e1);omega
 refine dH cJM A Tryz.func170 ?_;cbv;rw[f1];cases u1 with
 |true=>cbv;exact⟨Le.refl _,1,rfl,by simp only[cS,e1];rfl⟩
 |false=>
  have ai:=Z rfl;cbv;refine aK.go (G:=Int) (λz=>[(17,.v (.int .i64 z))]) (λ_=>[(2,[.string nm,.slice R B S,.int .i64 key,.bool only])])
   (λk z h'=>∃i:Nat,aM z i/\k=n-i/\i<=n/\Le h h'/\∀j,j<i->∀y,(List.zipWith cT a r)[j]? =some y->y=0) n 0 ⟨?_,?_,?_⟩ ⟨0,⟨rfl⟩,by omega,by omega,Le.refl _,λj hj=>(by omega)⟩ ?_
  .cbv
  .cbv
  .cbv
  intro k z h' hI;cbv;obtain⟨i,o,hk,hi,d,I⟩:=hI;refine aL (λF=>?_) (λF=>?_)
  .have aI:=o.lt F;clear F;cbv;obtain⟨x,hx⟩:=di r i;obtain⟨y,hy⟩:=di a i;have W:(List.zipWith cT a r)[i]? =some (cT y x):=by rw[hKF,hx,hy]
   have Fj:(List.zipWith cT a r).drop i=cT y x::(List.zipWith cT a r).drop (i+1):=by have hl:=(dB.1 W);rw[qM hl.1,hl.2]
   have H:cS a r=dR ((List.zipWith cT a r).drop i):=by rw[<-mj I];simp only[cS,e1];rfl
   have f:∀ {Y:ab} (w:Int),Le h Y->w=cT y x->w≠0->Le h Y/\∃z,Value.int .i64 w=.int .i64 z/\z=cS a r:=λw l ew t=>by
    refine⟨l,w,rfl,?_⟩;rw[H,Fj,<-ew];simp only[dR];rw[if_pos (aH t)]
   have O:∀(m:ab),Le h m->cT y x=0->∃j:Nat,aM (A .aC .add .i64 z 1) j/\n-(i+1)=n-j/\j<=n/\Le h m/\∀j',j'<j->∀w,(List.zipWith cT a r)[j']? =some w->w=0:=λm l e0=>
    ⟨i+1,o.succ (A:=A),rfl,by omega,l,λj hj w t=>by
     rcases ss j i with jC|jC
     .exact I j jC w t
     have:j=i:=by omega
     subst this;rw[W]at t;cases t;exact e0⟩
   refine⟨⟨q.aR,o.ix aI⟩,?_⟩;cbv;refine(q.mono (d.t _)).load hx o.eq (λcs u=>?_);have u:cs=[.int .i64 x.k,.int .i64 x.n,.string x.s]:=u;subst u;cbv;refine⟨⟨P.aR,o.ix (by omega)⟩,?_⟩;cbv;refine(P.mono (d.t _)).load hy o.eq (λcs u=>?_);have u:cs=[.string y.name,.int .i64 y.kind,.bool y.null]:=u;subst u;cbv;refine(Hs x h').mono (λv m hR=>?_);obtain⟨l2,C,rfl,J⟩:=hR;have V:=d.trans l2;obtain⟨N,kd,nl⟩:=y;generalize p:A .az .neq C 0=T;generalize D:A .az .eql x.k 0=w2;generalize E:A .az .neq x.k 0=U;generalize K:A .az .neq x.k kd=w4;generalize L:A .not nl=w5;have k1:=p;have k2:=D;have k3:=E;have k4:=K;have k5:=L;rw[av A]at p E K;rw[aq A]at D;rw[X.not]at L;have key:cT ⟨N,kd,nl⟩ x=if T=true then C else if(w2&&w5)=true then 13 else if(U&&w4)=true then 3 else 0:=by rw[<-p,<-D,<-E,<-K,<-L,J];rfl
   have Zc:T=true->C≠0:=λe=>by rw[e]at p;exact qH p
   cbv;rw[k1];cases T with
   |true=>cbv;exact f C V key.symm (Zc rfl)
   |false=>
    cbv;rw[k2];cases w2 with
    |true=>
     have Q:U=false:=by rw[<-E];have:=qH D;exact ag (by omega)
     subst Q;cbv;rw[k5];cases w5 with
     |true=>cbv;exact f 13 V key.symm (by omega)
     |false=>
      have g:=O m V key;cbv;rw[k3];cbv;refine⟨n-(i+1),_,by omega,by constructor<;>cbv,g⟩
    |false=>
     cbv;rw[k3];cases U with
     |true=>
      cbv;rw[k4];cases w4 with
      |true=>cbv;exact f 3 V key.symm (by omega)
      |false=>
       have g:=O m V key;cbv;refine⟨n-(i+1),_,by omega,by constructor<;>cbv,g⟩
     |false=>
      have g:=O m V key;cbv;refine⟨n-(i+1),_,by omega,by constructor<;>cbv,g⟩
  have gW:=o.ge F;have H:=mj I;rw[Yd (by rw[List.length_zipWith];omega)]at H;cbv;refine⟨d,0,rfl,?_⟩;simp only[cS,e1,H];rfl
theorem aQZ(q:Sl 87 aZ h (.slice b n c) r):aU.R h [.slice b n c] r:=⟨_,rfl,q⟩
theorem mf{L:List Row}(q:Sl 88 aU h (.slice b n c) L):(sM 88 aU).R h [.slice b n c] L:=⟨_,rfl,q⟩
theorem YK{key:Int}{sb b4:Option Addr}{sn sc G M:Nat}(J:Sl 58 bt h (.slice sb sn sc) a)(u:Sl 88 aU h (.slice b4 G M) rows)(q:Sl 87 aZ h (.slice b n c) r)(hn:G<=2^37):
 Ct 81 [.agg #[.string nm,.slice sb sn sc,.int .i64 key,.bool only,.slice b4 G M],.slice b n c] h (λv h'=>Le h h'/\∃y E k B F m e T,v=.tuple #[.agg #[.string nm,.slice y E k,.int .i64 key,.bool only,.slice B F m],.int .i64 e]/\
  Sl 58 bt h' (.slice y E k) a/\Sl 88 aU h' (.slice B F m) T/\(⟨⟨⟨nm,a,key,only⟩,T⟩,e⟩:bM×Int)=bq ⟨⟨nm,a,key,only⟩,rows⟩ r):=by
 have f:=u.len;refine cp fKk Tryz.func81 λA hA=>?_;cbv;refine(WR (nm:=nm) (key:=key) (only:=only) J q).mono (λv h1 hR=>?_);obtain⟨S,z,rfl,ez⟩:=hR;have w:bq ⟨⟨nm,a,key,only⟩,rows⟩ r=if decide (z≠0)=true then(⟨⟨nm,a,key,only⟩,rows⟩,z)else if gH (bX ⟨⟨nm,a,key,only⟩,rows⟩ (keyOf key r))=true then(⟨⟨nm,a,key,only⟩,rows⟩,7)
  else if decide ((rows.length:Int)>=200)=true then(⟨⟨nm,a,key,only⟩,rows⟩,4)else(wA ⟨⟨nm,a,key,only⟩,rows⟩ (dE (bX ⟨⟨nm,a,key,only⟩,rows⟩ (keyOf key r))) r,0):=by rw[ez];rfl
 generalize P:A .az .neq z 0=w1;have k:=P;rw[av A]at P;rw[P]at w;have l:([rows]:List (List Row)).flatten=rows:=by simp
 cbv;rw[k];cases w1 with
 |true=>
  cbv;intro p h2 V e2;have X:Le h1 h2:=by rw[e2];exact Le.set V
  have o:=(congrFun e2 p).trans ae;have O:=S.trans X;cbv;refine(rR (J.mono (O.t _)) (bC (s:=sM 88 aU) o (mf (u.mono (O.t _)))) (by rw[l];omega)).mono (λv L hR=>?_);obtain⟨Z,y,E,k,B,F,m,rfl,x,d⟩:=hR;rw[l]at d;cbv;exact⟨O.trans Z,_,_,_,_,_,_,z,rows,rfl,x,d,w.symm⟩
 |false=>
  cbv;refine(Qr (q.mono (S.t _))).mono (λv h2 hR=>?_);obtain⟨X,C,rfl,N⟩:=hR;have O:=S.trans X;cbv;refine(Lr (u.mono (O.t _)) C).mono (λv L hR=>?_);obtain⟨Z,g,t,rfl,hb⟩:=hR;have yt:=O.trans Z;obtain⟨W,R⟩:=hb.at_;rw[<-N]at w;have R:t=gH (bX ⟨⟨nm,a,key,only⟩,rows⟩ C):=R;have W:aM g (dE (bX ⟨⟨nm,a,key,only⟩,rows⟩ C)):=W;have K:dE (bX ⟨⟨nm,a,key,only⟩,rows⟩ C)<=G:=by have:=aKk (bX ⟨⟨nm,a,key,only⟩,rows⟩ C);rw[f];simpa[bX]using this
  rw[<-R]at w;generalize dE (bX ⟨⟨nm,a,key,only⟩,rows⟩ C)=i at *;generalize o:A .az .geq (A .nat G) 200=w2;have m:=o;rw[cZ A,hA.nat]at o;simp only[kH]at o;rw[f]at o;rw[o]at w;cases t with
  |true=>
   cbv;intro p f V j;have I:Le L f:=by rw[j];exact Le.set V
   have H:=(congrFun j p).trans ae;have U:=yt.trans I;cbv;refine(rR (J.mono (U.t _)) (bC (s:=sM 88 aU) H (mf (u.mono (U.t _)))) (by rw[l];omega)).mono (λv Q hR=>?_);obtain⟨D,y,E,k,B,F,m,rfl,x,d⟩:=hR;rw[l]at d;cbv;exact⟨U.trans D,_,_,_,_,_,_,7,rows,rfl,x,d,w.symm⟩
  |false=>
   cbv;rw[m];cases w2 with
   |true=>
    cbv;intro p f V j;have I:Le L f:=by rw[j];exact Le.set V
    have H:=(congrFun j p).trans ae;have U:=yt.trans I;cbv;refine(rR (J.mono (U.t _)) (bC (s:=sM 88 aU) H (mf (u.mono (U.t _)))) (by rw[l];omega)).mono (λv Q hR=>?_);obtain⟨D,y,E,k,B,F,m,rfl,x,d⟩:=hR;rw[l]at d;cbv;exact⟨U.trans D,_,_,_,_,_,_,4,rows,rfl,x,d,w.symm⟩
   |false=>
    have iD:=u.bound;have ea:0<=g/\g<=(M:Int)/\0<=g/\g<=g:=by have:=W.eq;omega
    have jT:0<=g/\g<=(G:Int):=by have:=W.eq;omega
    have SZ:([rows.take i,[r],rows.drop i]:List (List Row)).flatten=rows.take i++[r]++rows.drop i:=by simp
    have yU:(rows.take i++[r]++rows.drop i).length<=2^38:=by simp;omega
    cbv;refine⟨ea,?_⟩;cbv;refine⟨jT,?_⟩;cbv;intro p f V j;have I:Le L f:=by rw[j];exact Le.set V
    have H:=(congrFun j p).trans ae;have U:=yt.trans I;cbv;intro yP Q tW e5;have D:Le f Q:=by rw[e5];exact Le.set tW
    have g5:=(congrFun e5 yP).trans ae;have Y:=U.trans D;have Vc:=u.mono (Y.t _);have p1:=mf (Vc.qu (A:=A) (s:=aU) (z:=g) K (cQ (A:=A) W) (cQ (A:=A) W));have p2:=mf (bC (s:=aU) (D _ _ H) (aQZ (q.mono (Y.t _))));have p3:=mf (Vc.gT (A:=A) (s:=aU) W K (bZ (A:=A) W) (bZ (A:=A) W));cbv;refine(rR (J.mono (Y.t _)) (qq (s:=sM 88 aU) rfl g5 p1 p2 p3) (by rw[SZ];exact yU)).mono (λv h6 hR=>?_);obtain⟨l6,y,E,k,B,F,m,rfl,x,d⟩:=hR;rw[SZ]at d;cbv;exact⟨Y.trans l6,_,_,_,_,_,_,0,_,rfl,x,d,w.symm⟩
theorem aQE{key:Int}{sb C:Option Addr}{sn sc:Nat}(Z:Sl 58 bt h (.slice sb sn sc) a)(q:Sl 88 aU h (.slice C n D) rows)(hn:n<=2^37)(kv:gI):
 Ct 213 [.agg #[.string nm,.slice sb sn sc,.int .i64 key,.bool only,.slice C n D],.agg #[.int .i64 kv.k,.int .i64 kv.n,.string kv.s]] h (λv h'=>Le h h'/\∃d p m f u o y X F e T R,v=.tuple #[.agg #[.string nm,.slice d p m,.int .i64 key,.bool only,.slice f u o],.slice y X F,.int .i64 e]/\
  Sl 58 bt h' (.slice d p m) a/\Sl 88 aU h' (.slice f u o) T/\Sl 87 aZ h' (.slice y X F) R/\(⟨⟨⟨nm,a,key,only⟩,T⟩,R,e⟩:bM×Row×Int)=aS ⟨⟨nm,a,key,only⟩,rows⟩ kv):=by
 have E:=q.len;have c:([rows]:List (List Row)).flatten=rows:=by simp
 refine cp cJg Tryz.func213 λA Q=>?_;cbv;refine(Lr q kv).mono (λv O hR=>?_);obtain⟨G,b,t,rfl,hb⟩:=hR;obtain⟨W,k⟩:=hb.at_;have w:aS ⟨⟨nm,a,key,only⟩,rows⟩ kv=if gH (bX ⟨⟨nm,a,key,only⟩,rows⟩ kv)=true then(zE ⟨⟨nm,a,key,only⟩,rows⟩ (dE (bX ⟨⟨nm,a,key,only⟩,rows⟩ kv)),(rows[dE (bX ⟨⟨nm,a,key,only⟩,rows⟩ kv)]?).getD [],0)else(⟨⟨nm,a,key,only⟩,rows⟩,[],2):=rfl
 have k:t=gH (bX ⟨⟨nm,a,key,only⟩,rows⟩ kv):=k;have W:aM b (dE (bX ⟨⟨nm,a,key,only⟩,rows⟩ kv)):=W;have I:t=true->dE (bX ⟨⟨nm,a,key,only⟩,rows⟩ kv)<n:=λe=>by
  have:=kV (k.symm.trans e);rw[E];simpa[bX]using this
 rw[<-k]at w;generalize dE (bX ⟨⟨nm,a,key,only⟩,rows⟩ kv)=i at *;cases t with
 |false=>
  have B:A .not false=true:=by rw[Q.not];rfl
  cbv;rw[B];cbv;intro nb E dV M;have l4:Le O E:=by rw[M];exact Le.set dV
  have g4:=(congrFun M nb).trans ae;have U:=G.trans l4;cbv;refine(rR (Z.mono (U.t _)) (bC (s:=sM 88 aU) g4 (mf (q.mono (U.t _)))) (by rw[c];omega)).mono (λv P hR=>?_);obtain⟨l,d,p,m,f,u,o,rfl,L,r⟩:=hR;rw[c]at r;cbv;exact⟨U.trans l,_,_,_,_,_,_,_,_,_,2,rows,[],rfl,L,r,Sl.nil,w.symm⟩
 |true=>
  have I:=I rfl;have B:A .not true=false:=by rw[Q.not];rfl
  have iD:=q.bound;have j:=W.succ (A:=A);have ea:0<=b/\b<=(D:Int)/\0<=b/\b<=b:=by have:=W.eq;omega
  have jT:0<=A .aC .add .i64 b 1/\A .aC .add .i64 b 1<=(n:Int):=by have:=j.eq;omega
  have S:([rows.take i,rows.drop (i+1)]:List (List Row)).flatten=rows.take i++rows.drop (i+1):=by simp
  have yU:(rows.take i++rows.drop (i+1)).length<=2^38:=by simp;omega
  obtain⟨x,hx⟩:=di rows i;have Ew:C.isSome=true/\0<=b/\b<(n:Int):=⟨q.aR,W.ix I⟩;cbv;rw[B];cbv;refine⟨ea,?_⟩;cbv;refine⟨jT,?_⟩;cbv;refine⟨Ew,?_⟩;cbv;refine(q.mono (G.t _)).KL hx W.eq (λcs au g=>?_);obtain⟨vx,rfl,J⟩:=au;obtain⟨bx,lx,cx,rfl⟩:=J.form;cbv;intro yP P tW N;have l:Le O P:=by rw[N];exact Le.set tW
  have g5:=(congrFun N yP).trans ae;have Y:=G.trans l;have V:=q.mono (Y.t _);have p1:=mf (V.qu (A:=A) (s:=aU) (z:=b) (iQw I) (cQ (A:=A) W) (cQ (A:=A) W));have p3:=mf (V.gT (A:=A) (s:=aU) j I (bZ (A:=A) j) (bZ (A:=A) j));cbv;refine g _ _ l ?_;cbv;refine⟨⟨_,rfl,rfl⟩,?_⟩;cbv;refine(rR (Z.mono (Y.t _)) (lN (s:=sM 88 aU) rfl g5 p1 p3) (by rw[S];exact yU)).mono (λv h6 hR=>?_);obtain⟨H,d,p,m,f,u,o,rfl,L,r⟩:=hR;rw[S]at r;cbv;refine g _ _ (l.trans H) ?_;cbv;refine⟨⟨_,rfl,rfl⟩,?_⟩;cbv;refine(Bf (J.mono ((l.trans H).t _))).mono (λv h7 hR=>?_);obtain⟨K,y,F,rfl,r3,-⟩:=hR;cbv;rw[hx]at w;exact⟨(Y.trans H).trans K,_,_,_,_,_,_,_,_,_,0,_,_,rfl,L.mono (K.t _),r.mono (K.t _),r3,w.symm⟩
def KB(a b:bJ):Bool:=decide (a.s=b.s)&&(decide (a.table=b.table)&&decide (a.x=b.x))
def lj(H:List bJ)(hd:bJ):Option Nat:=H.findIdx? (kA hd)
def lV(H:List bJ)(hd:bJ):Bool:=match lj H hd with
 |some i=>(H[i]?).any λo=>o.x||KB o hd
 |none=>false
def bI(H:List bJ)(hd:bJ):Bool:=lV H hd|| !(H.any (fS hd))
def cu(H:List bJ)(hd:bJ):List bJ:=
 if bI H hd=true then if lV H hd=true then H else match lj H hd with
  |some i=>H.set i hd
  |none=>H++[hd]
 else H
def cV(H W:List bJ)(hd:bJ):List bJ:=if bI H hd=true then bO W hd.s else bO W hd.s++[hd]
end Go.S
