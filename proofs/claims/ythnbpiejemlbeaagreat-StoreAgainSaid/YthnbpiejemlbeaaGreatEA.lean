import Derived.Test.YthnbpiejemlbeaaGreatDB
set_option linter.all false
set_option maxRecDepth 100000
namespace Go.S
open Go.Sx Go.Proofs
variable {only:Bool}{nm:ByteArray}{key z:Int}{L:List (List Row)}{o:List Row}{H xs:List bZ}{cols:List jR}{c cap k m n u:Nat}{b:Option Addr}{r:Row}{h:ad}{hd:bZ}
theorem lJ{len:Nat}(q:Sl 253 bC h (.slice b len cap) xs):
 Ct 102 [.slice b len cap] h (λv h'=>Le h h'/\∃d i,v=.slice d len i/\bA 253 bC h h' (.slice d len i) xs):=by
 refine cB bXu Tryz.func102 λA k=>?_;cbv;refine bm (λa=>?_) (λa=>?_)
 .rw[k.CI]at a;cbv;have m:b=none:=by cases b<;>simp at a |-
  subst m;have hl:len=0:=by
   rcases kZE len with e|e
   .exact e
   have:=q.bu e;cases this
  have:=q.len
  grind [hx,Le.refl,bA.nil]
 cbv;intro r j N w;have l:Le h j:=zqs w N
 cbv;refine dG (q.mono (l.t _)) (by simp[bC]) rfl dl (λn=>?_) (λs c p e1 o f g=>?_)
 .cbv;have:=q.len;have hx:xs=[]:=kZh ip;subst hx n;exact⟨l,_,_,rfl,bA.nil⟩
 cbv;exact⟨l.trans f,_,_,rfl,g.buf (l.none e1) q.len⟩
theorem Jm{xs:List jR}{len:Nat}(q:Sl 202 bJ h (.slice b len cap) xs):
 Ct 218 [.slice b len cap] h (λv h'=>Le h h'/\∃d i,v=.slice d len i/\bA 202 bJ h h' (.slice d len i) xs):=by
 refine cB bXf Tryz.func218 λA k=>?_;cbv;refine bm (λa=>?_) (λa=>?_)
 .rw[k.CI]at a;cbv;have m:b=none:=by cases b<;>simp at a |-
  subst m;have hl:len=0:=by
   rcases kZE len with e|e
   .exact e
   have:=q.bu e;cases this
  have:=q.len
  grind [hx,Le.refl,bA.nil]
 cbv;intro r j N w;have l:Le h j:=zqs w N
 cbv;refine dG (q.mono (l.t _)) (by simp[bJ]) rfl dl (λn=>?_) (λs c p e1 o f g=>?_)
 .cbv;have:=q.len;have hx:xs=[]:=kZh ip;subst hx n;exact⟨l,_,_,rfl,bA.nil⟩
 cbv;exact⟨l.trans f,_,_,rfl,g.buf (l.none e1) q.len⟩
theorem Dm{xs:List jq}{len:Nat}(q:Sl 45 bG h (.slice b len cap) xs):
 Ct 114 [.slice b len cap] h (λv h'=>Le h h'/\∃d i,v=.slice d len i/\bA 45 bG h h' (.slice d len i) xs):=by
 refine cB bXt Tryz.func114 λA k=>?_;cbv;refine bm (λa=>?_) (λa=>?_)
 .rw[k.CI]at a;cbv;have m:b=none:=by cases b<;>simp at a |-
  subst m;have hl:len=0:=by
   rcases kZE len with e|e
   .exact e
   have:=q.bu e;cases this
  have:=q.len
  grind [hx,Le.refl,bA.nil]
 cbv;intro r j N w;have l:Le h j:=zqs w N
 cbv;refine dG (q.mono (l.t _)) (by simp[bG]) rfl dl (λn=>?_) (λs c p e1 o f g=>?_)
 .cbv;have:=q.len;have hx:xs=[]:=kZh ip;subst hx n;exact⟨l,_,_,rfl,bA.nil⟩
 cbv;exact⟨l.trans f,_,_,rfl,g.buf (l.none e1) q.len⟩
theorem VD{xs:List mS}{len:Nat}(q:Sl 183 dw h (.slice b len cap) xs):
 Ct 220 [.slice b len cap] h (λv h'=>Le h h'/\∃d i,v=.slice d len i/\bA 183 dw h h' (.slice d len i) xs):=by
 refine cB VY Tryz.func220 λA k=>?_;cbv;refine bm (λa=>?_) (λa=>?_)
 .rw[k.CI]at a;cbv;have m:b=none:=by cases b<;>simp at a |-
  subst m;have hl:len=0:=by
   rcases kZE len with e|e
   .exact e
   have:=q.bu e;cases this
  have:=q.len
  grind [hx,Le.refl,bA.nil]
 cbv;intro r j N w;have l:Le h j:=zqs w N
 cbv;refine dG (q.mono (l.t _)) (by simp[dw]) rfl dl (λn=>?_) (λs c p e1 o f g=>?_)
 .cbv;have:=q.len;have hx:xs=[]:=kZh ip;subst hx n;exact⟨l,_,_,rfl,bA.nil⟩
 cbv;exact⟨l.trans f,_,_,rfl,g.buf (l.none e1) q.len⟩
abbrev bZ.v(h:bZ):Value:=.agg #[.zI h.s,.string h.table,.bool h.x]
def eE(a b:bZ):Bool:=decide (a.s≠b.s)&&(decide (a.table=b.table)&&(a.x||b.x))
def bX(l:List bZ)(s:Int):List bZ:=l.filter λh=>decide (h.s≠s)
def jn(h o:bZ):Bool:=decide (o.s=h.s)&&decide (o.table=h.table)
theorem aJM{s1:Int}{a:ByteArray}{x:Bool}(g:h n=some (.cells #[.zI hd.s,.string hd.table,.bool hd.x] 253 (0,0))):
 Ct 360 [.agg #[.zI s1,.string a,.bool x],.zP n] h (λv h'=>Le h h'/\∃t,v=.bool t/\t=jn hd ⟨s1,a,x⟩):=by
 obtain⟨A,b⟩:=Ar.ex;have q:A .aQ .eql s1 hd.s=decide (s1=hd.s):=by rw[au A]
 have c:A .lu .eql a hd.table=decide (a=hd.table):=by rw[eV A]
 refine kh eQU A Tryz.func360 ?_;cbv;rw[av A];refine cy g ?_;cbv;rw[q];cases e1:decide (s1=hd.s)with
 |true=>
  cbv;rw[av A];refine cy g ?_;cbv
  grind [Le.refl,jn]
 |false=>
  cbv
  grind [Le.refl,jn]
theorem Hj{a b:bZ}:
 Ct 318 [.agg #[.zI a.s,.string a.table,.bool a.x],.agg #[.zI b.s,.string b.table,.bool b.x]] h (λv h'=>Le h h'/\∃t,v=.bool t/\t=eE a b):=by
 obtain⟨A,g⟩:=Ar.ex;obtain⟨s1,c,x⟩:=a;obtain⟨s2,d,i⟩:=b;have q:A .aQ .neq s1 s2=decide (s1≠s2):=by rw[aJ A]
 have e:A .lu .eql c d=decide (c=d):=by rw[eV A]
 refine kh eXC A Tryz.func318 ?_;cbv;rw[q];cases e1:decide (s1≠s2)with
 |true=>
  cbv;rw[e];cases f:decide (c=d)with
  |true=>
   cases x with
   |true=>
    cbv
    grind [Le.refl,eE]
   |false=>
    cbv
    grind [Le.refl,eE]
  |false=>
   cbv
   grind [Le.refl,eE]
 |false=>
  cbv
  grind [Le.refl,eE]
theorem aKc{len:Nat}(q:Sl 253 bC h (.slice b len cap) xs){f:Nat}(g:h f=some (.cells #[.zI hd.s,.string hd.table,.bool hd.x] 253 (0,0))):
 Ct 359 [.slice b len cap,.func (.func 360) #[] #[.zP f]] h (λv h'=>Le h h'/\∃z:Int,v=.zI z/\uV xs (jn hd) z):=by
 have e:=q.len;obtain⟨B,Q⟩:=q.bound;generalize m:(jn hd)=p;refine cB bQY Tryz.func359 λA s=>?_;cbv;refine ba.gz (G:=Int) (λz=>[(8,.v (.zI z))]) (λ_=>[]) (λn z h'=>∃i:Nat,bg z i/\n=len-i/\i<=len/\Le h h'/\∀j,j<i->∀y,xs[j]? =some y->p y=false) len 0 ⟨0,⟨rfl⟩,ip,ip,Le.refl _,λj k=>ip⟩ ?_
 intro n z h' I;cbv;obtain⟨i,a,w,u,l,R⟩:=I;refine bm (λc=>?_) (λc=>?_)
 .have Z:=a.lt c;clear c;cbv;obtain⟨x,hx⟩:=cK xs i;refine⟨⟨q.bu,a.ix Z⟩,?_⟩;cbv;refine(q.mono (l.t _)).load hx a.eq (λcs r=>?_);have r:cs=[.zI x.s,.string x.table,.bool x.x]:=r;subst r;cbv;refine(aJM (l _ _ g)).mono (λv o hR=>?_);obtain⟨M,t,rfl,d⟩:=hR;have d:t=p x:=by rw[<-m];exact d
  cbv;cases t with
  |true=>cbv;exact⟨l.trans M,z,rfl,⟨.inr ⟨i,x,a,hx,d.symm,R⟩⟩⟩
  |false=>
   cbv;refine zqn (len-(i+1)) _ ip ⟨i+1,a.succ (A:=A),rfl,ip,l.trans M,?_⟩
   grind
 have C:=a.ge c;cbv;refine⟨l,-1,rfl,⟨.inl ⟨rfl,λx hx=>?_⟩⟩⟩;obtain⟨j,k⟩:=kXT hx
 grind
theorem aKd{len:Nat}(q:Sl 253 bC h (.slice b len cap) xs)(hd:bZ):
 Ct 359 [.slice b len cap,.func (.func 318) #[.agg #[.zI hd.s,.string hd.table,.bool hd.x]] #[]] h (λv h'=>Le h h'/\∃z:Int,v=.zI z/\uV xs (eE hd) z):=by
 have f:=q.len;obtain⟨w,Q⟩:=q.bound;generalize k:(eE hd)=p;refine cB bQY Tryz.func359 λA o=>?_;cbv;refine ba.gz (G:=Int) (λz=>[(8,.v (.zI z))]) (λ_=>[]) (λn z h'=>∃i:Nat,bg z i/\n=len-i/\i<=len/\Le h h'/\∀j,j<i->∀y,xs[j]? =some y->p y=false) len 0 ⟨0,⟨rfl⟩,ip,ip,Le.refl _,λj g=>ip⟩ ?_
 intro n z h' I;cbv;obtain⟨i,c,u,s,l,R⟩:=I;refine bm (λd=>?_) (λd=>?_)
 .have Z:=c.lt d;clear d;cbv;obtain⟨x,hx⟩:=cK xs i;refine⟨⟨q.bu,c.ix Z⟩,?_⟩;cbv;refine(q.mono (l.t _)).load hx c.eq (λcs r=>?_);have r:cs=[.zI x.s,.string x.table,.bool x.x]:=r;subst r;cbv;refine(Hj (a:=hd) (b:=x)).mono (λv m hR=>?_);obtain⟨M,t,rfl,e⟩:=hR;have e:t=p x:=by rw[<-k];exact e
  cbv;cases t with
  |true=>cbv;exact⟨l.trans M,z,rfl,⟨.inr ⟨i,x,c,hx,e.symm,R⟩⟩⟩
  |false=>
   cbv;refine zqn (len-(i+1)) _ ip ⟨i+1,c.succ (A:=A),rfl,ip,l.trans M,?_⟩
   grind
 have B:=c.ge d;cbv;refine⟨l,-1,rfl,⟨.inl ⟨rfl,λx hx=>?_⟩⟩⟩;obtain⟨j,g⟩:=kXT hx
 grind
theorem aJN{a:Option Addr}{d:Nat}(q:Sl 253 bC h (.slice b n c) H)(hd:bZ):
 Ct 316 [.agg #[.slice b n c,.slice a k d],.agg #[.zI hd.s,.string hd.table,.bool hd.x]] h (λv h'=>Le h h'/\∃z:Int,v=.zI z/\uV H (jn hd) z):=by
 refine cB eXE Tryz.func316 λA p=>?_;cbv;intro m f e e1;have l:Le h f:=zqs e1 e
 have g:=zqt e1;cbv;refine(aKc (q.mono (l.t _)) g).mono (λv o hR=>?_);obtain⟨j,z,rfl,i⟩:=hR;cbv;exact⟨l.trans j,z,rfl,i⟩
theorem DK(q:Sl 253 bC h (.slice b n c) H)(hd:bZ):
 Ct 317 [.slice b n c,.func (.func 318) #[.agg #[.zI hd.s,.string hd.table,.bool hd.x]] #[]] h (λv h'=>Le h h'/\∃t:Bool,v=.bool t/\t=H.any (eE hd)):=by
 refine cB eXD Tryz.func317 λA g=>?_;cbv;refine(aKd q hd).mono (λv d hR=>?_);obtain⟨l,z,rfl,e⟩:=hR;cbv;refine⟨l,_,rfl,?_⟩;rw[cF A];rcases e.out with⟨rfl,a⟩|⟨i,x,a,d,f,-⟩
 .grind
 have:=a.eq
 grind
theorem kQ(q:Sl 253 bC h (.slice b n c) H)(Q:n<=2^38)(s:Int):
 Ct 319 [.slice b n c,.zI s] h (λv h'=>Le h h'/\∃d n' c',v=.slice d n' c'/\bA 253 bC h h' (.slice d n' c') (bX H s)):=by
 have y:=q.len;refine cB eXB Tryz.func319 λA L=>?_;cbv;refine ba.go (G:=Int×Option Addr×Nat×Nat) (λg=>[(10,.v (.zI g.1)),(5,.v (.slice g.2.1 g.2.2.1 g.2.2.2))]) (λ_=>[])
  (λk g h'=>∃i:Nat,bg g.1 i/\k=n-i/\i<=n/\Le h h'/\bA 253 bC h h' (.slice g.2.1 g.2.2.1 g.2.2.2) (bX (H.take i) s)) n (0,none,0,0) ⟨?_,?_,?_⟩ ⟨0,⟨rfl⟩,ip,ip,Le.refl _,bA.nil⟩ ?_
 .cbv
 .cbv
 .cbv
 intro k g h' I;cbv;obtain⟨i,a,O,N,l,e⟩:=I;obtain⟨z,t,o,u⟩:=g;have a:bg z i:=a;have e:bA 253 bC h h' (.slice t o u) (bX (H.take i) s):=e;refine bm (λf=>?_) (λf=>?_)
 .have Z:=a.lt f;clear f;cbv;obtain⟨x,hx⟩:=cK H i;refine⟨⟨q.bu,a.ix Z⟩,?_⟩;cbv;refine(q.mono (l.t _)).load hx a.eq (λcs r=>?_);have r:cs=[.zI x.s,.string x.table,.bool x.x]:=r;subst r;have F:A .aQ .neq x.s s=decide (x.s≠s):=by rw[aJ A]
  have J:o<=i:=by
   have:=e.sl.len;rw[this];refine kXj (Dg _ _) ?_
   grind
  cbv;rw[F];cases e1:decide (x.s≠s)with
  |true=>
   cbv;intro E w M p;have j:Le h' w:=zqs p M
   have C:=zqt p;cbv;refine(e.mono (j.t _)).append (bh (s:=bC) C (x:=x) rfl) dl rfl dl ip (l.trans j) (λm d c' K P D T R U=>?_);cbv;refine zqn (n-(i+1)) (_,d,m,c') ip ⟨i+1,a.succ (A:=A),rfl,ip,D,?_⟩
   have:bX (H.take (i+1)) s=bX (H.take i) s++[x]:=by
    rw[kJG,hx]
    grind [bX]
   grind
  |false=>
   cbv;refine zqn (n-(i+1)) (_,t,o,u) ip ⟨i+1,a.succ (A:=A),rfl,ip,l,?_⟩
   have:bX (H.take (i+1)) s=bX (H.take i) s:=by
    rw[kJG,hx]
    grind [bX]
   grind
 have S:=a.ge f;cbv;refine(lJ e.sl).mono (λv w hR=>?_);obtain⟨j,d,c',rfl,B⟩:=hR;cbv;refine⟨l.trans j,_,_,_,rfl,?_⟩;rw[kXe ip]at B;exact B.base l
theorem aKX(d:bg z m)(k:m<=2^38):
 Ct 361 [.zN,.zI z] h (λv h'=>Le h h'/\∃b c',v=.slice b 0 c'/\bA 253 bC h h' (.slice b 0 c') ([]:List bZ)):=by
 obtain⟨A,i⟩:=Ar.ex;have h0:bg (A .nat 0) 0:=bg.nat 0;have a:=d.sub (A:=A) (h0.sub (A:=A) h0 ip ip) ip ip;simp only[kZD,kKd]at a;refine kh eQT A Tryz.func361 ?_;cbv;rw[d.zO (A:=A)];cbv;generalize e:A .aQ .gtr (A .aX .sub .i64 z (A .aX .sub .i64 (A .nat 0) (A .nat 0))) 0=u;generalize f:A .aX .sub .i64 z (A .aX .sub .i64 (A .nat 0) (A .nat 0))=w at a e;rw[bF A]at e;cases u with
 |true=>
  have p:=kZr e;have E:0<m:=by have:=a.eq;omega
  cbv;have x:(0:Int)<=A .nat 0/\A .nat 0<=((0:Nat):Int):=by have:=h0.eq;omega
  refine⟨x,?_⟩;cbv;refine⟨xE a ip dl,?_⟩;cbv;rw[dJ (A:=A) a,dJ (A:=A) h0];refine pa (s:=bC) (xs:=([]:List bZ)) Sl.nil ip rfl dl ip rfl rfl (λn c g M l j o=>?_);rw[kJe];have L:(0:Int)<=A .nat 0/\A .nat 0<=((c:Nat):Int):=gg
  cbv;refine⟨L,?_⟩;cbv;rw[dJ (A:=A) h0,xB (A:=A)];exact⟨l,_,_,rfl,o.buf M rfl⟩
 |false=>
  cbv
  grind [Le.refl,bA.nil]
theorem Di{L:List (List bZ)}(q:Sl 28 (wh 253 bC) h (.slice b n c) L)(N:L.flatten.length<=2^38):
 Ct 320 [.slice b n c] h (λv h'=>Le h h'/\∃o n' c',v=.slice o n' c'/\bA 253 bC h h' (.slice o n' c') L.flatten):=by
 have C:=q.len;obtain⟨lG,V⟩:=q.bound;refine cB eXA Tryz.func320 λA Y=>?_;cbv;refine ba.go (G:=Int×Int) (λg=>[(11,.v (.zI g.1)),(3,.v (.zI g.2))]) (λ_=>[])
  (λk g h'=>∃i:Nat,bg g.1 i/\k=n-i/\i<=n/\h'=h/\bg g.2 (L.take i).flatten.length) n (0,0) ⟨?_,?_,?_⟩ ⟨0,⟨rfl⟩,ip,ip,rfl,⟨rfl⟩⟩ ?_
 .cbv
 .cbv
 .cbv
 intro k g h' I;cbv;obtain⟨i,a,K,J,rfl,j⟩:=I;refine bm (λd=>?_) (λd=>?_)
 .have Z:=a.lt d;clear d;cbv;obtain⟨x,hx⟩:=cK L i;refine⟨⟨q.bu,a.ix Z⟩,?_⟩;cbv;refine q.load hx a.eq (λcs s=>?_);obtain⟨v,rfl,f⟩:=s;obtain⟨u,r,y,rfl⟩:=f.form;have R:=f.len;have l:=yg L (i+1);rw[ir hx,kXy,<-R]at l;have M:=j.add (A:=A) (bg.nat (A:=A) r) ip;have t:=ir hx;cbv;rw[M.zO (A:=A)];cbv;refine zqn (n-(i+1)) (_,A .aX .add .i64 g.2 (A .nat r)) ip ⟨i+1,a.succ (A:=A),rfl,ip,rfl,?_⟩
  grind
 have Q:=a.ge d;have U:i=n:=ip
 rw[kXe ip]at j;obtain⟨z,w⟩:=g;have j:bg w L.flatten.length:=j;cbv;refine(aKX j N).mono (λv W hR=>?_);obtain⟨r,u,y,rfl,e⟩:=hR;cbv;refine ba.go (G:=Int×Option Addr×Nat×Nat) (λg=>[(27,.v (.zI g.1)),(6,.v (.slice g.2.1 g.2.2.1 g.2.2.2))]) (λ_=>[])
  (λk g p=>∃i:Nat,bg g.1 i/\k=n-i/\i<=n/\Le h' p/\bA 253 bC h' p (.slice g.2.1 g.2.2.1 g.2.2.2) (L.take i).flatten) n (0,u,0,y) ⟨?_,?_,?_⟩ ⟨0,⟨rfl⟩,ip,ip,r,e⟩ ?_
 .cbv
 .cbv
 .cbv
 intro k g p I;cbv;obtain⟨i,a,K,J,l,e⟩:=I;obtain⟨z,F,B,H⟩:=g;have a:bg z i:=a;have e:bA 253 bC h' p (.slice F B H) (L.take i).flatten:=e;refine bm (λd=>?_) (λd=>?_)
 .have Z:=a.lt d;clear d;cbv;obtain⟨x,hx⟩:=cK L i;refine⟨⟨q.bu,a.ix Z⟩,?_⟩;cbv;refine(q.mono (l.t _)).load hx a.eq (λcs s=>?_);obtain⟨v,rfl,f⟩:=s;obtain⟨S,l2,T,rfl⟩:=f.form;have P:=f.len;have D:B=(L.take i).flatten.length:=e.sl.len;have E:=yg L (i+1);have t:=ir hx;rw[t,kXy,<-P,<-D]at E;cbv;refine e.append f dl rfl dl ip l (λm o c' X hm O t3 k3 yL=>?_);cbv;refine zqn (n-(i+1)) (_,o,m,c') ip ⟨i+1,a.succ (A:=A),rfl,ip,O,?_⟩
  grind
 have Q:=a.ge d;cbv;rw[kXe ip]at e;exact⟨l,_,_,_,rfl,e⟩
theorem aKW(d:bg z m)(k:m<=2^38):
 Ct 313 [.zN,.zI z] h (λv h'=>Le h h'/\∃b c',v=.slice b 0 c'/\bA 46 bK h h' (.slice b 0 c') ([]:List Row)):=by
 obtain⟨A,i⟩:=Ar.ex;have h0:bg (A .nat 0) 0:=bg.nat 0;have a:=d.sub (A:=A) (h0.sub (A:=A) h0 ip ip) ip ip;simp only[kZD,kKd]at a;refine kh eXH A Tryz.func313 ?_;cbv;rw[d.zO (A:=A)];cbv;generalize e:A .aQ .gtr (A .aX .sub .i64 z (A .aX .sub .i64 (A .nat 0) (A .nat 0))) 0=u;generalize f:A .aX .sub .i64 z (A .aX .sub .i64 (A .nat 0) (A .nat 0))=w at a e;rw[bF A]at e;cases u with
 |true=>
  have p:=kZr e;have E:0<m:=by have:=a.eq;omega
  cbv;have x:(0:Int)<=A .nat 0/\A .nat 0<=((0:Nat):Int):=by have:=h0.eq;omega
  refine⟨x,?_⟩;cbv;refine⟨xE a ip dl,?_⟩;cbv;rw[dJ (A:=A) a,dJ (A:=A) h0];refine pa (s:=bK) (xs:=([]:List Row)) Sl.nil ip rfl dl ip rfl rfl (λn c g M l j o=>?_);rw[kJe];have L:(0:Int)<=A .nat 0/\A .nat 0<=((c:Nat):Int):=gg
  cbv;refine⟨L,?_⟩;cbv;rw[dJ (A:=A) h0,xB (A:=A)];exact⟨l,_,_,rfl,o.buf M rfl⟩
 |false=>
  cbv
  grind [Le.refl,bA.nil]
theorem VB(q:Sl 59 (wh 46 bK) h (.slice b n c) L)(N:L.flatten.length<=2^38):
 Ct 228 [.slice b n c] h (λv h'=>Le h h'/\∃o n' c',v=.slice o n' c'/\bA 46 bK h h' (.slice o n' c') L.flatten):=by
 have C:=q.len;obtain⟨lG,V⟩:=q.bound;refine cB eJf Tryz.func228 λA Y=>?_;cbv;refine ba.go (G:=Int×Int) (λg=>[(11,.v (.zI g.1)),(3,.v (.zI g.2))]) (λ_=>[])
  (λk g h'=>∃i:Nat,bg g.1 i/\k=n-i/\i<=n/\h'=h/\bg g.2 (L.take i).flatten.length) n (0,0) ⟨?_,?_,?_⟩ ⟨0,⟨rfl⟩,ip,ip,rfl,⟨rfl⟩⟩ ?_
 .cbv
 .cbv
 .cbv
 intro k g h' I;cbv;obtain⟨i,a,K,J,rfl,j⟩:=I;refine bm (λd=>?_) (λd=>?_)
 .have Z:=a.lt d;clear d;cbv;obtain⟨x,hx⟩:=cK L i;refine⟨⟨q.bu,a.ix Z⟩,?_⟩;cbv;refine q.load hx a.eq (λcs s=>?_);obtain⟨v,rfl,f⟩:=s;obtain⟨u,r,y,rfl⟩:=f.form;have R:=f.len;have l:=yg L (i+1);rw[ir hx,kXy,<-R]at l;have M:=j.add (A:=A) (bg.nat (A:=A) r) ip;have t:=ir hx;cbv;rw[M.zO (A:=A)];cbv;refine zqn (n-(i+1)) (_,A .aX .add .i64 g.2 (A .nat r)) ip ⟨i+1,a.succ (A:=A),rfl,ip,rfl,?_⟩
  grind
 have Q:=a.ge d;have U:i=n:=ip
 rw[kXe ip]at j;obtain⟨z,w⟩:=g;have j:bg w L.flatten.length:=j;cbv;refine(aKW j N).mono (λv W hR=>?_);obtain⟨r,u,y,rfl,e⟩:=hR;cbv;refine ba.go (G:=Int×Option Addr×Nat×Nat) (λg=>[(27,.v (.zI g.1)),(6,.v (.slice g.2.1 g.2.2.1 g.2.2.2))]) (λ_=>[])
  (λk g p=>∃i:Nat,bg g.1 i/\k=n-i/\i<=n/\Le h' p/\bA 46 bK h' p (.slice g.2.1 g.2.2.1 g.2.2.2) (L.take i).flatten) n (0,u,0,y) ⟨?_,?_,?_⟩ ⟨0,⟨rfl⟩,ip,ip,r,e⟩ ?_
 .cbv
 .cbv
 .cbv
 intro k g p I;cbv;obtain⟨i,a,K,J,l,e⟩:=I;obtain⟨z,F,B,H⟩:=g;have a:bg z i:=a;have e:bA 46 bK h' p (.slice F B H) (L.take i).flatten:=e;refine bm (λd=>?_) (λd=>?_)
 .have Z:=a.lt d;clear d;cbv;obtain⟨x,hx⟩:=cK L i;refine⟨⟨q.bu,a.ix Z⟩,?_⟩;cbv;refine(q.mono (l.t _)).load hx a.eq (λcs s=>?_);obtain⟨v,rfl,f⟩:=s;obtain⟨S,l2,T,rfl⟩:=f.form;have P:=f.len;have D:B=(L.take i).flatten.length:=e.sl.len;have E:=yg L (i+1);have t:=ir hx;rw[t,kXy,<-P,<-D]at E;cbv;refine e.append f dl rfl dl ip l (λm o c' X hm O t3 k3 yL=>?_);cbv;refine zqn (n-(i+1)) (_,o,m,c') ip ⟨i+1,a.succ (A:=A),rfl,ip,O,?_⟩
  grind
 have Q:=a.ge d;cbv;rw[kXe ip]at e;exact⟨l,_,_,_,rfl,e⟩
def dK:Sh Int where
 n:=1
 R _ cs v:=cs=[.zI v]
 len:=gg
 one:=by rintro h cs x rfl;rfl
 tys:=[]
 mono:=λ_ q=>q
def js(a b:Int):Int:=if decide (a<b)=true then -1 else if decide (a>b)=true then 1 else 0
def fI:List Int->Int
 | []=>0
 |x::r=>if decide (x≠0)=true then x else fI r
def dA(a b:jq):Int:=fI [js a.k b.k,js a.n b.n,dy a.s b.s]
def keyOf(key:Int)(r:Row):jq:=if(decide (key<0)||decide (key>=(r.length:Int)))=true then⟨0,0,⟨#[]⟩⟩else(r[key.toNat]?).getD ⟨0,0,⟨#[]⟩⟩
abbrev jq.v(x:jq):Value:=.agg #[.zI x.k,.zI x.n,.string x.s]
theorem MK(a:Int)(h:ad):Ct 358 [.zI a] h (λv h'=>Le h h'/\v=.bool false):=by
 obtain⟨A,b⟩:=Ar.ex;have q:A .aQ .neq a a=false:=by rw[aJ A];simp
 refine kh eQV A Tryz.func358 ?_;cbv
 grind
theorem aQP(a b:Int)(h:ad):Ct 315 [.zI a,.zI b] h (λv h'=>Le h h'/\∃z,v=.zI z/\z=js a b):=by
 refine cB eXF Tryz.func315 λA j=>?_;cbv;refine(MK a h).mono (λv d hR=>?_);obtain⟨l,rfl⟩:=hR;cbv;refine(MK b d).mono (λv i hR=>?_);obtain⟨c,rfl⟩:=hR;cbv;generalize e1:A .aQ .lss a b=u;generalize e:A .aQ .gtr a b=g;have f:=e;rw[aV A]at e1;rw[bF A]at e;cases u with
 |true=>cbv;exact⟨l.trans c,_,rfl,by simp only[js,e1];rfl⟩
 |false=>
  cbv;rw[f];cases g with
  |true=>cbv;exact⟨l.trans c,_,rfl,by simp only[js,e1,e];rfl⟩
  |false=>cbv;exact⟨l.trans c,_,rfl,by simp only[js,e1,e];rfl⟩
theorem pU{xs:List Int}{i:Nat}(h:∀j,j<i->∀y,xs[j]? =some y->y=0):fI xs=fI (xs.drop i):=by
 induction i generalizing xs with
 |zero=>rfl
 |succ i a=>
  cases xs with
  |nil=>rfl
  |cons x r=>
   have hx:x=0:=h 0 ip x rfl
   grind [fI,hx]
theorem dZa{xs:List Int}(q:Sl 3 dK h (.slice b n c) xs):
 Ct 314 [.slice b n c] h (λv h'=>Le h h'/\∃z,v=.zI z/\z=fI xs):=by
 have l:=q.len;obtain⟨t,g⟩:=q.bound;refine cB eXG Tryz.func314 λA m=>?_;cbv;refine ba.gz (G:=Int) (λz=>[(8,.v (.zI z))]) (λ_=>[]) (λk z h'=>∃i:Nat,bg z i/\k=n-i/\i<=n/\h'=h/\∀j,j<i->∀y,xs[j]? =some y->y=0) n 0 ⟨0,⟨rfl⟩,ip,ip,rfl,λj p=>ip⟩ ?_
 intro k z h' e;cbv;obtain⟨i,a,s,o,rfl,R⟩:=e;refine bm (λd=>?_) (λd=>?_)
 .have Z:=a.lt d;clear d;cbv;obtain⟨x,hx⟩:=cK xs i;refine⟨⟨q.bu,a.ix Z⟩,?_⟩;cbv;refine q.load hx a.eq (λcs r=>?_);have r:cs=[.zI x]:=r;subst r;generalize ex:A .aQ .neq x 0=u;rw[aJ A]at ex;have I:xs.drop i=x::xs.drop (i+1):=by
   rw[kQP ip]
   grind
  have f:=pU R;rw[I]at f;cbv;rw[aJ A,ex];cases u with
  |true=>
   cbv
   grind [Le.refl,fI]
  |false=>
   cbv;refine zqn (n-(i+1)) _ ip ⟨i+1,a.succ (A:=A),rfl,ip,rfl,?_⟩
   grind
 have w:=a.ge d;have f:=pU R;rw[wy ip]at f;cbv;exact⟨Le.refl _,_,rfl,f.symm⟩
theorem QI(a b:jq)(h:ad):Ct 231 [.agg #[.zI a.k,.zI a.n,.string a.s],.agg #[.zI b.k,.zI b.n,.string b.s]] h (λv h'=>Le h h'/\∃z,v=.zI z/\z=dA a b):=by
 obtain⟨m,u,s1⟩:=a;obtain⟨n,B,s2⟩:=b;refine cB eJc Tryz.func231 λA H=>?_;cbv;refine(aQP m n h).mono (λv i hR=>?_);obtain⟨o,D,rfl,e1⟩:=hR;cbv;refine(aQP u B i).mono (λv j hR=>?_);obtain⟨p,E,rfl,c⟩:=hR;cbv;refine(aQR s1 s2 j).mono (λv k hR=>?_);obtain⟨q,F,rfl,d⟩:=hR;cbv;intro C l M e;have r:Le k l:=zqs e M
 have g:=zqt e;cbv;refine(dZa (gT (s:=dK) rfl g (x:=D) (y:=E) (w:=F) rfl rfl rfl)).mono (λv G hR=>?_);obtain⟨t,z,rfl,f⟩:=hR;cbv;exact⟨(((o.trans p).trans q).trans r).trans t,z,rfl,by rw[f,e1,c,d];rfl⟩
theorem Zb{g i j m:Value}(q:Sl 45 bG h (.slice b n c) r):
 Ct 113 [.agg #[g,i,.zI key,j,m],.slice b n c] h (λv h'=>Le h h'/\∃k:jq,v=.agg #[.zI k.k,.zI k.n,.string k.s]/\k=keyOf key r):=by
 obtain⟨A,o⟩:=Ar.ex;have l:=q.len;generalize e1:A .aQ .lss key 0=u;generalize e:A .aQ .geq key (A .nat n)=p;have f:=e1;have d:=e;rw[aV A]at e1;rw[cF A,o.nat]at e;simp only[kZn]at e;refine kh eKT A Tryz.func113 ?_;cbv;rw[f];cases u with
 |true=>
  cbv
  grind [Le.refl,keyOf]
 |false=>
  cbv;rw[d];cases p with
  |true=>
   cbv
   grind [Le.refl,keyOf]
  |false=>
   obtain⟨S,s⟩:=PG A f d;obtain⟨x,hx⟩:=cK r key.toNat;cbv;refine⟨⟨q.bu,S.ix s⟩,?_⟩;cbv;refine q.load hx S.eq (λcs a=>?_);have a:cs=[.zI x.k,.zI x.n,.string x.s]:=a;subst a;cbv
   grind [Le.refl,keyOf,hx]
theorem SM{d f i j:Value}(g:h k=some (.cells #[d,f,.zI key,i,j] 260 (0,0)))(q:Sl 45 bG h (.slice b n c) r)(kv:jq):
 Ct 230 [.slice b n c,.agg #[.zI kv.k,.zI kv.n,.string kv.s],.zP k] h (λv h'=>Le h h'/\∃z,v=.zI z/\z=dA (keyOf key r) kv):=by
 refine cB eJd Tryz.func230 λA s=>?_;cbv;refine cy g ?_;cbv;refine(Zb q).mono (λv a hR=>?_);obtain⟨m,l,rfl,Q⟩:=hR;cbv;refine(QI l kv a).mono (λv p hR=>?_);obtain⟨o,z,rfl,e⟩:=hR;cbv;exact⟨m.trans o,z,rfl,by rw[e,Q]⟩
theorem eQz{xs:List Row}{len:Nat}(q:Sl 46 bK h (.slice b len cap) xs){K N O P:Value}(s:h u=some (.cells #[K,N,.zI key,O,P] 260 (0,0)))(kv:jq):
 Ct 229 [.slice b len cap,.agg #[.zI kv.k,.zI kv.n,.string kv.s],.func (.func 230) #[] #[.zP u]] h (λv h'=>Le h h'/\∃(z:Int) (t:Bool),v=.tuple #[.zI z,.bool t]/\Rb (xs.map (λx:Row=>dA (keyOf key x) kv)) z t):=by
 have f:=q.len;obtain⟨V,T⟩:=q.bound;have S:(xs.map (λx:Row=>dA (keyOf key x) kv)).length=len:=by simp[f]
 generalize hl:xs.map (λx:Row=>dA (keyOf key x) kv)=l at S;have X:∀(i:Nat) x,xs[i]? =some x->l[i]? =some ((λx:Row=>dA (keyOf key x) kv) x):=λi x hx=>gg
 refine cB eJe Tryz.func229 λA c=>?_;cbv;refine ba.go (G:=Int×Int) (λg=>[(9,.v (.zI g.1)),(10,.v (.zI g.2))]) (λ_=>[(4,[.zI kv.k,.zI kv.n,.string kv.s])])
  (λn g h'=>∃i j:Nat,bg g.1 i/\bg g.2 j/\n=j-i/\i<=j/\j<=len/\Le h h'/\sM l 0 len=sM l i j) len (0,A .nat len) ⟨?_,?_,?_⟩ ⟨0,len,⟨rfl⟩,⟨by rw[c.nat];rfl⟩,ip,ip,ip,Le.refl _,rfl⟩ ?_
 .cbv
 .cbv
 .cbv
 intro n g h' I;cbv;obtain⟨i,j,a,o,U,W,R,e,B⟩:=I;refine bm (λd=>?_) (λd=>?_)
 .rw[a.zQ (A:=A) o,kJP]at d;cbv;refine⟨dl,?_⟩;cbv;have p:=a.gXu (A:=A) o ip ip;obtain⟨x,hx⟩:=ay (xs:=xs) (i:=(i+j) / 2) ip;refine⟨⟨q.bu,p.ix ip⟩,?_⟩;cbv;refine(q.mono (e.t _)).load hx p.eq (λcs r=>?_);obtain⟨v,rfl,m⟩:=r;obtain⟨y,Q,C,rfl⟩:=m.form;cbv;refine(SM (e _ _ s) m kv).mono (λv E hR=>?_);obtain⟨M,z,rfl,J⟩:=hR;cbv;have F:l.getD ((i+j) / 2) 0=z:=gg
  have D:=B;rw[sM.eq_1 l i j,if_pos d,F]at D;refine bm (λk=>?_) (λk=>?_)
  .rw[c.aQ]at k;have H:z<0:=kZr k;rw[if_pos H]at D;clear k H;cbv;refine zqn (j-((i+j) / 2+1)) (_,g.2) ip ⟨(i+j) / 2+1,j,p.succ (A:=A),o,rfl,ip,R,e.trans M,D⟩
  rw[c.aQ]at k;have H:¬z<0:=kZX k;rw[if_neg H]at D;clear k H;cbv;refine zqn ((i+j) / 2-i) (g.1,A .conv .i64 (A .aX .shr .u64 (A .conv .u64 (A .aX .add .i64 g.1 g.2)) 1)) ip ⟨i,(i+j) / 2,a,p,rfl,ip,ip,e.trans M,D⟩
 rw[a.zQ (A:=A) o,decide_eq_false_iff_not]at d;cbv;have D:=B;rw[sM.eq_1 l i j,if_neg d]at D;have L:=a.zQ (A:=A) (w:=A .nat len) (j:=len) ⟨by rw[c.nat];rfl⟩;refine bm (λk=>?_) (λk=>?_)
 .rw[k];rw[L,kJP]at k;cbv;obtain⟨x,hx⟩:=cK xs i;refine⟨⟨q.bu,a.ix ip⟩,?_⟩;cbv;refine(q.mono (e.t _)).load hx a.eq (λcs r=>?_);obtain⟨v,rfl,m⟩:=r;obtain⟨y,Q,C,rfl⟩:=m.form;cbv;refine(SM (e _ _ s) m kv).mono (λv E hR=>?_);obtain⟨M,z,rfl,J⟩:=hR;cbv;refine⟨e.trans M,_,_,rfl,⟨i,a,?_,?_⟩⟩
  .grind
  rw[c.aQ]
  grind [hx,aQ]
 rw[k];rw[L,decide_eq_false_iff_not]at k;cbv;refine⟨e,_,_,rfl,⟨i,a,?_,?_⟩⟩
 .grind
 grind
theorem SN{a d e:Value}(q:Sl 46 bK h (.slice b n c) o)(kv:jq):
 Ct 112 [.agg #[a,d,.zI key,e,.slice b n c],.agg #[.zI kv.k,.zI kv.n,.string kv.s]] h (λv h'=>Le h h'/\∃z t,v=.tuple #[.zI z,.bool t]/\Rb (o.map λr=>dA (keyOf key r) kv) z t):=by
 refine cB eKU Tryz.func112 λA p=>?_;cbv;intro k f M e1;have l:Le h f:=zqs e1 M
 have g:=zqt e1;cbv;rw[av A];rw[av A];refine cy g ?_;cbv;refine(eQz (q.mono (l.t _)) g kv).mono (λv m hR=>?_);obtain⟨j,z,t,rfl,i⟩:=hR;cbv;exact⟨l.trans j,z,t,rfl,i⟩
def iM(v:jq):jq:=if decide (v.k=3)=true then⟨v.k,0,v.s⟩else if decide (v.k=1)=true then⟨v.k,v.n,⟨#[]⟩⟩else if decide (v.k=2)=true then⟨v.k,v.n,⟨#[]⟩⟩else⟨v.k,0,⟨#[]⟩⟩
def ij(a b:jq):Bool:=decide (a.k=b.k)&&(decide (a.n=b.n)&&decide (a.s=b.s))
def dS(v:jq):Int:=
 if(decide (v.k<0)||decide (v.k>3))=true then 3
 else if(!ij v (iM v)||(decide (v.k=1)&&decide (v.n≠0)&&decide (v.n≠1)))=true then 1
 else if decide ((v.s.size:Int)>60)=true then 5 else 0
theorem cQg{xs:List Row}{len:Nat}(q:Sl 46 bK h (.slice b len cap) xs):
 Ct 227 [.slice b len cap] h (λv h'=>Le h h'/\∃c,h c=none/\v=.slice (zsA c) len len/\dt 46 bK h' c len xs):=by
 have f:=q.len;obtain⟨L,Q⟩:=q.bound;refine cB eJg Tryz.func227 λA C=>?_;cbv;refine tI (s:=bK) rfl ip dl (λc u e l o=>?_);cbv;refine ba.gz (G:=Int) (λz=>[(11,.v (.zI z))]) (λ_=>[]) (λn z h'=>∃i:Nat,bg z i/\n=len-i/\i<=len/\Le h h'/\dt 46 bK h' c len (xs.take i)) len 0 ⟨0,⟨rfl⟩,ip,ip,l,o⟩ ?_
 intro n z h' I;cbv;obtain⟨i,a,F,E,p,y⟩:=I;refine bm (λd=>?_) (λd=>?_)
 .have Z:=a.lt d;clear d;cbv;obtain⟨x,hx⟩:=cK xs i;refine⟨⟨q.bu,a.ix Z⟩,?_⟩;cbv;refine(q.mono (p.t _)).load hx a.eq (λcs r=>?_);obtain⟨v,rfl,g⟩:=r;obtain⟨j,J,t,rfl⟩:=g.form;cbv;refine(Ha g).mono (λP w hR=>?_);obtain⟨M,m,K,rfl,O,-⟩:=hR;cbv;refine⟨⟨rfl,a.ix Z⟩,?_⟩;cbv;refine(y.mono (M.t _)).store dl (i:=i) (by simp;omega) ip ip a.eq rfl (x:=x) ⟨_,rfl,O⟩ (λB k H D=>?_);cbv;refine zqn (len-(i+1)) _ ip ⟨i+1,a.succ (A:=A),rfl,ip,?_,?_⟩
  .exact(p.trans M).bf (iu e) k
  rw[if_neg (by simp;omega)]at D;rw[kJG,hx];exact D
 have N:=a.ge d;cbv;have:i=len:=ip
 subst this;refine⟨p,c,e,rfl,?_⟩
 grind
theorem xM{s p:Option Addr}{o r:Nat}(z:Sl 202 bJ h (.slice s o m) cols)(y:Sl 59 (wh 46 bK) h (.slice b n c) L)(t:L.flatten.length<=2^38):
 Ct 111 [.agg #[.string nm,.slice s o m,.zI key,.bool only,.slice p u r],.slice b n c] h (λv h'=>Le h h'/\∃a j k d f e,v=.agg #[.string nm,.slice a j k,.zI key,.bool only,.slice d f e]/\Sl 202 bJ h' (.slice a j k) cols/\Sl 46 bK h' (.slice d f e) L.flatten):=by
 refine cB eKV Tryz.func111 λA E=>?_;cbv;refine(NL z).mono (λv B hR=>?_);obtain⟨l,a,k,rfl,x,-⟩:=hR;cbv;refine(VB (y.mono (l.t _)) t).mono (λv C hR=>?_);obtain⟨g,d,f,e,rfl,q⟩:=hR;cbv;refine(cQg q.sl).mono (λv D hR=>?_);obtain⟨i,F,M,rfl,w⟩:=hR;cbv;exact⟨(l.trans g).trans i,_,_,_,_,_,_,rfl,x.mono ((g.trans i).t _),w.sl q.sl.len⟩
theorem bQO(w:jq)(h:ad):Ct 312 [.agg #[.zI w.k,.zI w.n,.string w.s]] h (λv h'=>Le h h'/\∃x:jq,v=.agg #[.zI x.k,.zI x.n,.string x.s]/\x=iM w):=by
 obtain⟨A,g⟩:=Ar.ex;obtain⟨k,n,s⟩:=w;generalize a:A .aQ .eql k 3=u3;generalize e1:A .aQ .eql k 1=u;generalize e:A .aQ .eql k 2=d;have c:=a;have b:=e;have f:=e1;rw[au A]at e1 e a;refine kh eXI A Tryz.func312 ?_;cbv;rw[c];cases u3 with
 |true=>
  cbv
  grind [Le.refl,iM]
 |false=>
  cbv;rw[f];cases u with
  |true=>
   cbv
   grind [Le.refl,iM]
  |false=>
   cbv;rw[b];cases d with
   |true=>
    cbv
    grind [Le.refl,iM]
   |false=>
    cbv
    grind [Le.refl,iM]
theorem NQ(w:jq)(h:ad):Ct 226 [.agg #[.zI w.k,.zI w.n,.string w.s]] h (λv h'=>Le h h'/\∃z,v=.zI z/\z=dS w):=by
 obtain⟨A,a⟩:=Ar.ex;obtain⟨k,n,s⟩:=w;generalize r:iM ⟨k,n,s⟩=bv;obtain⟨F,n',G⟩:=bv;generalize e1:A .aQ .lss k 0=j;generalize e:A .aQ .gtr k 3=m;generalize b:A .not (A .and (A .aQ .eql k F) (A .and (A .aQ .eql n n') (A .and (A .lu .eql s G) true)))=u3;generalize c:A .aQ .eql k 1=o;generalize d:A .aQ .neq n 0=p;generalize g:A .aQ .neq n 1=q;generalize i:A .aQ .gtr (A .lW s) 60=u;have t:=e1;have y:=e;have B:=b;have C:=c;have D:=d;have E:=g;have f:=i;rw[aV A]at e1;rw[bF A]at e;rw[au A]at c;rw[aJ A]at d g;rw[bF A,a.lW]at i;rw[a.not,a.and,au A,au A,eV A]at b;have key:∀z,z=(if(j||m)=true then(3:Int)else if(u3||(o&&p&&q))=true then 1 else if u=true then 5 else 0)->z=dS ⟨k,n,s⟩:=λz I=>by
  grind [dS,ij]
 refine kh eJh A Tryz.func226 ?_;cbv;rw[t];cases j with
 |true=>
  cbv
  grind
 |false=>
  cbv;rw[y];cases m with
  |true=>
   cbv
   grind
  |false=>
   cbv;refine(bQO ⟨k,n,s⟩ h).mono (λv H hR=>?_);obtain⟨l,x,rfl,ex⟩:=hR;rw[r]at ex;subst ex;cbv;rw[B];cases u3 with
   |true=>cbv;exact⟨l,1,rfl,key 1 rfl⟩
   |false=>
    cbv;rw[C];cases o with
    |false=>
     cbv;rw[f];cases u with
     |true=>cbv;exact⟨l,5,rfl,key 5 rfl⟩
     |false=>cbv;exact⟨l,0,rfl,key 0 rfl⟩
    |true=>
     cbv;rw[D];cases p with
     |false=>
      cbv;rw[f];cases u with
      |true=>cbv;exact⟨l,5,rfl,key 5 rfl⟩
      |false=>cbv;exact⟨l,0,rfl,key 0 rfl⟩
     |true=>
      cbv;rw[E];cases q with
      |true=>cbv;exact⟨l,1,rfl,key 1 rfl⟩
      |false=>
       cbv;rw[f];cases u with
       |true=>cbv;exact⟨l,5,rfl,key 5 rfl⟩
       |false=>cbv;exact⟨l,0,rfl,key 0 rfl⟩
theorem Rb.at_{l:List Int}{t:Bool}(q:Rb l z t):bg z (dE l)/\t=iC l:=by obtain⟨i,h,a,b⟩:=q.out;subst a;exact⟨h,b⟩
def dU(c:jR)(v:jq):Int:=if decide (dS v≠0)=true then dS v else if(decide (v.k=0)&& !c.null)=true then 13 else if(decide (v.k≠0)&&decide (v.k≠c.kind))=true then 3 else 0
def eF(cols:List jR)(r:Row):Int:=if decide ((r.length:Int)≠(cols.length:Int))=true then 1 else fI (List.zipWith dU cols r)
def cU(t:bS)(k:jq):List Int:=t.rows.map λr=>dA (keyOf t.S.key r) k
def Cm(t:bS)(i:Nat)(r:Row):bS:=⟨t.S,t.rows.take i++[r]++t.rows.drop i⟩
def Fo(t:bS)(i:Nat):bS:=⟨t.S,t.rows.take i++t.rows.drop (i+1)⟩
def bL(t:bS)(r:Row):bS×Int:=
 if decide (eF t.S.cols r≠0)=true then(t,eF t.S.cols r)
 else if iC (cU t (keyOf t.S.key r))=true then(t,7)
 else if decide ((t.rows.length:Int)>=200)=true then(t,4)
 else(Cm t (dE (cU t (keyOf t.S.key r))) r,0)
def bE(t:bS)(k:jq):bS×Row×Int:=
 if iC (cU t k)=true then(Fo t (dE (cU t k)),(t.rows[dE (cU t k)]?).getD [],0)else(t,[],2)
theorem bQh{N:Option Addr}{t P:Nat}(M:Sl 202 bJ h (.slice N t P) cols)(q:Sl 45 bG h (.slice b n c) r):
 Ct 110 [.agg #[.string nm,.slice N t P,.zI key,.bool only],.slice b n c] h (λv h'=>Le h h'/\∃z,v=.zI z/\z=eF cols r):=by
 obtain⟨A,T⟩:=Ar.ex;have s:=q.len;have Q:=M.len;obtain⟨lG,gQ⟩:=q.bound;generalize e1:A .aQ .neq (A .nat n) (A .nat t)=u1;have f1:=e1;rw[aJ A,T.nat]at e1;simp only[kZn]at e1;rw[s,Q]at e1;have Z:u1=false->n=t:=λe=>gg
 refine kh eKW A Tryz.func110 ?_;cbv;rw[f1];cases u1 with
 |true=>
  cbv
  grind [Le.refl,eF]
 |false=>
  have Wr:=Z rfl;cbv;refine ba.go (G:=Int) (λz=>[(17,.v (.zI z))]) (λ_=>[(2,[.string nm,.slice N t P,.zI key,.bool only])])
   (λk z h'=>∃i:Nat,bg z i/\k=n-i/\i<=n/\Le h h'/\∀j,j<i->∀y,(List.zipWith dU cols r)[j]? =some y->y=0) n 0 ⟨?_,?_,?_⟩ ⟨0,⟨rfl⟩,ip,ip,Le.refl _,λj hj=>ip⟩ ?_
  .cbv
  .cbv
  .cbv
  intro k z h' hI;cbv;obtain⟨i,p,hk,hi,d,bR⟩:=hI;refine bm (λB=>?_) (λB=>?_)
  .have aZ:=p.lt B;clear B;cbv;obtain⟨x,hx⟩:=cK r i;obtain⟨y,hy⟩:=cK cols i;have K:(List.zipWith dU cols r)[i]? =some (dU y x):=gg
   have IZ:(List.zipWith dU cols r).drop i=dU y x::(List.zipWith dU cols r).drop (i+1):=by have hl:=(HH.1 K);rw[kQP hl.1,hl.2]
   have J:eF cols r=fI ((List.zipWith dU cols r).drop i):=by
    grind [pU,eF]
   have m:∀ {U:ad} (w:Int),Le h U->w=dU y x->w≠0->Le h U/\∃z,Value.zI w=.zI z/\z=eF cols r:=λw l ew hw=>by
    grind [fI]
   have L:∀(o:ad),Le h o->dU y x=0->∃j:Nat,bg (A .aX .add .i64 z 1) j/\n-(i+1)=n-j/\j<=n/\Le h o/\∀V,V<j->∀w,(List.zipWith dU cols r)[V]? =some w->w=0:=λo l e0=>
    ⟨i+1,p.succ (A:=A),rfl,ip,l,λj hj w hw=>by
     grind⟩
   refine⟨⟨q.bu,p.ix aZ⟩,?_⟩;cbv;refine(q.mono (d.t _)).load hx p.eq (λcs f=>?_);have f:cs=[.zI x.k,.zI x.n,.string x.s]:=f;subst f;cbv;refine⟨⟨M.bu,p.ix ip⟩,?_⟩;cbv;refine(M.mono (d.t _)).load hy p.eq (λcs f=>?_);have f:cs=[.string y.name,.zI y.kind,.bool y.null]:=f;subst f;cbv;refine(NQ x h').mono (λv o hR=>?_);obtain⟨l2,u,rfl,I⟩:=hR;have a:=d.trans l2;obtain⟨O,X,nl⟩:=y;generalize C:A .aQ .neq u 0=R;generalize D:A .aQ .eql x.k 0=w2;generalize E:A .aQ .neq x.k 0=S;generalize F:A .aQ .neq x.k X=w4;generalize H:A .not nl=w5;have k1:=C;have k2:=D;have W:=E;have k4:=F;have k5:=H;rw[aJ A]at C E F;rw[au A]at D;rw[T.not]at H;have key:dU ⟨O,X,nl⟩ x=if R=true then u else if(w2&&w5)=true then 13 else if(S&&w4)=true then 3 else 0:=by rw[<-C,<-D,<-E,<-F,<-H,I];rfl
   have Kk:R=true->u≠0:=λe=>gg
   cbv;rw[k1];cases R with
   |true=>cbv;exact m u a key.symm (Kk rfl)
   |false=>
    cbv;rw[k2];cases w2 with
    |true=>
     have Y:S=false:=by
      grind
     subst Y;cbv;rw[k5];cases w5 with
     |true=>cbv;exact m 13 a key.symm ip
     |false=>
      have g:=L o a key;cbv;rw[W];cbv;refine zqn (n-(i+1)) _ ip g
    |false=>
     cbv;rw[W];cases S with
     |true=>
      cbv;rw[k4];cases w4 with
      |true=>cbv;exact m 3 a key.symm ip
      |false=>
       have g:=L o a key;cbv;refine zqn (n-(i+1)) _ ip g
     |false=>
      have g:=L o a key;cbv;refine zqn (n-(i+1)) _ ip g
  have mw:=p.ge B;have J:=pU bR;rw[wy gg]at J;cbv;refine⟨d,0,rfl,?_⟩;simp only[eF,e1,J];rfl
theorem bKD(q:Sl 45 bG h (.slice b n c) r):bK.R h [.slice b n c] r:=⟨_,rfl,q⟩
theorem pP{L:List Row}(q:Sl 46 bK h (.slice b n c) L):(wh 46 bK).R h [.slice b n c] L:=⟨_,rfl,q⟩
theorem bZk{sb b4:Option Addr}{sn sc I Q:Nat}(O:Sl 202 bJ h (.slice sb sn sc) cols)(x:Sl 46 bK h (.slice b4 I Q) o)(q:Sl 45 bG h (.slice b n c) r)(hn:I<=2^37):
 Ct 45 [.agg #[.string nm,.slice sb sn sc,.zI key,.bool only,.slice b4 I Q],.slice b n c] h (λv h'=>Le h h'/\∃B G k D H l e T,v=.tuple #[.agg #[.string nm,.slice B G k,.zI key,.bool only,.slice D H l],.zI e]/\
  Sl 202 bJ h' (.slice B G k) cols/\Sl 46 bK h' (.slice D H l) T/\(⟨⟨⟨nm,cols,key,only⟩,T⟩,e⟩:bS×Int)=bL ⟨⟨nm,cols,key,only⟩,o⟩ r):=by
 have j:=x.len;refine cB iQO Tryz.func45 λA hA=>?_;cbv;refine(bQh (nm:=nm) (key:=key) (only:=only) O q).mono (λv h1 hR=>?_);obtain⟨W,z,rfl,ez⟩:=hR;have C:bL ⟨⟨nm,cols,key,only⟩,o⟩ r=if decide (z≠0)=true then(⟨⟨nm,cols,key,only⟩,o⟩,z)else if iC (cU ⟨⟨nm,cols,key,only⟩,o⟩ (keyOf key r))=true then(⟨⟨nm,cols,key,only⟩,o⟩,7)
  else if decide ((o.length:Int)>=200)=true then(⟨⟨nm,cols,key,only⟩,o⟩,4)else(Cm ⟨⟨nm,cols,key,only⟩,o⟩ (dE (cU ⟨⟨nm,cols,key,only⟩,o⟩ (keyOf key r))) r,0):=by rw[ez];rfl
 generalize R:A .aQ .neq z 0=w1;have k:=R;rw[aJ A]at R;rw[R]at C;have m:([o]:List (List Row)).flatten=o:=io
 cbv;rw[k];cases w1 with
 |true=>
  cbv;intro u h2 M e2;have Z:Le h1 h2:=zqs e2 M
  have p:=zqt e2;have E:=W.trans Z;cbv;refine(xM (O.mono (E.t _)) (bh (s:=wh 46 bK) p (pP (x.mono (E.t _)))) gg).mono (λv P hR=>?_);obtain⟨l3,B,G,k,D,H,l,rfl,y,a⟩:=hR;rw[m]at a;cbv;exact⟨E.trans l3,_,_,_,_,_,_,z,o,rfl,y,a,C.symm⟩
 |false=>
  cbv;refine(Zb (q.mono (W.t _))).mono (λv h2 hR=>?_);obtain⟨Z,L,rfl,U⟩:=hR;have E:=W.trans Z;cbv;refine(SN (x.mono (E.t _)) L).mono (λv P hR=>?_);obtain⟨l3,d,t,rfl,hb⟩:=hR;have nN:=E.trans l3;obtain⟨f,V⟩:=hb.at_;rw[<-U]at C;have V:t=iC (cU ⟨⟨nm,cols,key,only⟩,o⟩ L):=V;have f:bg d (dE (cU ⟨⟨nm,cols,key,only⟩,o⟩ L)):=f;have J:dE (cU ⟨⟨nm,cols,key,only⟩,o⟩ L)<=I:=by
   grind [cJF,cU]
  rw[<-V]at C;generalize dE (cU ⟨⟨nm,cols,key,only⟩,o⟩ L)=i at *;generalize p:A .aQ .geq (A .nat I) 200=w2;have l:=p;rw[cF A,hA.nat]at p;simp only[kZn]at p;rw[j]at p;rw[p]at C;cases t with
  |true=>
   cbv;intro u j M g;have N:Le P j:=zqs g M
   have K:=zqt g;have w:=nN.trans N;cbv;refine(xM (O.mono (w.t _)) (bh (s:=wh 46 bK) K (pP (x.mono (w.t _)))) gg).mono (λv S hR=>?_);obtain⟨F,B,G,k,D,H,l,rfl,y,a⟩:=hR;rw[m]at a;cbv;exact⟨w.trans F,_,_,_,_,_,_,7,o,rfl,y,a,C.symm⟩
  |false=>
   cbv;rw[l];cases w2 with
   |true=>
    cbv;intro u j M g;have N:Le P j:=zqs g M
    have K:=zqt g;have w:=nN.trans N;cbv;refine(xM (O.mono (w.t _)) (bh (s:=wh 46 bK) K (pP (x.mono (w.t _)))) gg).mono (λv S hR=>?_);obtain⟨F,B,G,k,D,H,l,rfl,y,a⟩:=hR;rw[m]at a;cbv;exact⟨w.trans F,_,_,_,_,_,_,4,o,rfl,y,a,C.symm⟩
   |false=>
    have kE:=x.bound;have eL:0<=d/\d<=(Q:Int)/\0<=d/\d<=d:=by have:=f.eq;omega
    have jW:0<=d/\d<=(I:Int):=by have:=f.eq;omega
    have X:([o.take i,[r],o.drop i]:List (List Row)).flatten=o.take i++[r]++o.drop i:=io
    have Ef:(o.take i++[r]++o.drop i).length<=2^38:=by simp;omega
    cbv;refine⟨eL,?_⟩;cbv;refine⟨jW,?_⟩;cbv;intro u j M g;have N:Le P j:=zqs g M
    have K:=zqt g;have w:=nN.trans N;cbv;intro KY S wW e5;have F:Le j S:=zqs e5 wW
    have g5:=zqt e5;have Y:=w.trans F;have Wj:=x.mono (Y.t _);have p1:=pP (Wj.tp (A:=A) (s:=bK) (z:=d) J (dJ (A:=A) f) (dJ (A:=A) f));have p2:=pP (bh (s:=bK) (F _ _ K) (bKD (q.mono (Y.t _))));have p3:=pP (Wj.jX (A:=A) (s:=bK) f J (cS (A:=A) f) (cS (A:=A) f));cbv;refine(xM (O.mono (Y.t _)) (gT (s:=wh 46 bK) rfl g5 p1 p2 p3) gg).mono (λv h6 hR=>?_);obtain⟨l6,B,G,k,D,H,l,rfl,y,a⟩:=hR;rw[X]at a;cbv;exact⟨Y.trans l6,_,_,_,_,_,_,0,_,rfl,y,a,C.symm⟩
theorem XA{r:List Row}{sb D:Option Addr}{sn sc E:Nat}(V:Sl 202 bJ h (.slice sb sn sc) cols)(q:Sl 46 bK h (.slice D n E) r)(hn:n<=2^37)(kv:jq):
 Ct 277 [.agg #[.string nm,.slice sb sn sc,.zI key,.bool only,.slice D n E],.agg #[.zI kv.k,.zI kv.n,.string kv.s]] h (λv h'=>Le h h'/\∃g u m j w o B U G e T R,v=.tuple #[.agg #[.string nm,.slice g u m,.zI key,.bool only,.slice j w o],.slice B U G,.zI e]/\
  Sl 202 bJ h' (.slice g u m) cols/\Sl 46 bK h' (.slice j w o) T/\Sl 45 bG h' (.slice B U G) R/\(⟨⟨⟨nm,cols,key,only⟩,T⟩,R,e⟩:bS×Row×Int)=bE ⟨⟨nm,cols,key,only⟩,r⟩ kv):=by
 have F:=q.len;have y:([r]:List (List Row)).flatten=r:=io
 refine cB eZn Tryz.func277 λA S=>?_;cbv;refine(SN q kv).mono (λv P hR=>?_);obtain⟨H,b,t,rfl,hb⟩:=hR;obtain⟨f,k⟩:=hb.at_;have C:bE ⟨⟨nm,cols,key,only⟩,r⟩ kv=if iC (cU ⟨⟨nm,cols,key,only⟩,r⟩ kv)=true then(Fo ⟨⟨nm,cols,key,only⟩,r⟩ (dE (cU ⟨⟨nm,cols,key,only⟩,r⟩ kv)),(r[dE (cU ⟨⟨nm,cols,key,only⟩,r⟩ kv)]?).getD [],0)else(⟨⟨nm,cols,key,only⟩,r⟩,[],2):=rfl
 have k:t=iC (cU ⟨⟨nm,cols,key,only⟩,r⟩ kv):=k;have f:bg b (dE (cU ⟨⟨nm,cols,key,only⟩,r⟩ kv)):=f;have Z:t=true->dE (cU ⟨⟨nm,cols,key,only⟩,r⟩ kv)<n:=λe=>by
  have:=jk (k.symm.trans e);rw[F];simpa[cU]using this
 rw[<-k]at C;generalize dE (cU ⟨⟨nm,cols,key,only⟩,r⟩ kv)=i at *;cases t with
 |false=>
  have O:A .not false=true:=by rw[S.not];rfl
  cbv;rw[O];cbv;intro nb F eM M;have l4:Le P F:=zqs M eM
  have g4:=zqt M;have L:=H.trans l4;cbv;refine(xM (V.mono (L.t _)) (bh (s:=wh 46 bK) g4 (pP (q.mono (L.t _)))) gg).mono (λv Q hR=>?_);obtain⟨l,g,u,m,j,w,o,rfl,K,c⟩:=hR;rw[y]at c;cbv;exact⟨L.trans l,_,_,_,_,_,_,_,_,_,2,r,[],rfl,K,c,Sl.nil,C.symm⟩
 |true=>
  have Z:=Z rfl;have O:A .not true=false:=by rw[S.not];rfl
  have kE:=q.bound;have p:=f.succ (A:=A);have eL:0<=b/\b<=(E:Int)/\0<=b/\b<=b:=by have:=f.eq;omega
  have jW:0<=A .aX .add .i64 b 1/\A .aX .add .i64 b 1<=(n:Int):=by have:=p.eq;omega
  have X:([r.take i,r.drop (i+1)]:List (List Row)).flatten=r.take i++r.drop (i+1):=io
  have Ef:(r.take i++r.drop (i+1)).length<=2^38:=by simp;omega
  obtain⟨x,hx⟩:=cK r i;have Kw:D.isSome=true/\0<=b/\b<(n:Int):=⟨q.bu,f.ix Z⟩;cbv;rw[O];cbv;refine⟨eL,?_⟩;cbv;refine⟨jW,?_⟩;cbv;refine⟨Kw,?_⟩;cbv;refine(q.mono (H.t _)).bZs hx f.eq (λcs ar a=>?_);obtain⟨vx,rfl,d⟩:=ar;obtain⟨bx,lx,cx,rfl⟩:=d.form;cbv;intro KY Q wW N;have l:Le P Q:=zqs N wW
  have g5:=zqt N;have Y:=H.trans l;have W:=q.mono (Y.t _);have p1:=pP (W.tp (A:=A) (s:=bK) (z:=b) (kKc Z) (dJ (A:=A) f) (dJ (A:=A) f));have p3:=pP (W.jX (A:=A) (s:=bK) p Z (cS (A:=A) p) (cS (A:=A) p));cbv;refine a _ _ l ?_;cbv;refine zqr ?_;cbv;refine(xM (V.mono (Y.t _)) (pf (s:=wh 46 bK) rfl g5 p1 p3) gg).mono (λv h6 hR=>?_);obtain⟨I,g,u,m,j,w,o,rfl,K,c⟩:=hR;rw[X]at c;cbv;refine a _ _ (l.trans I) ?_;cbv;refine zqr ?_;cbv;refine(Ha (d.mono ((l.trans I).t _))).mono (λv h7 hR=>?_);obtain⟨J,B,G,rfl,r3,-⟩:=hR;cbv;rw[hx]at C;exact⟨(Y.trans I).trans J,_,_,_,_,_,_,_,_,_,0,_,_,rfl,K.mono (J.t _),c.mono (J.t _),r3,C.symm⟩
theorem aKb{b:Type}{xs:List b}{p:b->Bool}(q:uV xs p z):(z=-1/\xs.findIdx? p=none)\/∃i x,bg z i/\xs.findIdx? p=some i/\xs[i]? =some x/\p x=true:=by
 rcases q.out with⟨a,h⟩|⟨i,x,a,h,c,d⟩
 .exact .inl ⟨a,kZb.2 h⟩
 refine .inr ⟨i,x,a,?_,h,c⟩;obtain⟨n,l⟩:=HH.1 h;rw[kXd]
 grind
def RF(a b:bZ):Bool:=decide (a.s=b.s)&&(decide (a.table=b.table)&&decide (a.x=b.x))
def nY(H:List bZ)(hd:bZ):Option Nat:=H.findIdx? (jn hd)
def pA(H:List bZ)(hd:bZ):Bool:=match nY H hd with
 |some i=>(H[i]?).any λo=>o.x||RF o hd
 |none=>false
def bW(H:List bZ)(hd:bZ):Bool:=pA H hd|| !(H.any (eE hd))
def cT(H:List bZ)(hd:bZ):List bZ:=
 if bW H hd=true then if pA H hd=true then H else match nY H hd with
  |some i=>H.set i hd
  |none=>H++[hd]
 else H
def cW(H W:List bZ)(hd:bZ):List bZ:=if bW H hd=true then bX W hd.s else bX W hd.s++[hd]
theorem CR{L:List bZ}(q:Sl 253 bC h (.slice b n c) L):(wh 253 bC).R h [.slice b n c] L:=⟨_,rfl,q⟩
theorem bQd{W:List bZ}{c:Option Addr}{d a e:Nat}(q:Sl 253 bC h (.slice b n d) H)(i:Sl 253 bC h (.slice c a e) W)(G:n<=2^38)(g:a<=2^38)(s:Int):
 Ct 241 [.agg #[.slice b n d,.slice c a e],.zI s] h (λv h'=>Le h h'/\∃b n d c a e,v=.agg #[.slice b n d,.slice c a e]/\Sl 253 bC h' (.slice b n d) (bX H s)/\Sl 253 bC h' (.slice c a e) (bX W s)):=by
 refine cB eZT Tryz.func241 λA p=>?_;cbv;refine(kQ q G s).mono (λv m hR=>?_);obtain⟨l,M,w,k,rfl,r⟩:=hR;cbv;refine(kQ (i.mono (l.t _)) g s).mono (λv o hR=>?_);obtain⟨f,K,t,U,rfl,j⟩:=hR;cbv;exact⟨l.trans f,_,_,_,_,_,_,rfl,r.sl.mono (f.t _),j.sl⟩
theorem cJM{W:List bZ}{J S:Option Addr}{r U N X:Nat}(d:Sl 253 bC h (.slice J r U) H)(C:Sl 253 bC h (.slice S N X) W)(fG:r<=2^37)(fA:N<=2^37)(hd:bZ):
 Ct 233 [.agg #[.slice J r U,.slice S N X],.agg #[.zI hd.s,.string hd.table,.bool hd.x]] h (λv h'=>Le h h'/\∃J r U S N X t,v=.tuple #[.agg #[.slice J r U,.slice S N X],.bool t]/\Sl 253 bC h' (.slice J r U) (cT H hd)/\Sl 253 bC h' (.slice S N X) (cW H W hd)/\t=bW H hd):=by
 obtain⟨a,b,hx⟩:=hd;refine cB eJa Tryz.func233 λA hA=>?_;cbv;refine(aJN d ⟨a,b,hx⟩).mono (λv h1 hR=>?_);obtain⟨e,z,rfl,hz⟩:=hR;have I:A .not true=false:=by rw[hA.not];rfl
 have Sp:A .not false=true:=by rw[hA.not];rfl
 rcases(aKb hz)with⟨rfl,hf⟩|⟨i,o,M,hf,ho,hp⟩
 .have mw:A .aQ .geq (-1) 0=false:=by rw[cF A];rfl
  have kH:pA H ⟨a,b,hx⟩=false:=by unfold pA nY;rw[hf]
  cbv;rw[mw];cbv;refine(DK (d.mono (e.t _)) ⟨a,b,hx⟩).mono (λv h2 hR=>?_);obtain⟨l2,tc,rfl,al⟩:=hR;have f:=e.trans l2;have kF:bW H ⟨a,b,hx⟩= !tc:=by unfold bW;grind
  cases tc with
  |true=>
   have q:bW H ⟨a,b,hx⟩=false:=kF;have g:cT H ⟨a,b,hx⟩=H:=by unfold cT;rw[q];rfl
   have k:cW H W ⟨a,b,hx⟩=bX W a++[⟨a,b,hx⟩]:=by unfold cW;rw[q];rfl
   cbv;rw[I];cbv;refine(lJ (d.mono (f.t _))).mono (λv L hR=>?_);obtain⟨l,T,cc,rfl,V⟩:=hR;cbv;refine(kQ (C.mono ((f.trans l).t _)) ip a).mono (λv B hR=>?_);obtain⟨c,bw,nw,cw,rfl,K⟩:=hR;have w:=(f.trans l).trans c;have G:=V.mono (c.t _);cbv;rw[Sp];cbv;intro Y n F u;have p:Le B n:=zqs u F
   have g5:=zqt u;cbv;intro Q h6 R y;have j:Le n h6:=zqs y R
   have g6:=zqt y;have P:([bX W a,[⟨a,b,hx⟩]]:List (List bZ)).flatten=bX W a++[⟨a,b,hx⟩]:=io
   have IS:(bX W a++[(⟨a,b,hx⟩:bZ)]).length<=2^38:=by
    have h1:(bX W a).length<=W.length:=Dg _ _;have h2:=C.len
    grind
   cbv;refine(Di (pf (s:=wh 253 bC) rfl g6 (CR (K.sl.mono ((p.trans j).t _))) (CR (bh (s:=bC) (j _ _ g5) (x:=⟨a,b,hx⟩) rfl))) gg).mono (λv h7 hR=>?_);obtain⟨l7,b7,n7,c7,rfl,O⟩:=hR;rw[P]at O;have Z:=(p.trans j).trans l7;cbv;exact⟨w.trans Z,_,_,_,_,_,_,false,rfl,by rw[g];exact G.sl.mono (Z.t _),by rw[k];exact O.sl,q.symm⟩
  |false=>
   have q:bW H ⟨a,b,hx⟩=true:=kF;have g:cT H ⟨a,b,hx⟩=H++[⟨a,b,hx⟩]:=by grind [cT,nY]
   have k:cW H W ⟨a,b,hx⟩=bX W a:=by unfold cW;rw[q];rfl
   cbv;rw[Sp];cbv;refine(lJ (d.mono (f.t _))).mono (λv L hR=>?_);obtain⟨l,T,cc,rfl,V⟩:=hR;cbv;refine(kQ (C.mono ((f.trans l).t _)) ip a).mono (λv B hR=>?_);obtain⟨c,bw,nw,cw,rfl,K⟩:=hR;have w:=(f.trans l).trans c;have G:=V.mono (c.t _);cbv;rw[I];cbv;rw[mw];cbv;intro Y n F u;have p:Le B n:=zqs u F
   have g5:=zqt u;cbv;intro Q h6 R y;have j:Le n h6:=zqs y R
   have g6:=zqt y;have P:([H,[⟨a,b,hx⟩]]:List (List bZ)).flatten=H++[⟨a,b,hx⟩]:=io
   have IS:(H++[(⟨a,b,hx⟩:bZ)]).length<=2^38:=by
    have h2:=d.len
    grind
   cbv;refine(Di (pf (s:=wh 253 bC) rfl g6 (CR (G.sl.mono ((p.trans j).t _))) (CR (bh (s:=bC) (j _ _ g5) (x:=⟨a,b,hx⟩) rfl))) gg).mono (λv h7 hR=>?_);obtain⟨l7,b7,n7,c7,rfl,O⟩:=hR;rw[P]at O;have Z:=(p.trans j).trans l7;cbv;exact⟨w.trans Z,_,_,_,_,_,_,true,rfl,by rw[g];exact O.sl,by rw[k];exact K.sl.mono (Z.t _),q.symm⟩
 have mw:A .aQ .geq z 0=true:=by rw[cF A];have:=M.eq;grind
 have ab:i<r:=by have:=(HH.1 ho).1;rw[d.len];exact this
 have eL:J.isSome=true/\0<=z/\z<(r:Int):=⟨d.bu,M.ix ab⟩;have kH:pA H ⟨a,b,hx⟩=(o.x||RF o ⟨a,b,hx⟩):=by grind [pA,nY]
 obtain⟨os,ot,ox⟩:=o;cbv;rw[mw];cbv;refine⟨eL,?_⟩;cbv;refine(d.mono (e.t _)).cI ho M.eq (o:=2) (m:=1) dl (λcs D=>?_);have D:cs=[.zI os,.string ot,.bool ox]:=D;subst D;cases ox with
 |true=>
  have E:pA H ⟨a,b,hx⟩=true:=kH;have q:bW H ⟨a,b,hx⟩=true:=by unfold bW;rw[E];rfl
  have g:cT H ⟨a,b,hx⟩=H:=by unfold cT;grind
  have k:cW H W ⟨a,b,hx⟩=bX W a:=by unfold cW;rw[q];rfl
  cbv;refine(lJ (d.mono (e.t _))).mono (λv L hR=>?_);obtain⟨l,T,cc,rfl,V⟩:=hR;cbv;refine(kQ (C.mono ((e.trans l).t _)) ip a).mono (λv B hR=>?_);obtain⟨c,bw,nw,cw,rfl,K⟩:=hR;have w:=(e.trans l).trans c;have G:=V.mono (c.t _);cbv;rw[I];cbv;exact⟨w,_,_,_,_,_,_,true,rfl,by rw[g];exact G.sl,by rw[k];exact K.sl,q.symm⟩
 |false=>
  cbv;refine⟨eL,?_⟩;cbv;refine(d.mono (e.t _)).load ho M.eq (λcs D=>?_);have D:cs=[.zI os,.string ot,.bool false]:=D;subst D;generalize es:A .and (A .aQ .eql os a) (A .and (A .lu .eql ot b) (A .and (A .uP .eql false hx) true))=us;have fs:=es;rw[hA.and,au A,eV A,hA.uP]at es;have ak:pA H ⟨a,b,hx⟩=us:=by
   grind [RF,uP,hx]
  cbv;rw[fs];cases us with
  |true=>
   have E:=ak;have q:bW H ⟨a,b,hx⟩=true:=by unfold bW;rw[E];rfl
   have g:cT H ⟨a,b,hx⟩=H:=by unfold cT;grind
   have k:cW H W ⟨a,b,hx⟩=bX W a:=by unfold cW;rw[q];rfl
   cbv;refine(lJ (d.mono (e.t _))).mono (λv L hR=>?_);obtain⟨l,T,cc,rfl,V⟩:=hR;cbv;refine(kQ (C.mono ((e.trans l).t _)) ip a).mono (λv B hR=>?_);obtain⟨c,bw,nw,cw,rfl,K⟩:=hR;have w:=(e.trans l).trans c;have G:=V.mono (c.t _);cbv;rw[I];cbv;exact⟨w,_,_,_,_,_,_,true,rfl,by rw[g];exact G.sl,by rw[k];exact K.sl,q.symm⟩
  |false=>
   cbv;refine(DK (d.mono (e.t _)) ⟨a,b,hx⟩).mono (λv h2 hR=>?_);obtain⟨l2,tc,rfl,al⟩:=hR;have f:=e.trans l2;have kF:bW H ⟨a,b,hx⟩= !tc:=by unfold bW;grind
   cases tc with
   |true=>
    have q:bW H ⟨a,b,hx⟩=false:=kF;have g:cT H ⟨a,b,hx⟩=H:=by unfold cT;rw[q];rfl
    have k:cW H W ⟨a,b,hx⟩=bX W a++[⟨a,b,hx⟩]:=by unfold cW;rw[q];rfl
    cbv;rw[I];cbv;refine(lJ (d.mono (f.t _))).mono (λv L hR=>?_);obtain⟨l,T,cc,rfl,V⟩:=hR;cbv;refine(kQ (C.mono ((f.trans l).t _)) ip a).mono (λv B hR=>?_);obtain⟨c,bw,nw,cw,rfl,K⟩:=hR;have w:=(f.trans l).trans c;have G:=V.mono (c.t _);cbv;rw[Sp];cbv;intro Y n F u;have p:Le B n:=zqs u F
    have g5:=zqt u;cbv;intro Q h6 R y;have j:Le n h6:=zqs y R
    have g6:=zqt y;have P:([bX W a,[⟨a,b,hx⟩]]:List (List bZ)).flatten=bX W a++[⟨a,b,hx⟩]:=io
    have IS:(bX W a++[(⟨a,b,hx⟩:bZ)]).length<=2^38:=by
     have h1:(bX W a).length<=W.length:=Dg _ _;have h2:=C.len
     grind
    cbv;refine(Di (pf (s:=wh 253 bC) rfl g6 (CR (K.sl.mono ((p.trans j).t _))) (CR (bh (s:=bC) (j _ _ g5) (x:=⟨a,b,hx⟩) rfl))) gg).mono (λv h7 hR=>?_);obtain⟨l7,b7,n7,c7,rfl,O⟩:=hR;rw[P]at O;have Z:=(p.trans j).trans l7;cbv;exact⟨w.trans Z,_,_,_,_,_,_,false,rfl,by rw[g];exact G.sl.mono (Z.t _),by rw[k];exact O.sl,q.symm⟩
   |false=>
    have q:bW H ⟨a,b,hx⟩=true:=kF;have g:cT H ⟨a,b,hx⟩=H.set i ⟨a,b,hx⟩:=by grind [cT,nY]
    have k:cW H W ⟨a,b,hx⟩=bX W a:=by unfold cW;rw[q];rfl
    cbv;rw[Sp];cbv;refine(lJ (d.mono (f.t _))).mono (λv L hR=>?_);obtain⟨l,T,cc,rfl,V⟩:=hR;cbv;refine(kQ (C.mono ((f.trans l).t _)) ip a).mono (λv B hR=>?_);obtain⟨c,bw,nw,cw,rfl,K⟩:=hR;have w:=(f.trans l).trans c;have G:=V.mono (c.t _);obtain⟨Y,rfl,F,ao,oc⟩:=G.own ip;have aZ:i<H.length:=(HH.1 ho).1;have Hr:r<=cc:=(V.sl).bound.2;have ag:(some (⟨Y,0,none⟩:Addr)).isSome=true/\0<=z/\z<(r:Int):=⟨rfl,M.ix ab⟩;cbv;rw[I];cbv;rw[mw];cbv;refine⟨ag,?_⟩;cbv;refine oc.setAt dl (i:=i) ip M.eq rfl (x:=⟨a,b,hx⟩) rfl (λn k5 t5 o5=>?_);have p:Le h n:=w.bf (by simpa using f.none F) k5;have fN:L Y≠none:=by obtain⟨an,e1,-,-,o3⟩:=V.own ip;cases e1;exact o3.has
    have lw:=(K.kp k5 (iu fN) (t5 _ dl)).sl;cbv;exact⟨p,_,_,_,_,_,_,true,rfl,by rw[g];exact o5.sl gg,gg,q.symm⟩
end Go.S
