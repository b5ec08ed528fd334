import Derived.Test.YthnbpiejemlbeaaGreatDB
set_option linter.all false
set_option maxRecDepth 100000
namespace Go.S
open Go.Sx Go.Proofs
variable {only:Bool}{nm:ByteArray}{key z:Int}{L:List (List Row)}{o:List Row}{H xs:List bU}{B:List jF}{c cap k m n:Nat}{b:Option Addr}{r:Row}{h:ad}{hd:bU}
theorem kY{len:Nat}(q:Sl 253 bu h (.slice b len cap) xs):
 Ct 102 [.slice b len cap] h (λv h'=>Le h h'/\∃d i,v=.slice d len i/\bt 253 bu h h' (.slice d len i) xs):=by
 refine cg bQa Tryz.func102 λA k=>?_;cbv;refine ba (λa=>?_) (λa=>?_)
 .rw[k.Cc]at a;cbv;have m:b=none:=by cases b<;>simp at a |-
  subst m;have hl:len=0:=by
   rcases jKj len with e|e
   .exact e
   have:=q.bp e;cases this
  have:=q.len;have hx:xs=[]:=kh (by omega);subst hx hl;exact⟨Le.refl _,none,0,rfl,bt.nil⟩
 cbv;intro s j o w;have l:Le h j:=by rw[w];exact Le.set o
 cbv;refine dt (q.mono (l.t _)) (by simp[bu]) rfl (by decide) (λn=>?_) (λt c r e1 p f g=>?_)
 .cbv;have:=q.len;have hx:xs=[]:=kh (by omega);subst hx n;exact⟨l,_,_,rfl,bt.nil⟩
 cbv;exact⟨l.trans f,_,_,rfl,g.buf (l.none e1) q.len⟩
theorem Is{xs:List jF}{len:Nat}(q:Sl 202 bH h (.slice b len cap) xs):
 Ct 218 [.slice b len cap] h (λv h'=>Le h h'/\∃d i,v=.slice d len i/\bt 202 bH h h' (.slice d len i) xs):=by
 refine cg aKL Tryz.func218 λA k=>?_;cbv;refine ba (λa=>?_) (λa=>?_)
 .rw[k.Cc]at a;cbv;have m:b=none:=by cases b<;>simp at a |-
  subst m;have hl:len=0:=by
   rcases jKj len with e|e
   .exact e
   have:=q.bp e;cases this
  have:=q.len;have hx:xs=[]:=kh (by omega);subst hx hl;exact⟨Le.refl _,none,0,rfl,bt.nil⟩
 cbv;intro s j o w;have l:Le h j:=by rw[w];exact Le.set o
 cbv;refine dt (q.mono (l.t _)) (by simp[bH]) rfl (by decide) (λn=>?_) (λt c r e1 p f g=>?_)
 .cbv;have:=q.len;have hx:xs=[]:=kh (by omega);subst hx n;exact⟨l,_,_,rfl,bt.nil⟩
 cbv;exact⟨l.trans f,_,_,rfl,g.buf (l.none e1) q.len⟩
theorem CA{xs:List jd}{len:Nat}(q:Sl 45 bA h (.slice b len cap) xs):
 Ct 114 [.slice b len cap] h (λv h'=>Le h h'/\∃d i,v=.slice d len i/\bt 45 bA h h' (.slice d len i) xs):=by
 refine cg aKZ Tryz.func114 λA k=>?_;cbv;refine ba (λa=>?_) (λa=>?_)
 .rw[k.Cc]at a;cbv;have m:b=none:=by cases b<;>simp at a |-
  subst m;have hl:len=0:=by
   rcases jKj len with e|e
   .exact e
   have:=q.bp e;cases this
  have:=q.len;have hx:xs=[]:=kh (by omega);subst hx hl;exact⟨Le.refl _,none,0,rfl,bt.nil⟩
 cbv;intro s j o w;have l:Le h j:=by rw[w];exact Le.set o
 cbv;refine dt (q.mono (l.t _)) (by simp[bA]) rfl (by decide) (λn=>?_) (λt c r e1 p f g=>?_)
 .cbv;have:=q.len;have hx:xs=[]:=kh (by omega);subst hx n;exact⟨l,_,_,rfl,bt.nil⟩
 cbv;exact⟨l.trans f,_,_,rfl,g.buf (l.none e1) q.len⟩
theorem Uf{xs:List mD}{len:Nat}(q:Sl 183 df h (.slice b len cap) xs):
 Ct 220 [.slice b len cap] h (λv h'=>Le h h'/\∃d i,v=.slice d len i/\bt 183 df h h' (.slice d len i) xs):=by
 refine cg Uz Tryz.func220 λA k=>?_;cbv;refine ba (λa=>?_) (λa=>?_)
 .rw[k.Cc]at a;cbv;have m:b=none:=by cases b<;>simp at a |-
  subst m;have hl:len=0:=by
   rcases jKj len with e|e
   .exact e
   have:=q.bp e;cases this
  have:=q.len;have hx:xs=[]:=kh (by omega);subst hx hl;exact⟨Le.refl _,none,0,rfl,bt.nil⟩
 cbv;intro s j o w;have l:Le h j:=by rw[w];exact Le.set o
 cbv;refine dt (q.mono (l.t _)) (by simp[df]) rfl (by decide) (λn=>?_) (λt c r e1 p f g=>?_)
 .cbv;have:=q.len;have hx:xs=[]:=kh (by omega);subst hx n;exact⟨l,_,_,rfl,bt.nil⟩
 cbv;exact⟨l.trans f,_,_,rfl,g.buf (l.none e1) q.len⟩
abbrev bU.v(h:bU):Value:=.agg #[.int .i64 h.s,.string h.table,.bool h.x]
def eo(a b:bU):Bool:=decide (a.s≠b.s)&&(decide (a.table=b.table)&&(a.x||b.x))
def bR(l:List bU)(s:Int):List bU:=l.filter λh=>decide (h.s≠s)
def ja(h o:bU):Bool:=decide (o.s=h.s)&&decide (o.table=h.table)
theorem aZr{s1:Int}{a:ByteArray}{x:Bool}(g:h n=some (.cells #[.int .i64 hd.s,.string hd.table,.bool hd.x] 253 (0,0))):
 Ct 360 [.agg #[.int .i64 s1,.string a,.bool x],.zP n] h (λv h'=>Le h h'/\∃t,v=.bool t/\t=ja hd ⟨s1,a,x⟩):=by
 obtain⟨A,c⟩:=Ar.ex;have q:A .aN .eql s1 hd.s=decide (s1=hd.s):=by rw[au A]
 have b:A .kM .eql a hd.table=decide (a=hd.table):=by rw[eK A]
 refine fz dKy A Tryz.func360 ?_;cbv;rw[av A];refine cr g ?_;cbv;rw[q];cases e1:decide (s1=hd.s)with
 |true=>cbv;rw[av A];refine cr g ?_;cbv;rw[b];exact⟨Le.refl _,_,rfl,by simp[ja,e1]⟩
 |false=>cbv;exact⟨Le.refl _,_,rfl,by simp[ja,e1]⟩
theorem Gs{a b:bU}:
 Ct 318 [.agg #[.int .i64 a.s,.string a.table,.bool a.x],.agg #[.int .i64 b.s,.string b.table,.bool b.x]] h (λv h'=>Le h h'/\∃t,v=.bool t/\t=eo a b):=by
 obtain⟨A,g⟩:=Ar.ex;obtain⟨s1,c,x⟩:=a;obtain⟨s2,d,i⟩:=b;have q:A .aN .neq s1 s2=decide (s1≠s2):=by rw[az A]
 have f:A .kM .eql c d=decide (c=d):=by rw[eK A]
 refine fz eQg A Tryz.func318 ?_;cbv;rw[q];cases e1:decide (s1≠s2)with
 |true=>
  cbv;rw[f];cases e:decide (c=d)with
  |true=>
   cases x with
   |true=>cbv;exact⟨Le.refl _,_,rfl,by simp[eo,e1,e]⟩
   |false=>cbv;exact⟨Le.refl _,_,rfl,by simp[eo,e1,e]⟩
  |false=>cbv;exact⟨Le.refl _,_,rfl,by simp[eo,e1,e]⟩
 |false=>cbv;exact⟨Le.refl _,_,rfl,by simp[eo,e1]⟩
theorem aZI{len:Nat}(q:Sl 253 bu h (.slice b len cap) xs)(g:h m=some (.cells #[.int .i64 hd.s,.string hd.table,.bool hd.x] 253 (0,0))):
 Ct 359 [.slice b len cap,.func (.func 360) #[] #[.zP m]] h (λv h'=>Le h h'/\∃z:Int,v=.int .i64 z/\ur xs (ja hd) z):=by
 have k:=q.len;obtain⟨W,Z⟩:=q.bound;generalize o:(ja hd)=p;refine cg aKE Tryz.func359 λA u=>?_;cbv;refine aX.go (G:=Int) (λz=>[(8,.v (.int .i64 z))]) (λ_=>[]) (λn z h'=>∃i:Nat,aZ z i/\n=len-i/\i<=len/\Le h h'/\∀j,j<i->∀y,xs[j]? =some y->p y=false) len 0 (by constructor<;>cbv) ⟨0,⟨rfl⟩,by omega,by omega,Le.refl _,λj d=>(by omega)⟩ ?_
 intro n z h' I;cbv;obtain⟨i,a,B,w,l,M⟩:=I;refine ba (λc=>?_) (λc=>?_)
 .have U:=a.lt c;clear c;cbv;obtain⟨x,hx⟩:=cB xs i;refine⟨⟨q.bp,a.ix U⟩,?_⟩;cbv;refine(q.mono (l.t _)).load hx a.eq (λcs r=>?_);have r:cs=[.int .i64 x.s,.string x.table,.bool x.x]:=r;subst r;cbv;refine(aZr (l _ _ g)).mono (λv s hR=>?_);obtain⟨F,t,rfl,e⟩:=hR;have e:t=p x:=by rw[<-o];exact e
  cbv;cases t with
  |true=>cbv;exact⟨l.trans F,z,rfl,⟨.inr ⟨i,x,a,hx,e.symm,M⟩⟩⟩
  |false=>
   cbv;refine⟨len-(i+1),_,by omega,by constructor<;>cbv,i+1,a.succ (A:=A),rfl,by omega,l.trans F,?_⟩
   intro j d y f;rcases wM j i with h|h
   .exact M j h y f
   have:j=i:=by omega
   subst this;rw[hx]at f;cases f;exact e.symm
 have J:=a.ge c;cbv;refine⟨l,-1,rfl,⟨.inl ⟨rfl,λx hx=>?_⟩⟩⟩;obtain⟨j,d⟩:=rK hx;have:=(ff.1 d).1;exact M j (by omega) x d
theorem aZJ{len:Nat}(q:Sl 253 bu h (.slice b len cap) xs)(hd:bU):
 Ct 359 [.slice b len cap,.func (.func 318) #[.agg #[.int .i64 hd.s,.string hd.table,.bool hd.x]] #[]] h (λv h'=>Le h h'/\∃z:Int,v=.int .i64 z/\ur xs (eo hd) z):=by
 have k:=q.len;obtain⟨W,Z⟩:=q.bound;generalize m:(eo hd)=p;refine cg aKE Tryz.func359 λA s=>?_;cbv;refine aX.go (G:=Int) (λz=>[(8,.v (.int .i64 z))]) (λ_=>[]) (λn z h'=>∃i:Nat,aZ z i/\n=len-i/\i<=len/\Le h h'/\∀j,j<i->∀y,xs[j]? =some y->p y=false) len 0 (by constructor<;>cbv) ⟨0,⟨rfl⟩,by omega,by omega,Le.refl _,λj e=>(by omega)⟩ ?_
 intro n z h' I;cbv;obtain⟨i,c,w,u,l,M⟩:=I;refine ba (λd=>?_) (λd=>?_)
 .have U:=c.lt d;clear d;cbv;obtain⟨x,hx⟩:=cB xs i;refine⟨⟨q.bp,c.ix U⟩,?_⟩;cbv;refine(q.mono (l.t _)).load hx c.eq (λcs r=>?_);have r:cs=[.int .i64 x.s,.string x.table,.bool x.x]:=r;subst r;cbv;refine(Gs (a:=hd) (b:=x)).mono (λv o hR=>?_);obtain⟨F,t,rfl,f⟩:=hR;have f:t=p x:=by rw[<-m];exact f
  cbv;cases t with
  |true=>cbv;exact⟨l.trans F,z,rfl,⟨.inr ⟨i,x,c,hx,f.symm,M⟩⟩⟩
  |false=>
   cbv;refine⟨len-(i+1),_,by omega,by constructor<;>cbv,i+1,c.succ (A:=A),rfl,by omega,l.trans F,?_⟩
   intro j e y g;rcases wM j i with h|h
   .exact M j h y g
   have:j=i:=by omega
   subst this;rw[hx]at g;cases g;exact f.symm
 have J:=c.ge d;cbv;refine⟨l,-1,rfl,⟨.inl ⟨rfl,λx hx=>?_⟩⟩⟩;obtain⟨j,e⟩:=rK hx;have:=(ff.1 e).1;exact M j (by omega) x e
theorem aZs{a:Option Addr}{d:Nat}(q:Sl 253 bu h (.slice b n c) H)(hd:bU):
 Ct 316 [.agg #[.slice b n c,.slice a k d],.agg #[.int .i64 hd.s,.string hd.table,.bool hd.x]] h (λv h'=>Le h h'/\∃z:Int,v=.int .i64 z/\ur H (ja hd) z):=by
 refine cg eQi Tryz.func316 λA p=>?_;cbv;intro m f e e1;have l:Le h f:=by rw[e1];exact Le.set e
 have g:=(congrFun e1 m).trans ae;cbv;refine(aZI (q.mono (l.t _)) g).mono (λv o hR=>?_);obtain⟨j,z,rfl,i⟩:=hR;cbv;exact⟨l.trans j,z,rfl,i⟩
theorem CW(q:Sl 253 bu h (.slice b n c) H)(hd:bU):
 Ct 317 [.slice b n c,.func (.func 318) #[.agg #[.int .i64 hd.s,.string hd.table,.bool hd.x]] #[]] h (λv h'=>Le h h'/\∃t:Bool,v=.bool t/\t=H.any (eo hd)):=by
 refine cg eQh Tryz.func317 λA g=>?_;cbv;refine(aZJ q hd).mono (λv d hR=>?_);obtain⟨l,z,rfl,f⟩:=hR;cbv;refine⟨l,_,rfl,?_⟩;rw[cH A];rcases f.out with⟨rfl,a⟩|⟨i,x,a,d,e,-⟩
 .rw[eq_comm];simpa using a
 have:=a.eq;rw[ak (by omega),eq_comm,jKL];exact⟨x,cK d,e⟩
theorem jW(q:Sl 253 bu h (.slice b n c) H)(R:n<=2^38)(s:Int):
 Ct 319 [.slice b n c,.int .i64 s] h (λv h'=>Le h h'/\∃e n' c',v=.slice e n' c'/\bt 253 bu h h' (.slice e n' c') (bR H s)):=by
 have y:=q.len;refine cg eQf Tryz.func319 λA N=>?_;cbv;refine aX.go (G:=Int×Option Addr×Nat×Nat) (λg=>[(10,.v (.int .i64 g.1)),(5,.v (.slice g.2.1 g.2.2.1 g.2.2.2))]) (λ_=>[])
  (λk g h'=>∃i:Nat,aZ g.1 i/\k=n-i/\i<=n/\Le h h'/\bt 253 bu h h' (.slice g.2.1 g.2.2.1 g.2.2.2) (bR (H.take i) s)) n (0,none,0,0) ⟨?_,?_,?_⟩ ⟨0,⟨rfl⟩,by omega,by omega,Le.refl _,bt.nil⟩ ?_
 .cbv
 .cbv
 .cbv
 intro k g h' I;cbv;obtain⟨i,a,P,O,l,d⟩:=I;obtain⟨z,t,o,u⟩:=g;have a:aZ z i:=a;have d:bt 253 bu h h' (.slice t o u) (bR (H.take i) s):=d;refine ba (λf=>?_) (λf=>?_)
 .have U:=a.lt f;clear f;cbv;obtain⟨x,hx⟩:=cB H i;refine⟨⟨q.bp,a.ix U⟩,?_⟩;cbv;refine(q.mono (l.t _)).load hx a.eq (λcs r=>?_);have r:cs=[.int .i64 x.s,.string x.table,.bool x.x]:=r;subst r;have J:A .aN .neq x.s s=decide (x.s≠s):=by rw[az A]
  have L:o<=i:=by have:=d.sl.len;rw[this];refine jKl (jKe _ _) ?_;rw[eA];omega
  cbv;rw[J];cases e1:decide (x.s≠s)with
  |true=>
   cbv;intro F w C p;have j:Le h' w:=by rw[p];exact Le.set C
   have D:=(congrFun p F).trans ae;cbv;refine(d.mono (j.t _)).append (bf (s:=bu) D (x:=x) rfl) (by decide) rfl (by decide) (by omega) (l.trans j) (λm e c' M Q E V S K=>?_);cbv;refine⟨n-(i+1),(_,e,m,c'),by omega,by constructor<;>cbv,i+1,a.succ (A:=A),rfl,by omega,E,?_⟩
   have:bR (H.take (i+1)) s=bR (H.take i) s++[x]:=by rw[qM,hx];unfold bR;rw[jKC];simp[e1];simpa using e1
   rw[this];exact K
  |false=>
   cbv;refine⟨n-(i+1),(_,t,o,u),by omega,by constructor<;>cbv,i+1,a.succ (A:=A),rfl,by omega,l,?_⟩
   have:bR (H.take (i+1)) s=bR (H.take i) s:=by rw[qM,hx];unfold bR;rw[jKC];simp[e1];simpa using e1
   rw[this];exact d
 have T:=a.ge f;cbv;refine(kY d.sl).mono (λv w hR=>?_);obtain⟨j,e,c',rfl,B⟩:=hR;cbv;refine⟨l.trans j,_,_,_,rfl,?_⟩;rw[ie (by omega)]at B;exact B.base l
theorem aJD(d:aZ z m)(k:m<=2^38):
 Ct 361 [.slice none 0 0,.int .i64 z] h (λv h'=>Le h h'/\∃b c',v=.slice b 0 c'/\bt 253 bu h h' (.slice b 0 c') ([]:List bU)):=by
 obtain⟨A,i⟩:=Ar.ex;have h0:aZ (A .nat 0) 0:=aZ.nat 0;have a:=d.sub (A:=A) (h0.sub (A:=A) h0 (by omega) (by omega)) (by omega) (by omega);simp only[jKW,GD]at a;refine fz dKx A Tryz.func361 ?_;cbv;rw[d.yW (A:=A)];cbv;generalize e:A .aN .gtr (A .aT .sub .i64 z (A .aT .sub .i64 (A .nat 0) (A .nat 0))) 0=u;generalize f:A .aT .sub .i64 z (A .aT .sub .i64 (A .nat 0) (A .nat 0))=w at a e;rw[bC A]at e;cases u with
 |true=>
  have p:=lA e;have D:0<m:=by have:=a.eq;omega
  cbv;have x:(0:Int)<=A .nat 0/\A .nat 0<=((0:Nat):Int):=by have:=h0.eq;omega
  refine⟨x,?_⟩;cbv;refine⟨wK a (by omega) (by decide),?_⟩;cbv;rw[dy (A:=A) a,dy (A:=A) h0];refine oJ (s:=bu) (xs:=([]:List bU)) Sl.nil (by omega) rfl (by decide) (by omega) rfl rfl (λn c g C l j o=>?_);rw[tT];have y:(0:Int)<=A .nat 0/\A .nat 0<=((c:Nat):Int):=by have:=h0.eq;omega
  cbv;refine⟨y,?_⟩;cbv;rw[dy (A:=A) h0,wH (A:=A)];exact⟨l,_,_,rfl,o.buf C rfl⟩
 |false=>cbv;exact⟨Le.refl _,_,_,rfl,bt.nil⟩
theorem Cy{L:List (List bU)}(q:Sl 28 (vA 253 bu) h (.slice b n c) L)(O:L.flatten.length<=2^38):
 Ct 320 [.slice b n c] h (λv h'=>Le h h'/\∃o n' c',v=.slice o n' c'/\bt 253 bu h h' (.slice o n' c') L.flatten):=by
 have B:=q.len;obtain⟨kW,Z⟩:=q.bound;refine cg eQe Tryz.func320 λA hA=>?_;cbv;refine aX.go (G:=Int×Int) (λg=>[(11,.v (.int .i64 g.1)),(3,.v (.int .i64 g.2))]) (λ_=>[])
  (λk g h'=>∃i:Nat,aZ g.1 i/\k=n-i/\i<=n/\h'=h/\aZ g.2 (L.take i).flatten.length) n (0,0) ⟨?_,?_,?_⟩ ⟨0,⟨rfl⟩,by omega,by omega,rfl,⟨rfl⟩⟩ ?_
 .cbv
 .cbv
 .cbv
 intro k g h' I;cbv;obtain⟨i,a,N,M,rfl,j⟩:=I;refine ba (λd=>?_) (λd=>?_)
 .have U:=a.lt d;clear d;cbv;obtain⟨x,hx⟩:=cB L i;refine⟨⟨q.bp,a.ix U⟩,?_⟩;cbv;refine q.load hx a.eq (λcs s=>?_);obtain⟨v,rfl,f⟩:=s;obtain⟨t,r,u,rfl⟩:=f.form;have E:=f.len;have l:=xC L (i+1);rw[gX hx,cy,<-E]at l;have H:=j.add (A:=A) (aZ.nat (A:=A) r) (by omega);have K:=gX hx;cbv;rw[H.yW (A:=A)];cbv;refine⟨n-(i+1),(_,A .aT .add .i64 g.2 (A .nat r)),by omega,by constructor<;>cbv,i+1,a.succ (A:=A),rfl,by omega,rfl,?_⟩
  .rw[K,cy,<-E];exact H
 have Q:=a.ge d;have W:i=n:=by omega
 rw[ie (by omega)]at j;obtain⟨z,w⟩:=g;have j:aZ w L.flatten.length:=j;cbv;refine(aJD j O).mono (λv X hR=>?_);obtain⟨r,t,u,rfl,e⟩:=hR;cbv;refine aX.go (G:=Int×Option Addr×Nat×Nat) (λg=>[(27,.v (.int .i64 g.1)),(6,.v (.slice g.2.1 g.2.2.1 g.2.2.2))]) (λ_=>[])
  (λk g p=>∃i:Nat,aZ g.1 i/\k=n-i/\i<=n/\Le h' p/\bt 253 bu h' p (.slice g.2.1 g.2.2.1 g.2.2.2) (L.take i).flatten) n (0,t,0,u) ⟨?_,?_,?_⟩ ⟨0,⟨rfl⟩,by omega,by omega,r,e⟩ ?_
 .cbv
 .cbv
 .cbv
 intro k g p I;cbv;obtain⟨i,a,N,M,l,e⟩:=I;obtain⟨z,D,y,J⟩:=g;have a:aZ z i:=a;have e:bt 253 bu h' p (.slice D y J) (L.take i).flatten:=e;refine ba (λd=>?_) (λd=>?_)
 .have U:=a.lt d;clear d;cbv;obtain⟨x,hx⟩:=cB L i;refine⟨⟨q.bp,a.ix U⟩,?_⟩;cbv;refine(q.mono (l.t _)).load hx a.eq (λcs s=>?_);obtain⟨v,rfl,f⟩:=s;obtain⟨T,l2,V,rfl⟩:=f.form;have R:=f.len;have C:y=(L.take i).flatten.length:=e.sl.len;have F:=xC L (i+1);have K:=gX hx;rw[K,cy,<-R,<-C]at F;cbv;refine e.append f (by decide) rfl (by decide) (by omega) l (λm o c' Y hm P t3 k3 S=>?_);cbv;refine⟨n-(i+1),(_,o,m,c'),by omega,by constructor<;>cbv,i+1,a.succ (A:=A),rfl,by omega,P,?_⟩
  .rw[K];exact S
 have Q:=a.ge d;cbv;rw[ie (by omega)]at e;exact⟨l,_,_,_,rfl,e⟩
theorem aJC(d:aZ z m)(k:m<=2^38):
 Ct 313 [.slice none 0 0,.int .i64 z] h (λv h'=>Le h h'/\∃b c',v=.slice b 0 c'/\bt 46 bF h h' (.slice b 0 c') ([]:List Row)):=by
 obtain⟨A,i⟩:=Ar.ex;have h0:aZ (A .nat 0) 0:=aZ.nat 0;have a:=d.sub (A:=A) (h0.sub (A:=A) h0 (by omega) (by omega)) (by omega) (by omega);simp only[jKW,GD]at a;refine fz eQl A Tryz.func313 ?_;cbv;rw[d.yW (A:=A)];cbv;generalize e:A .aN .gtr (A .aT .sub .i64 z (A .aT .sub .i64 (A .nat 0) (A .nat 0))) 0=u;generalize f:A .aT .sub .i64 z (A .aT .sub .i64 (A .nat 0) (A .nat 0))=w at a e;rw[bC A]at e;cases u with
 |true=>
  have p:=lA e;have D:0<m:=by have:=a.eq;omega
  cbv;have x:(0:Int)<=A .nat 0/\A .nat 0<=((0:Nat):Int):=by have:=h0.eq;omega
  refine⟨x,?_⟩;cbv;refine⟨wK a (by omega) (by decide),?_⟩;cbv;rw[dy (A:=A) a,dy (A:=A) h0];refine oJ (s:=bF) (xs:=([]:List Row)) Sl.nil (by omega) rfl (by decide) (by omega) rfl rfl (λn c g C l j o=>?_);rw[tT];have y:(0:Int)<=A .nat 0/\A .nat 0<=((c:Nat):Int):=by have:=h0.eq;omega
  cbv;refine⟨y,?_⟩;cbv;rw[dy (A:=A) h0,wH (A:=A)];exact⟨l,_,_,rfl,o.buf C rfl⟩
 |false=>cbv;exact⟨Le.refl _,_,_,rfl,bt.nil⟩
theorem Ud(q:Sl 59 (vA 46 bF) h (.slice b n c) L)(O:L.flatten.length<=2^38):
 Ct 228 [.slice b n c] h (λv h'=>Le h h'/\∃o n' c',v=.slice o n' c'/\bt 46 bF h h' (.slice o n' c') L.flatten):=by
 have B:=q.len;obtain⟨kW,Z⟩:=q.bound;refine cg eXJ Tryz.func228 λA hA=>?_;cbv;refine aX.go (G:=Int×Int) (λg=>[(11,.v (.int .i64 g.1)),(3,.v (.int .i64 g.2))]) (λ_=>[])
  (λk g h'=>∃i:Nat,aZ g.1 i/\k=n-i/\i<=n/\h'=h/\aZ g.2 (L.take i).flatten.length) n (0,0) ⟨?_,?_,?_⟩ ⟨0,⟨rfl⟩,by omega,by omega,rfl,⟨rfl⟩⟩ ?_
 .cbv
 .cbv
 .cbv
 intro k g h' I;cbv;obtain⟨i,a,N,M,rfl,j⟩:=I;refine ba (λd=>?_) (λd=>?_)
 .have U:=a.lt d;clear d;cbv;obtain⟨x,hx⟩:=cB L i;refine⟨⟨q.bp,a.ix U⟩,?_⟩;cbv;refine q.load hx a.eq (λcs s=>?_);obtain⟨v,rfl,f⟩:=s;obtain⟨t,r,u,rfl⟩:=f.form;have E:=f.len;have l:=xC L (i+1);rw[gX hx,cy,<-E]at l;have H:=j.add (A:=A) (aZ.nat (A:=A) r) (by omega);have K:=gX hx;cbv;rw[H.yW (A:=A)];cbv;refine⟨n-(i+1),(_,A .aT .add .i64 g.2 (A .nat r)),by omega,by constructor<;>cbv,i+1,a.succ (A:=A),rfl,by omega,rfl,?_⟩
  .rw[K,cy,<-E];exact H
 have Q:=a.ge d;have W:i=n:=by omega
 rw[ie (by omega)]at j;obtain⟨z,w⟩:=g;have j:aZ w L.flatten.length:=j;cbv;refine(aJC j O).mono (λv X hR=>?_);obtain⟨r,t,u,rfl,e⟩:=hR;cbv;refine aX.go (G:=Int×Option Addr×Nat×Nat) (λg=>[(27,.v (.int .i64 g.1)),(6,.v (.slice g.2.1 g.2.2.1 g.2.2.2))]) (λ_=>[])
  (λk g p=>∃i:Nat,aZ g.1 i/\k=n-i/\i<=n/\Le h' p/\bt 46 bF h' p (.slice g.2.1 g.2.2.1 g.2.2.2) (L.take i).flatten) n (0,t,0,u) ⟨?_,?_,?_⟩ ⟨0,⟨rfl⟩,by omega,by omega,r,e⟩ ?_
 .cbv
 .cbv
 .cbv
 intro k g p I;cbv;obtain⟨i,a,N,M,l,e⟩:=I;obtain⟨z,D,y,J⟩:=g;have a:aZ z i:=a;have e:bt 46 bF h' p (.slice D y J) (L.take i).flatten:=e;refine ba (λd=>?_) (λd=>?_)
 .have U:=a.lt d;clear d;cbv;obtain⟨x,hx⟩:=cB L i;refine⟨⟨q.bp,a.ix U⟩,?_⟩;cbv;refine(q.mono (l.t _)).load hx a.eq (λcs s=>?_);obtain⟨v,rfl,f⟩:=s;obtain⟨T,l2,V,rfl⟩:=f.form;have R:=f.len;have C:y=(L.take i).flatten.length:=e.sl.len;have F:=xC L (i+1);have K:=gX hx;rw[K,cy,<-R,<-C]at F;cbv;refine e.append f (by decide) rfl (by decide) (by omega) l (λm o c' Y hm P t3 k3 S=>?_);cbv;refine⟨n-(i+1),(_,o,m,c'),by omega,by constructor<;>cbv,i+1,a.succ (A:=A),rfl,by omega,P,?_⟩
  .rw[K];exact S
 have Q:=a.ge d;cbv;rw[ie (by omega)]at e;exact⟨l,_,_,_,rfl,e⟩
def dD:Sh Int where
 n:=1
 R _ cs v:=cs=[.int .i64 v]
 len:=by rintro h cs x rfl;rfl
 one:=by rintro h cs x rfl;rfl
 tys:=[]
 mono:=λ_ q=>q
def jc(a b:Int):Int:=if decide (a<b)=true then -1 else if decide (a>b)=true then 1 else 0
def fk:List Int->Int
 | []=>0
 |x::r=>if decide (x≠0)=true then x else fk r
def dg(a b:jd):Int:=fk [jc a.k b.k,jc a.n b.n,dA a.s b.s]
def keyOf(key:Int)(r:Row):jd:=if(decide (key<0)||decide (key>=(r.length:Int)))=true then⟨0,0,⟨#[]⟩⟩else(r[key.toNat]?).getD ⟨0,0,⟨#[]⟩⟩
abbrev jd.v(x:jd):Value:=.agg #[.int .i64 x.k,.int .i64 x.n,.string x.s]
theorem LD(a:Int)(h:ad):Ct 358 [.int .i64 a] h (λv h'=>Le h h'/\v=.bool false):=by
 obtain⟨A,b⟩:=Ar.ex;have q:A .aN .neq a a=false:=by rw[az A];simp
 refine fz dKz A Tryz.func358 ?_;cbv;rw[q];exact⟨Le.refl _,rfl⟩
theorem Zp(a b:Int)(h:ad):Ct 315 [.int .i64 a,.int .i64 b] h (λv h'=>Le h h'/\∃z,v=.int .i64 z/\z=jc a b):=by
 refine cg eQj Tryz.func315 λA j=>?_;cbv;refine(LD a h).mono (λv d hR=>?_);obtain⟨l,rfl⟩:=hR;cbv;refine(LD b d).mono (λv i hR=>?_);obtain⟨c,rfl⟩:=hR;cbv;generalize e1:A .aN .lss a b=u;generalize e:A .aN .gtr a b=g;have f:=e;rw[aR A]at e1;rw[bC A]at e;cases u with
 |true=>cbv;exact⟨l.trans c,_,rfl,by simp only[jc,e1];rfl⟩
 |false=>
  cbv;rw[f];cases g with
  |true=>cbv;exact⟨l.trans c,_,rfl,by simp only[jc,e1,e];rfl⟩
  |false=>cbv;exact⟨l.trans c,_,rfl,by simp only[jc,e1,e];rfl⟩
theorem pB{xs:List Int}{i:Nat}(h:∀j,j<i->∀y,xs[j]? =some y->y=0):fk xs=fk (xs.drop i):=by
 induction i generalizing xs with
 |zero=>rfl
 |succ i b=>
  cases xs with
  |nil=>rfl
  |cons x r=>have hx:x=0:=h 0 (by omega) x rfl;simp only[kQW,fk,hx];rw[if_neg (by decide)];exact b (λj c y a=>h (j+1) (by omega) y (by simpa using a))
theorem dQC{xs:List Int}(q:Sl 3 dD h (.slice b n c) xs):
 Ct 314 [.slice b n c] h (λv h'=>Le h h'/\∃z,v=.int .i64 z/\z=fk xs):=by
 have l:=q.len;obtain⟨W,Z⟩:=q.bound;refine cg eQk Tryz.func314 λA p=>?_;cbv;refine aX.go (G:=Int) (λz=>[(8,.v (.int .i64 z))]) (λ_=>[]) (λk z h'=>∃i:Nat,aZ z i/\k=n-i/\i<=n/\h'=h/\∀j,j<i->∀y,xs[j]? =some y->y=0) n 0 (by constructor<;>cbv) ⟨0,⟨rfl⟩,by omega,by omega,rfl,λj o=>(by omega)⟩ ?_
 intro k z h' g;cbv;obtain⟨i,a,t,s,rfl,M⟩:=g;refine ba (λd=>?_) (λd=>?_)
 .have U:=a.lt d;clear d;cbv;obtain⟨x,hx⟩:=cB xs i;refine⟨⟨q.bp,a.ix U⟩,?_⟩;cbv;refine q.load hx a.eq (λcs r=>?_);have r:cs=[.int .i64 x]:=r;subst r;generalize ex:A .aN .neq x 0=u;rw[az A]at ex;have I:xs.drop i=x::xs.drop (i+1):=by rw[Rs (by omega)];have:=(ff.1 hx).2;rw[this]
  have f:=pB M;rw[I]at f;cbv;rw[az A,ex];cases u with
  |true=>cbv;refine⟨Le.refl _,_,rfl,?_⟩;rw[f];simp only[fk,ex];rfl
  |false=>
   cbv;refine⟨n-(i+1),_,by omega,by constructor<;>cbv,i+1,a.succ (A:=A),rfl,by omega,rfl,?_⟩
   intro j o y e;rcases wM j i with m|m
   .exact M j m y e
   have:j=i:=by omega
   subst this;rw[hx]at e;cases e;have:=kz ex;exact jKJ.1 this
 have J:=a.ge d;have f:=pB M;rw[RR (by omega)]at f;cbv;exact⟨Le.refl _,_,rfl,f.symm⟩
theorem Po(a b:jd)(h:ad):Ct 231 [.agg #[.int .i64 a.k,.int .i64 a.n,.string a.s],.agg #[.int .i64 b.k,.int .i64 b.n,.string b.s]] h (λv h'=>Le h h'/\∃z,v=.int .i64 z/\z=dg a b):=by
 obtain⟨m,u,s1⟩:=a;obtain⟨n,B,s2⟩:=b;refine cg eXG Tryz.func231 λA I=>?_;cbv;refine(Zp m n h).mono (λv i hR=>?_);obtain⟨o,E,rfl,e1⟩:=hR;cbv;refine(Zp u B i).mono (λv j hR=>?_);obtain⟨p,F,rfl,c⟩:=hR;cbv;refine(Zr s1 s2 j).mono (λv k hR=>?_);obtain⟨q,G,rfl,d⟩:=hR;cbv;intro D l C e;have r:Le k l:=by rw[e];exact Le.set C
 have g:=(congrFun e D).trans ae;cbv;refine(dQC (ke (s:=dD) rfl g (x:=E) (y:=F) (w:=G) rfl rfl rfl)).mono (λv H hR=>?_);obtain⟨t,z,rfl,f⟩:=hR;cbv;exact⟨(((o.trans p).trans q).trans r).trans t,z,rfl,by rw[f,e1,c,d];rfl⟩
theorem XB{g i j m:Value}(q:Sl 45 bA h (.slice b n c) r):
 Ct 113 [.agg #[g,i,.int .i64 key,j,m],.slice b n c] h (λv h'=>Le h h'/\∃k:jd,v=.agg #[.int .i64 k.k,.int .i64 k.n,.string k.s]/\k=keyOf key r):=by
 obtain⟨A,o⟩:=Ar.ex;have l:=q.len;generalize e1:A .aN .lss key 0=u;generalize e:A .aN .geq key (A .nat n)=p;have f:=e1;have d:=e;rw[aR A]at e1;rw[cH A,o.nat]at e;simp only[rz]at e;refine fz eJx A Tryz.func113 ?_;cbv;rw[f];cases u with
 |true=>cbv;exact⟨Le.refl _,⟨0,0,⟨#[]⟩⟩,rfl,by simp only[keyOf,e1];rfl⟩
 |false=>
  cbv;rw[d];cases p with
  |true=>cbv;refine⟨Le.refl _,⟨0,0,⟨#[]⟩⟩,rfl,?_⟩;rw[l]at e;simp only[keyOf,e1,e];rfl
  |false=>obtain⟨G,Y⟩:=Ol A f d;obtain⟨x,hx⟩:=cB r key.toNat;cbv;refine⟨⟨q.bp,G.ix Y⟩,?_⟩;cbv;refine q.load hx G.eq (λcs a=>?_);have a:cs=[.int .i64 x.k,.int .i64 x.n,.string x.s]:=a;subst a;cbv;refine⟨Le.refl _,x,rfl,?_⟩;rw[l]at e;simp only[keyOf,e1,e,hx];rfl
theorem QX{f i j l:Value}(a:h k=some (.cells #[f,i,.int .i64 key,j,l] 260 (0,0)))(q:Sl 45 bA h (.slice b n c) r)(kv:jd):
 Ct 230 [.slice b n c,.agg #[.int .i64 kv.k,.int .i64 kv.n,.string kv.s],.zP k] h (λv h'=>Le h h'/\∃z,v=.int .i64 z/\z=dg (keyOf key r) kv):=by
 refine cg eXH Tryz.func230 λA t=>?_;cbv;refine cr a ?_;cbv;refine(XB q).mono (λv d hR=>?_);obtain⟨o,m,rfl,g⟩:=hR;cbv;refine(Po m kv d).mono (λv s hR=>?_);obtain⟨p,z,rfl,e⟩:=hR;cbv;exact⟨o.trans p,z,rfl,by rw[e,g]⟩
theorem dKd{xs:List Row}{len:Nat}(q:Sl 46 bF h (.slice b len cap) xs){H:Nat}{M N P Q:Value}(E:h H=some (.cells #[M,N,.int .i64 key,P,Q] 260 (0,0)))(kv:jd):
 Ct 229 [.slice b len cap,.agg #[.int .i64 kv.k,.int .i64 kv.n,.string kv.s],.func (.func 230) #[] #[.zP H]] h (λv h'=>Le h h'/\∃(z:Int) (t:Bool),v=.tuple #[.int .i64 z,.bool t]/\PF (xs.map (λx:Row=>dg (keyOf key x) kv)) z t):=by
 have f:=q.len;obtain⟨W,Z⟩:=q.bound;have r:(xs.map (λx:Row=>dg (keyOf key x) kv)).length=len:=by simp[f]
 generalize hl:xs.map (λx:Row=>dg (keyOf key x) kv)=l at r;have O:∀(i:Nat) x,xs[i]? =some x->l[i]? =some ((λx:Row=>dg (keyOf key x) kv) x):=λi x hx=>by rw[<-hl];simp[hx]
 refine cg eXI Tryz.func229 λA c=>?_;cbv;refine aX.go (G:=Int×Int) (λg=>[(9,.v (.int .i64 g.1)),(10,.v (.int .i64 g.2))]) (λ_=>[(4,[.int .i64 kv.k,.int .i64 kv.n,.string kv.s])])
  (λn g h'=>∃i j:Nat,aZ g.1 i/\aZ g.2 j/\n=j-i/\i<=j/\j<=len/\Le h h'/\rV l 0 len=rV l i j) len (0,A .nat len) ⟨?_,?_,?_⟩ ⟨0,len,⟨rfl⟩,⟨by rw[c.nat];rfl⟩,by omega,by omega,by omega,Le.refl _,rfl⟩ ?_
 .cbv
 .cbv
 .cbv
 intro n g h' L;cbv;obtain⟨i,j,a,p,T,X,S,e,D⟩:=L;refine ba (λd=>?_) (λd=>?_)
 .rw[a.yY (A:=A) p,NB]at d;cbv;refine⟨by decide,?_⟩;cbv;have s:=a.fKM (A:=A) p (by omega) (by omega);obtain⟨x,hx⟩:=aJ (xs:=xs) (i:=(i+j) / 2) (by omega);refine⟨⟨q.bp,s.ix (by omega)⟩,?_⟩;cbv;refine(q.mono (e.t _)).load hx s.eq (λcs u=>?_);obtain⟨v,rfl,o⟩:=u;obtain⟨I,R,J,rfl⟩:=o.form;cbv;refine(QX (e _ _ E) o kv).mono (λv K hR=>?_);obtain⟨F,z,rfl,C⟩:=hR;cbv;have y:l.getD ((i+j) / 2) 0=z:=by rw[yz,O _ _ hx,C];rfl
  have m:=D;rw[rV.eq_1 l i j,if_pos d,y]at m;refine ba (λk=>?_) (λk=>?_)
  .rw[c.aN]at k;have B:z<0:=lA k;rw[if_pos B]at m;clear k B;cbv;refine⟨j-((i+j) / 2+1),(_,g.2),by omega,by constructor<;>cbv,(i+j) / 2+1,j,s.succ (A:=A),p,rfl,by omega,S,e.trans F,m⟩
  rw[c.aN]at k;have B:¬z<0:=kz k;rw[if_neg B]at m;clear k B;cbv;refine⟨(i+j) / 2-i,(g.1,A .conv .i64 (A .aT .shr .u64 (A .conv .u64 (A .aT .add .i64 g.1 g.2)) 1)),by omega,by constructor<;>cbv,i,(i+j) / 2,a,s,rfl,by omega,by omega,e.trans F,m⟩
 rw[a.yY (A:=A) p,decide_eq_false_iff_not]at d;cbv;have m:=D;rw[rV.eq_1 l i j,if_neg d]at m;have Y:=a.yY (A:=A) (w:=A .nat len) (j:=len) ⟨by rw[c.nat];rfl⟩;refine ba (λk=>?_) (λk=>?_)
 .rw[k];rw[Y,NB]at k;cbv;obtain⟨x,hx⟩:=cB xs i;refine⟨⟨q.bp,a.ix (by omega)⟩,?_⟩;cbv;refine(q.mono (e.t _)).load hx a.eq (λcs u=>?_);obtain⟨v,rfl,o⟩:=u;obtain⟨I,R,J,rfl⟩:=o.form;cbv;refine(QX (e _ _ E) o kv).mono (λv K hR=>?_);obtain⟨F,z,rfl,C⟩:=hR;cbv;refine⟨e.trans F,_,_,rfl,⟨i,a,?_,?_⟩⟩
  .rw[r];exact m.symm
  rw[c.aN];have y:l.getD i 0=z:=by rw[yz,O _ _ hx,C];rfl
  rw[y,r];simp[aN,k];rfl
 rw[k];rw[Y,decide_eq_false_iff_not]at k;cbv;refine⟨e,_,_,rfl,⟨i,a,?_,?_⟩⟩
 .rw[r];exact m.symm
 rw[r];simp[k]
theorem QY{a d e:Value}(q:Sl 46 bF h (.slice b n c) o)(kv:jd):
 Ct 112 [.agg #[a,d,.int .i64 key,e,.slice b n c],.agg #[.int .i64 kv.k,.int .i64 kv.n,.string kv.s]] h (λv h'=>Le h h'/\∃z t,v=.tuple #[.int .i64 z,.bool t]/\PF (o.map λr=>dg (keyOf key r) kv) z t):=by
 refine cg eJy Tryz.func112 λA p=>?_;cbv;intro k f C e1;have l:Le h f:=by rw[e1];exact Le.set C
 have g:=(congrFun e1 k).trans ae;cbv;rw[av A];rw[av A];refine cr g ?_;cbv;refine(dKd (q.mono (l.t _)) g kv).mono (λv m hR=>?_);obtain⟨j,z,t,rfl,i⟩:=hR;cbv;exact⟨l.trans j,z,t,rfl,i⟩
def iR(v:jd):jd:=if decide (v.k=3)=true then⟨v.k,0,v.s⟩else if decide (v.k=1)=true then⟨v.k,v.n,⟨#[]⟩⟩else if decide (v.k=2)=true then⟨v.k,v.n,⟨#[]⟩⟩else⟨v.k,0,⟨#[]⟩⟩
def iB(a b:jd):Bool:=decide (a.k=b.k)&&(decide (a.n=b.n)&&decide (a.s=b.s))
def dR(v:jd):Int:=
 if(decide (v.k<0)||decide (v.k>3))=true then 3
 else if(!iB v (iR v)||(decide (v.k=1)&&decide (v.n≠0)&&decide (v.n≠1)))=true then 1
 else if decide ((v.s.size:Int)>60)=true then 5 else 0
theorem bJE{xs:List Row}{len:Nat}(q:Sl 46 bF h (.slice b len cap) xs):
 Ct 227 [.slice b len cap] h (λv h'=>Le h h'/\∃c,h c=none/\v=.slice (zsA c) len len/\cZ 46 bF h' c len xs):=by
 have l:=q.len;obtain⟨W,Z⟩:=q.bound;refine cg eXK Tryz.func227 λA y=>?_;cbv;refine sJ (s:=bF) rfl (by omega) (by decide) (λc t C e o=>?_);cbv;refine aX.go (G:=Int) (λz=>[(11,.v (.int .i64 z))]) (λ_=>[]) (λn z h'=>∃i:Nat,aZ z i/\n=len-i/\i<=len/\Le h h'/\cZ 46 bF h' c len (xs.take i)) len 0 (by constructor<;>cbv) ⟨0,⟨rfl⟩,by omega,by omega,e,o⟩ ?_
 intro n z h' I;cbv;obtain⟨i,a,E,B,p,R⟩:=I;refine ba (λd=>?_) (λd=>?_)
 .have U:=a.lt d;clear d;cbv;obtain⟨x,hx⟩:=cB xs i;refine⟨⟨q.bp,a.ix U⟩,?_⟩;cbv;refine(q.mono (p.t _)).load hx a.eq (λcs r=>?_);obtain⟨v,rfl,f⟩:=r;obtain⟨g,K,m,rfl⟩:=f.form;cbv;refine(Gj f).mono (λM u hR=>?_);obtain⟨F,j,J,rfl,N,-⟩:=hR;cbv;refine⟨⟨rfl,a.ix U⟩,?_⟩;cbv;refine(R.mono (F.t _)).store (by decide) (i:=i) (by simp;omega) (by omega) (by omega) a.eq rfl (x:=x) ⟨_,rfl,N⟩ (λw k H D=>?_);cbv;refine⟨len-(i+1),_,by omega,by constructor<;>cbv,i+1,a.succ (A:=A),rfl,by omega,?_,?_⟩
  .exact(p.trans F).aV (by simpa using C) k
  rw[if_neg (by simp;omega)]at D;rw[qM,hx];exact D
 have L:=a.ge d;cbv;have:i=len:=by omega
 subst this;refine⟨p,c,C,rfl,?_⟩;rw[l,Bk]at R;rw[l];exact R
theorem wR{s p:Option Addr}{o u r:Nat}(z:Sl 202 bH h (.slice s o m) B)(y:Sl 59 (vA 46 bF) h (.slice b n c) L)(t:L.flatten.length<=2^38):
 Ct 111 [.agg #[.string nm,.slice s o m,.int .i64 key,.bool only,.slice p u r],.slice b n c] h (λv h'=>Le h h'/\∃a j k d f e,v=.agg #[.string nm,.slice a j k,.int .i64 key,.bool only,.slice d f e]/\Sl 202 bH h' (.slice a j k) B/\Sl 46 bF h' (.slice d f e) L.flatten):=by
 refine cg eJz Tryz.func111 λA G=>?_;cbv;refine(MB z).mono (λv D hR=>?_);obtain⟨l,a,k,rfl,x,-⟩:=hR;cbv;refine(Ud (y.mono (l.t _)) t).mono (λv E hR=>?_);obtain⟨g,d,f,e,rfl,q⟩:=hR;cbv;refine(bJE q.sl).mono (λv F hR=>?_);obtain⟨i,H,C,rfl,w⟩:=hR;cbv;exact⟨(l.trans g).trans i,_,_,_,_,_,_,rfl,x.mono ((g.trans i).t _),w.sl q.sl.len⟩
theorem aKv(w:jd)(h:ad):Ct 312 [.agg #[.int .i64 w.k,.int .i64 w.n,.string w.s]] h (λv h'=>Le h h'/\∃x:jd,v=.agg #[.int .i64 x.k,.int .i64 x.n,.string x.s]/\x=iR w):=by
 obtain⟨A,g⟩:=Ar.ex;obtain⟨k,n,s⟩:=w;generalize e:A .aN .eql k 3=u3;generalize e1:A .aN .eql k 1=u;generalize a:A .aN .eql k 2=d;have c:=e;have b:=a;have f:=e1;rw[au A]at e1 a e;refine fz eQm A Tryz.func312 ?_;cbv;rw[c];cases u3 with
 |true=>cbv;exact⟨Le.refl _,⟨k,0,s⟩,rfl,by simp only[iR,e];rfl⟩
 |false=>
  cbv;rw[f];cases u with
  |true=>cbv;exact⟨Le.refl _,⟨k,n,⟨#[]⟩⟩,rfl,by simp only[iR,e,e1];rfl⟩
  |false=>
   cbv;rw[b];cases d with
   |true=>cbv;exact⟨Le.refl _,⟨k,n,⟨#[]⟩⟩,rfl,by simp only[iR,e,e1,a];rfl⟩
   |false=>cbv;exact⟨Le.refl _,⟨k,0,⟨#[]⟩⟩,rfl,by simp only[iR,e,e1,a];rfl⟩
theorem ME(w:jd)(h:ad):Ct 226 [.agg #[.int .i64 w.k,.int .i64 w.n,.string w.s]] h (λv h'=>Le h h'/\∃z,v=.int .i64 z/\z=dR w):=by
 obtain⟨A,i⟩:=Ar.ex;obtain⟨k,n,s⟩:=w;generalize j:iR ⟨k,n,s⟩=bv;obtain⟨G,n',H⟩:=bv;generalize e1:A .aN .lss k 0=m;generalize e:A .aN .gtr k 3=o;generalize a:A .not (A .and (A .aN .eql k G) (A .and (A .aN .eql n n') (A .and (A .kM .eql s H) true)))=u3;generalize b:A .aN .eql k 1=p;generalize c:A .aN .neq n 0=q;generalize d:A .aN .neq n 1=r;generalize f:A .aN .gtr (A .lC s) 60=u;have t:=e1;have y:=e;have B:=a;have C:=b;have D:=c;have E:=d;have g:=f;rw[aR A]at e1;rw[bC A]at e;rw[au A]at b;rw[az A]at c d;rw[bC A,i.lC]at f;rw[i.not,i.and,au A,au A,eK A]at a;have key:∀z,z=(if(m||o)=true then(3:Int)else if(u3||(p&&q&&r))=true then 1 else if u=true then 5 else 0)->z=dR ⟨k,n,s⟩:=λz F=>by
  rw[F,<-e1,<-e,<-a,<-b,<-c,<-d,<-f];simp only[dR,j,iB,kXD]
 refine fz eXL A Tryz.func226 ?_;cbv;rw[t];cases m with
 |true=>cbv;exact⟨Le.refl _,3,rfl,key 3 rfl⟩
 |false=>
  cbv;rw[y];cases o with
  |true=>cbv;exact⟨Le.refl _,3,rfl,key 3 rfl⟩
  |false=>
   cbv;refine(aKv ⟨k,n,s⟩ h).mono (λv I hR=>?_);obtain⟨l,x,rfl,ex⟩:=hR;rw[j]at ex;subst ex;cbv;rw[B];cases u3 with
   |true=>cbv;exact⟨l,1,rfl,key 1 rfl⟩
   |false=>
    cbv;rw[C];cases p with
    |false=>
     cbv;rw[g];cases u with
     |true=>cbv;exact⟨l,5,rfl,key 5 rfl⟩
     |false=>cbv;exact⟨l,0,rfl,key 0 rfl⟩
    |true=>
     cbv;rw[D];cases q with
     |false=>
      cbv;rw[g];cases u with
      |true=>cbv;exact⟨l,5,rfl,key 5 rfl⟩
      |false=>cbv;exact⟨l,0,rfl,key 0 rfl⟩
     |true=>
      cbv;rw[E];cases r with
      |true=>cbv;exact⟨l,1,rfl,key 1 rfl⟩
      |false=>
       cbv;rw[g];cases u with
       |true=>cbv;exact⟨l,5,rfl,key 5 rfl⟩
       |false=>cbv;exact⟨l,0,rfl,key 0 rfl⟩
theorem PF.at_{l:List Int}{t:Bool}(q:PF l z t):aZ z (dC l)/\t=iQ l:=by obtain⟨i,h,a,b⟩:=q.out;subst a;exact⟨h,b⟩
def dM(c:jF)(v:jd):Int:=if decide (dR v≠0)=true then dR v else if(decide (v.k=0)&& !c.null)=true then 13 else if(decide (v.k≠0)&&decide (v.k≠c.kind))=true then 3 else 0
def eF(bB:List jF)(r:Row):Int:=if decide ((r.length:Int)≠(bB.length:Int))=true then 1 else fk (List.zipWith dM bB r)
def cM(t:ca)(k:jd):List Int:=t.rows.map λr=>dg (keyOf t.S.key r) k
def BI(t:ca)(i:Nat)(r:Row):ca:=⟨t.S,t.rows.take i++[r]++t.rows.drop i⟩
def Ez(t:ca)(i:Nat):ca:=⟨t.S,t.rows.take i++t.rows.drop (i+1)⟩
def bK(t:ca)(r:Row):ca×Int:=
 if decide (eF t.S.bB r≠0)=true then(t,eF t.S.bB r)
 else if iQ (cM t (keyOf t.S.key r))=true then(t,7)
 else if decide ((t.rows.length:Int)>=200)=true then(t,4)
 else(BI t (dC (cM t (keyOf t.S.key r))) r,0)
def bE(t:ca)(k:jd):ca×Row×Int:=
 if iQ (cM t k)=true then(Ez t (dC (cM t k)),(t.rows[dC (cM t k)]?).getD [],0)else(t,[],2)
theorem aJN{S:Option Addr}{C T:Nat}(R:Sl 202 bH h (.slice S C T) B)(q:Sl 45 bA h (.slice b n c) r):
 Ct 110 [.agg #[.string nm,.slice S C T,.int .i64 key,.bool only],.slice b n c] h (λv h'=>Le h h'/\∃z,v=.int .i64 z/\z=eF B r):=by
 obtain⟨A,W⟩:=Ar.ex;have t:=q.len;have O:=R.len;obtain⟨kW,gZ⟩:=q.bound;generalize e1:A .aN .neq (A .nat n) (A .nat C)=u1;have f1:=e1;rw[az A,W.nat]at e1;simp only[rz]at e1;rw[t,O]at e1;have X:u1=false->n=C:=λe=>by rw[e]at e1;have:=jKJ.1 (kz e1);omega
 refine fz eJA A Tryz.func110 ?_;cbv;rw[f1];cases u1 with
 |true=>cbv;exact⟨Le.refl _,1,rfl,by simp only[eF,e1];rfl⟩
 |false=>
  have XT:=X rfl;cbv;refine aX.go (G:=Int) (λz=>[(17,.v (.int .i64 z))]) (λ_=>[(2,[.string nm,.slice S C T,.int .i64 key,.bool only])])
   (λk z h'=>∃i:Nat,aZ z i/\k=n-i/\i<=n/\Le h h'/\∀j,j<i->∀y,(List.zipWith dM B r)[j]? =some y->y=0) n 0 ⟨?_,?_,?_⟩ ⟨0,⟨rfl⟩,by omega,by omega,Le.refl _,λj hj=>(by omega)⟩ ?_
  .cbv
  .cbv
  .cbv
  intro k z h' hI;cbv;obtain⟨i,p,hk,hi,d,M⟩:=hI;refine ba (λH=>?_) (λH=>?_)
  .have aU:=p.lt H;clear H;cbv;obtain⟨x,hx⟩:=cB r i;obtain⟨y,hy⟩:=cB B i;have Z:(List.zipWith dM B r)[i]? =some (dM y x):=by rw[kXZ,hx,hy]
   have Ib:(List.zipWith dM B r).drop i=dM y x::(List.zipWith dM B r).drop (i+1):=by have hl:=(ff.1 Z);rw[Rs hl.1,hl.2]
   have I:eF B r=fk ((List.zipWith dM B r).drop i):=by rw[<-pB M];simp only[eF,e1];rfl
   have m:∀ {Y:ad} (w:Int),Le h Y->w=dM y x->w≠0->Le h Y/\∃z,Value.int .i64 w=.int .i64 z/\z=eF B r:=λw l ew u=>by
    refine⟨l,w,rfl,?_⟩;rw[I,Ib,<-ew];simp only[fk];rw[if_pos (ak u)]
   have P:∀(o:ad),Le h o->dM y x=0->∃j:Nat,aZ (A .aT .add .i64 z 1) j/\n-(i+1)=n-j/\j<=n/\Le h o/\∀j',j'<j->∀w,(List.zipWith dM B r)[j']? =some w->w=0:=λo l e0=>
    ⟨i+1,p.succ (A:=A),rfl,by omega,l,λj hj w u=>by
     rcases wM j i with mA|mA
     .exact M j mA w u
     have:j=i:=by omega
     subst this;rw[Z]at u;cases u;exact e0⟩
   refine⟨⟨q.bp,p.ix aU⟩,?_⟩;cbv;refine(q.mono (d.t _)).load hx p.eq (λcs f=>?_);have f:cs=[.int .i64 x.k,.int .i64 x.n,.string x.s]:=f;subst f;cbv;refine⟨⟨R.bp,p.ix (by omega)⟩,?_⟩;cbv;refine(R.mono (d.t _)).load hy p.eq (λcs f=>?_);have f:cs=[.string y.name,.int .i64 y.kind,.bool y.null]:=f;subst f;cbv;refine(ME x h').mono (λv o hR=>?_);obtain⟨l2,D,rfl,N⟩:=hR;have a:=d.trans l2;obtain⟨Q,kd,nl⟩:=y;generalize s:A .aN .neq D 0=U;generalize E:A .aN .eql x.k 0=w2;generalize F:A .aN .neq x.k 0=V;generalize K:A .aN .neq x.k kd=w4;generalize L:A .not nl=w5;have k1:=s;have k2:=E;have k3:=F;have k4:=K;have k5:=L;rw[az A]at s F K;rw[au A]at E;rw[W.not]at L;have key:dM ⟨Q,kd,nl⟩ x=if U=true then D else if(w2&&w5)=true then 13 else if(V&&w4)=true then 3 else 0:=by rw[<-s,<-E,<-F,<-K,<-L,N];rfl
   have LJ:U=true->D≠0:=λe=>by rw[e]at s;exact lA s
   cbv;rw[k1];cases U with
   |true=>cbv;exact m D a key.symm (LJ rfl)
   |false=>
    cbv;rw[k2];cases w2 with
    |true=>
     have J:V=false:=by rw[<-F];have:=lA E;exact bn (by omega)
     subst J;cbv;rw[k5];cases w5 with
     |true=>cbv;exact m 13 a key.symm (by omega)
     |false=>
      have g:=P o a key;cbv;rw[k3];cbv;refine⟨n-(i+1),_,by omega,by constructor<;>cbv,g⟩
    |false=>
     cbv;rw[k3];cases V with
     |true=>
      cbv;rw[k4];cases w4 with
      |true=>cbv;exact m 3 a key.symm (by omega)
      |false=>
       have g:=P o a key;cbv;refine⟨n-(i+1),_,by omega,by constructor<;>cbv,g⟩
     |false=>
      have g:=P o a key;cbv;refine⟨n-(i+1),_,by omega,by constructor<;>cbv,g⟩
  have lJ:=p.ge H;have I:=pB M;rw[RR (by rw[List.length_zipWith];omega)]at I;cbv;refine⟨d,0,rfl,?_⟩;simp only[eF,e1,I];rfl
theorem bJd(q:Sl 45 bA h (.slice b n c) r):bF.R h [.slice b n c] r:=⟨_,rfl,q⟩
theorem pw{L:List Row}(q:Sl 46 bF h (.slice b n c) L):(vA 46 bF).R h [.slice b n c] L:=⟨_,rfl,q⟩
theorem bQK{sb b4:Option Addr}{sn sc L R:Nat}(P:Sl 202 bH h (.slice sb sn sc) B)(x:Sl 46 bF h (.slice b4 L R) o)(q:Sl 45 bA h (.slice b n c) r)(hn:L<=2^37):
 Ct 45 [.agg #[.string nm,.slice sb sn sc,.int .i64 key,.bool only,.slice b4 L R],.slice b n c] h (λv h'=>Le h h'/\∃D J l F K m e T,v=.tuple #[.agg #[.string nm,.slice D J l,.int .i64 key,.bool only,.slice F K m],.int .i64 e]/\
  Sl 202 bH h' (.slice D J l) B/\Sl 46 bF h' (.slice F K m) T/\(⟨⟨⟨nm,B,key,only⟩,T⟩,e⟩:ca×Int)=bK ⟨⟨nm,B,key,only⟩,o⟩ r):=by
 have f:=x.len;refine cg hKg Tryz.func45 λA hA=>?_;cbv;refine(aJN (nm:=nm) (key:=key) (only:=only) P q).mono (λv h1 hR=>?_);obtain⟨Y,z,rfl,ez⟩:=hR;have C:bK ⟨⟨nm,B,key,only⟩,o⟩ r=if decide (z≠0)=true then(⟨⟨nm,B,key,only⟩,o⟩,z)else if iQ (cM ⟨⟨nm,B,key,only⟩,o⟩ (keyOf key r))=true then(⟨⟨nm,B,key,only⟩,o⟩,7)
  else if decide ((o.length:Int)>=200)=true then(⟨⟨nm,B,key,only⟩,o⟩,4)else(BI ⟨⟨nm,B,key,only⟩,o⟩ (dC (cM ⟨⟨nm,B,key,only⟩,o⟩ (keyOf key r))) r,0):=by rw[ez];rfl
 generalize S:A .aN .neq z 0=w1;have l:=S;rw[az A]at S;rw[S]at C;have a:([o]:List (List Row)).flatten=o:=by simp
 cbv;rw[l];cases w1 with
 |true=>
  cbv;intro w h2 p e2;have l2:Le h1 h2:=by rw[e2];exact Le.set p
  have u:=(congrFun e2 w).trans ae;have G:=Y.trans l2;cbv;refine(wR (P.mono (G.t _)) (bf (s:=vA 46 bF) u (pw (x.mono (G.t _)))) (by rw[a];omega)).mono (λv Q hR=>?_);obtain⟨l3,D,J,l,F,K,m,rfl,y,d⟩:=hR;rw[a]at d;cbv;exact⟨G.trans l3,_,_,_,_,_,_,z,o,rfl,y,d,C.symm⟩
 |false=>
  cbv;refine(XB (q.mono (Y.t _))).mono (λv h2 hR=>?_);obtain⟨l2,H,rfl,U⟩:=hR;have G:=Y.trans l2;cbv;refine(QY (x.mono (G.t _)) H).mono (λv Q hR=>?_);obtain⟨l3,j,t,rfl,hb⟩:=hR;have ng:=G.trans l3;obtain⟨g,W⟩:=hb.at_;rw[<-U]at C;have W:t=iQ (cM ⟨⟨nm,B,key,only⟩,o⟩ H):=W;have g:aZ j (dC (cM ⟨⟨nm,B,key,only⟩,o⟩ H)):=g;have M:dC (cM ⟨⟨nm,B,key,only⟩,o⟩ H)<=L:=by have:=cZa (cM ⟨⟨nm,B,key,only⟩,o⟩ H);rw[f];simpa[cM]using this
  rw[<-W]at C;generalize dC (cM ⟨⟨nm,B,key,only⟩,o⟩ H)=i at *;generalize u:A .aN .geq (A .nat L) 200=w2;have m:=u;rw[cH A,hA.nat]at u;simp only[rz]at u;rw[f]at u;rw[u]at C;cases t with
  |true=>
   cbv;intro w f p k;have O:Le Q f:=by rw[k];exact Le.set p
   have N:=(congrFun k w).trans ae;have E:=ng.trans O;cbv;refine(wR (P.mono (E.t _)) (bf (s:=vA 46 bF) N (pw (x.mono (E.t _)))) (by rw[a];omega)).mono (λv V hR=>?_);obtain⟨I,D,J,l,F,K,m,rfl,y,d⟩:=hR;rw[a]at d;cbv;exact⟨E.trans I,_,_,_,_,_,_,7,o,rfl,y,d,C.symm⟩
  |false=>
   cbv;rw[m];cases w2 with
   |true=>
    cbv;intro w f p k;have O:Le Q f:=by rw[k];exact Le.set p
    have N:=(congrFun k w).trans ae;have E:=ng.trans O;cbv;refine(wR (P.mono (E.t _)) (bf (s:=vA 46 bF) N (pw (x.mono (E.t _)))) (by rw[a];omega)).mono (λv V hR=>?_);obtain⟨I,D,J,l,F,K,m,rfl,y,d⟩:=hR;rw[a]at d;cbv;exact⟨E.trans I,_,_,_,_,_,_,4,o,rfl,y,d,C.symm⟩
   |false=>
    have jQ:=x.bound;have ey:0<=j/\j<=(R:Int)/\0<=j/\j<=j:=by have:=g.eq;omega
    have jC:0<=j/\j<=(L:Int):=by have:=g.eq;omega
    have ZS:([o.take i,[r],o.drop i]:List (List Row)).flatten=o.take i++[r]++o.drop i:=by simp
    have Ds:(o.take i++[r]++o.drop i).length<=2^38:=by simp;omega
    cbv;refine⟨ey,?_⟩;cbv;refine⟨jC,?_⟩;cbv;intro w f p k;have O:Le Q f:=by rw[k];exact Le.set p
    have N:=(congrFun k w).trans ae;have E:=ng.trans O;cbv;intro Kb V vW e5;have I:Le f V:=by rw[e5];exact Le.set vW
    have g5:=(congrFun e5 Kb).trans ae;have X:=E.trans I;have Z:=x.mono (X.t _);have p1:=pw (Z.sA (A:=A) (s:=bF) (z:=j) M (dy (A:=A) g) (dy (A:=A) g));have p2:=pw (bf (s:=bF) (I _ _ N) (bJd (q.mono (X.t _))));have p3:=pw (Z.jD (A:=A) (s:=bF) g M (cJ (A:=A) g) (cJ (A:=A) g));cbv;refine(wR (P.mono (X.t _)) (ke (s:=vA 46 bF) rfl g5 p1 p2 p3) (by rw[ZS];exact Ds)).mono (λv h6 hR=>?_);obtain⟨l6,D,J,l,F,K,m,rfl,y,d⟩:=hR;rw[ZS]at d;cbv;exact⟨X.trans l6,_,_,_,_,_,_,0,_,rfl,y,d,C.symm⟩
theorem VU{b:List jF}{r:List Row}{sb F:Option Addr}{sn sc G:Nat}(qs:Sl 202 bH h (.slice sb sn sc) b)(q:Sl 46 bF h (.slice F n G) r)(hn:n<=2^37)(kv:jd):
 Ct 277 [.agg #[.string nm,.slice sb sn sc,.int .i64 key,.bool only,.slice F n G],.agg #[.int .i64 kv.k,.int .i64 kv.n,.string kv.s]] h (λv h'=>Le h h'/\∃j w o k y p E Y I e T R,v=.tuple #[.agg #[.string nm,.slice j w o,.int .i64 key,.bool only,.slice k y p],.slice E Y I,.int .i64 e]/\
  Sl 202 bH h' (.slice j w o) b/\Sl 46 bF h' (.slice k y p) T/\Sl 45 bA h' (.slice E Y I) R/\(⟨⟨⟨nm,b,key,only⟩,T⟩,R,e⟩:ca×Row×Int)=bE ⟨⟨nm,b,key,only⟩,r⟩ kv):=by
 have H:=q.len;have d:([r]:List (List Row)).flatten=r:=by simp
 refine cg eQR Tryz.func277 λA W=>?_;cbv;refine(QY q kv).mono (λv Q hR=>?_);obtain⟨J,c,t,rfl,hb⟩:=hR;obtain⟨g,m⟩:=hb.at_;have C:bE ⟨⟨nm,b,key,only⟩,r⟩ kv=if iQ (cM ⟨⟨nm,b,key,only⟩,r⟩ kv)=true then(Ez ⟨⟨nm,b,key,only⟩,r⟩ (dC (cM ⟨⟨nm,b,key,only⟩,r⟩ kv)),(r[dC (cM ⟨⟨nm,b,key,only⟩,r⟩ kv)]?).getD [],0)else(⟨⟨nm,b,key,only⟩,r⟩,[],2):=rfl
 have m:t=iQ (cM ⟨⟨nm,b,key,only⟩,r⟩ kv):=m;have g:aZ c (dC (cM ⟨⟨nm,b,key,only⟩,r⟩ kv)):=g;have U:t=true->dC (cM ⟨⟨nm,b,key,only⟩,r⟩ kv)<n:=λe=>by
  have:=jk (m.symm.trans e);rw[H];simpa[cM]using this
 rw[<-m]at C;generalize dC (cM ⟨⟨nm,b,key,only⟩,r⟩ kv)=i at *;cases t with
 |false=>
  have B:A .not false=true:=by rw[W.not];rfl
  cbv;rw[B];cbv;intro nb H eC O;have l4:Le Q H:=by rw[O];exact Le.set eC
  have g4:=(congrFun O nb).trans ae;have N:=J.trans l4;cbv;refine(wR (qs.mono (N.t _)) (bf (s:=vA 46 bF) g4 (pw (q.mono (N.t _)))) (by rw[d];omega)).mono (λv V hR=>?_);obtain⟨l,j,w,o,k,y,p,rfl,M,f⟩:=hR;rw[d]at f;cbv;exact⟨N.trans l,_,_,_,_,_,_,_,_,_,2,r,[],rfl,M,f,Sl.nil,C.symm⟩
 |true=>
  have U:=U rfl;have B:A .not true=false:=by rw[W.not];rfl
  have jQ:=q.bound;have u:=g.succ (A:=A);have ey:0<=c/\c<=(G:Int)/\0<=c/\c<=c:=by have:=g.eq;omega
  have jC:0<=A .aT .add .i64 c 1/\A .aT .add .i64 c 1<=(n:Int):=by have:=u.eq;omega
  have S:([r.take i,r.drop (i+1)]:List (List Row)).flatten=r.take i++r.drop (i+1):=by simp
  have Ds:(r.take i++r.drop (i+1)).length<=2^38:=by simp;omega
  obtain⟨x,hx⟩:=cB r i;have JB:F.isSome=true/\0<=c/\c<(n:Int):=⟨q.bp,g.ix U⟩;cbv;rw[B];cbv;refine⟨ey,?_⟩;cbv;refine⟨jC,?_⟩;cbv;refine⟨JB,?_⟩;cbv;refine(q.mono (J.t _)).bQT hx g.eq (λcs ar a=>?_);obtain⟨vx,rfl,X⟩:=ar;obtain⟨bx,lx,cx,rfl⟩:=X.form;cbv;intro Kb V vW P;have l:Le Q V:=by rw[P];exact Le.set vW
  have g5:=(congrFun P Kb).trans ae;have D:=J.trans l;have Z:=q.mono (D.t _);have p1:=pw (Z.sA (A:=A) (s:=bF) (z:=c) (kQC U) (dy (A:=A) g) (dy (A:=A) g));have p3:=pw (Z.jD (A:=A) (s:=bF) u U (cJ (A:=A) u) (cJ (A:=A) u));cbv;refine a _ _ l ?_;cbv;refine⟨⟨_,rfl,rfl⟩,?_⟩;cbv;refine(wR (qs.mono (D.t _)) (oN (s:=vA 46 bF) rfl g5 p1 p3) (by rw[S];exact Ds)).mono (λv h6 hR=>?_);obtain⟨K,j,w,o,k,y,p,rfl,M,f⟩:=hR;rw[S]at f;cbv;refine a _ _ (l.trans K) ?_;cbv;refine⟨⟨_,rfl,rfl⟩,?_⟩;cbv;refine(Gj (X.mono ((l.trans K).t _))).mono (λv h7 hR=>?_);obtain⟨L,E,I,rfl,r3,-⟩:=hR;cbv;rw[hx]at C;exact⟨(D.trans K).trans L,_,_,_,_,_,_,_,_,_,0,_,_,rfl,M.mono (L.t _),f.mono (L.t _),r3,C.symm⟩
theorem aZH{c:Type}{xs:List c}{p:c->Bool}(q:ur xs p z):(z=-1/\xs.findIdx? p=none)\/∃i x,aZ z i/\xs.findIdx? p=some i/\xs[i]? =some x/\p x=true:=by
 rcases q.out with⟨a,h⟩|⟨i,x,a,h,b,d⟩
 .exact .inl ⟨a,kQV.2 h⟩
 refine .inr ⟨i,x,a,?_,h,b⟩;obtain⟨n,l⟩:=ff.1 h;rw[kQU];refine⟨n,by rw[l];exact b,λj e=>?_⟩;have Q:j<xs.length:=by omega
 have:=d j e xs[j] (by simp[Q]);simp[this]
def Qh(a b:bU):Bool:=decide (a.s=b.s)&&(decide (a.table=b.table)&&decide (a.x=b.x))
def nD(H:List bU)(hd:bU):Option Nat:=H.findIdx? (ja hd)
def oX(H:List bU)(hd:bU):Bool:=match nD H hd with
 |some i=>(H[i]?).any λo=>o.x||Qh o hd
 |none=>false
def bP(H:List bU)(hd:bU):Bool:=oX H hd|| !(H.any (eo hd))
def cS(H:List bU)(hd:bU):List bU:=
 if bP H hd=true then if oX H hd=true then H else match nD H hd with
  |some i=>H.set i hd
  |none=>H++[hd]
 else H
def cY(H W:List bU)(hd:bU):List bU:=if bP H hd=true then bR W hd.s else bR W hd.s++[hd]
theorem Ck{L:List bU}(q:Sl 253 bu h (.slice b n c) L):(vA 253 bu).R h [.slice b n c] L:=⟨_,rfl,q⟩
theorem aJJ{W:List bU}{c:Option Addr}{d a e:Nat}(q:Sl 253 bu h (.slice b n d) H)(i:Sl 253 bu h (.slice c a e) W)(g:n<=2^38)(U:a<=2^38)(s:Int):
 Ct 241 [.agg #[.slice b n d,.slice c a e],.int .i64 s] h (λv h'=>Le h h'/\∃b n d c a e,v=.agg #[.slice b n d,.slice c a e]/\Sl 253 bu h' (.slice b n d) (bR H s)/\Sl 253 bu h' (.slice c a e) (bR W s)):=by
 refine cg eXx Tryz.func241 λA t=>?_;cbv;refine(jW q g s).mono (λv o hR=>?_);obtain⟨l,E,R,k,rfl,r⟩:=hR;cbv;refine(jW (i.mono (l.t _)) U s).mono (λv p hR=>?_);obtain⟨f,Q,S,m,rfl,j⟩:=hR;cbv;exact⟨l.trans f,_,_,_,_,_,_,rfl,r.sl.mono (f.t _),j.sl⟩
theorem cZh{W:List bU}{N Z:Option Addr}{u c1 R c2:Nat}(q:Sl 253 bu h (.slice N u c1) H)(D:Sl 253 bu h (.slice Z R c2) W)(fh:u<=2^37)(eU:R<=2^37)(hd:bU):
 Ct 233 [.agg #[.slice N u c1,.slice Z R c2],.agg #[.int .i64 hd.s,.string hd.table,.bool hd.x]] h (λv h'=>Le h h'/\∃N u c1 Z R c2 t,v=.tuple #[.agg #[.slice N u c1,.slice Z R c2],.bool t]/\Sl 253 bu h' (.slice N u c1) (cS H hd)/\Sl 253 bu h' (.slice Z R c2) (cY H W hd)/\t=bP H hd):=by
 obtain⟨a,b,hx⟩:=hd;refine cg eXE Tryz.func233 λA hA=>?_;cbv;refine(aZs q ⟨a,b,hx⟩).mono (λv h1 hR=>?_);obtain⟨d,z,rfl,hz⟩:=hR;have L:A .not true=false:=by rw[hA.not];rfl
 have QH:A .not false=true:=by rw[hA.not];rfl
 rcases(aZH hz)with⟨rfl,hf⟩|⟨i,o,P,hf,ho,hp⟩
 .have lJ:A .aN .geq (-1) 0=false:=by rw[cH A];rfl
  have kH:oX H ⟨a,b,hx⟩=false:=by unfold oX nD;rw[hf]
  cbv;rw[lJ];cbv;refine(CW (q.mono (d.t _)) ⟨a,b,hx⟩).mono (λv h2 hR=>?_);obtain⟨l2,tc,rfl,Y⟩:=hR;have f:=d.trans l2;have kF:bP H ⟨a,b,hx⟩= !tc:=by unfold bP;rw[kH,Y];rfl
  cases tc with
  |true=>
   have p:bP H ⟨a,b,hx⟩=false:=kF;have g:cS H ⟨a,b,hx⟩=H:=by unfold cS;rw[p];rfl
   have e:cY H W ⟨a,b,hx⟩=bR W a++[⟨a,b,hx⟩]:=by unfold cY;rw[p];rfl
   cbv;rw[L];cbv;refine(kY (q.mono (f.t _))).mono (λv O hR=>?_);obtain⟨l,bc,cc,rfl,T⟩:=hR;cbv;refine(jW (D.mono ((f.trans l).t _)) (by omega) a).mono (λv B hR=>?_);obtain⟨c,bw,nw,cw,rfl,J⟩:=hR;have r:=(f.trans l).trans c;have F:=T.mono (c.t _);cbv;rw[QH];cbv;intro K k I w;have n:Le B k:=by rw[w];exact Le.set I
   have g5:=(congrFun w K).trans ae;cbv;intro S h6 V y;have j:Le k h6:=by rw[y];exact Le.set V
   have g6:=(congrFun y S).trans ae;have M:([bR W a,[⟨a,b,hx⟩]]:List (List bU)).flatten=bR W a++[⟨a,b,hx⟩]:=by simp
   have U:(bR W a++[(⟨a,b,hx⟩:bU)]).length<=2^38:=by have h1:(bR W a).length<=W.length:=jKe _ _;have h2:=D.len;simp only[cy,qA];omega
   cbv;refine(Cy (oN (s:=vA 253 bu) rfl g6 (Ck (J.sl.mono ((n.trans j).t _))) (Ck (bf (s:=bu) (j _ _ g5) (x:=⟨a,b,hx⟩) rfl))) (by rw[M];exact U)).mono (λv h7 hR=>?_);obtain⟨l7,b7,n7,c7,rfl,C⟩:=hR;rw[M]at C;have Q:=(n.trans j).trans l7;cbv;exact⟨r.trans Q,_,_,_,_,_,_,false,rfl,by rw[g];exact F.sl.mono (Q.t _),by rw[e];exact C.sl,p.symm⟩
  |false=>
   have p:bP H ⟨a,b,hx⟩=true:=kF;have g:cS H ⟨a,b,hx⟩=H++[⟨a,b,hx⟩]:=by unfold cS;rw[p,kH];unfold nD;rw[hf];rfl
   have e:cY H W ⟨a,b,hx⟩=bR W a:=by unfold cY;rw[p];rfl
   cbv;rw[QH];cbv;refine(kY (q.mono (f.t _))).mono (λv O hR=>?_);obtain⟨l,bc,cc,rfl,T⟩:=hR;cbv;refine(jW (D.mono ((f.trans l).t _)) (by omega) a).mono (λv B hR=>?_);obtain⟨c,bw,nw,cw,rfl,J⟩:=hR;have r:=(f.trans l).trans c;have F:=T.mono (c.t _);cbv;rw[L];cbv;rw[lJ];cbv;intro K k I w;have n:Le B k:=by rw[w];exact Le.set I
   have g5:=(congrFun w K).trans ae;cbv;intro S h6 V y;have j:Le k h6:=by rw[y];exact Le.set V
   have g6:=(congrFun y S).trans ae;have M:([H,[⟨a,b,hx⟩]]:List (List bU)).flatten=H++[⟨a,b,hx⟩]:=by simp
   have U:(H++[(⟨a,b,hx⟩:bU)]).length<=2^38:=by have h2:=q.len;simp only[cy,qA];omega
   cbv;refine(Cy (oN (s:=vA 253 bu) rfl g6 (Ck (F.sl.mono ((n.trans j).t _))) (Ck (bf (s:=bu) (j _ _ g5) (x:=⟨a,b,hx⟩) rfl))) (by rw[M];exact U)).mono (λv h7 hR=>?_);obtain⟨l7,b7,n7,c7,rfl,C⟩:=hR;rw[M]at C;have Q:=(n.trans j).trans l7;cbv;exact⟨r.trans Q,_,_,_,_,_,_,true,rfl,by rw[g];exact C.sl,by rw[e];exact J.sl.mono (Q.t _),p.symm⟩
 have lJ:A .aN .geq z 0=true:=by rw[cH A];have:=P.eq;exact ak (by omega)
 have ab:i<u:=by have:=(ff.1 ho).1;rw[q.len];exact this
 have ey:N.isSome=true/\0<=z/\z<(u:Int):=⟨q.bp,P.ix ab⟩;have kH:oX H ⟨a,b,hx⟩=(o.x||Qh o ⟨a,b,hx⟩):=by unfold oX nD;rw[hf];simp only[ho];rfl
 obtain⟨os,ot,ox⟩:=o;cbv;rw[lJ];cbv;refine⟨ey,?_⟩;cbv;refine(q.mono (d.t _)).cu ho P.eq (o:=2) (m:=1) (by decide) (λcs E=>?_);have E:cs=[.int .i64 os,.string ot,.bool ox]:=E;subst E;cases ox with
 |true=>
  have X:oX H ⟨a,b,hx⟩=true:=kH;have p:bP H ⟨a,b,hx⟩=true:=by unfold bP;rw[X];rfl
  have g:cS H ⟨a,b,hx⟩=H:=by unfold cS;rw[p,X];rfl
  have e:cY H W ⟨a,b,hx⟩=bR W a:=by unfold cY;rw[p];rfl
  cbv;refine(kY (q.mono (d.t _))).mono (λv O hR=>?_);obtain⟨l,bc,cc,rfl,T⟩:=hR;cbv;refine(jW (D.mono ((d.trans l).t _)) (by omega) a).mono (λv B hR=>?_);obtain⟨c,bw,nw,cw,rfl,J⟩:=hR;have r:=(d.trans l).trans c;have F:=T.mono (c.t _);cbv;rw[L];cbv;exact⟨r,_,_,_,_,_,_,true,rfl,by rw[g];exact F.sl,by rw[e];exact J.sl,p.symm⟩
 |false=>
  cbv;refine⟨ey,?_⟩;cbv;refine(q.mono (d.t _)).load ho P.eq (λcs E=>?_);have E:cs=[.int .i64 os,.string ot,.bool false]:=E;subst E;generalize es:A .and (A .aN .eql os a) (A .and (A .kM .eql ot b) (A .and (A .uf .eql false hx) true))=us;have fs:=es;rw[hA.and,au A,eK A,hA.uf]at es;have G:oX H ⟨a,b,hx⟩=us:=by rw[kH,<-es];simp only[Qh,kXc,kXD,uf];cases hx<;>rfl
  cbv;rw[fs];cases us with
  |true=>
   have X:=G;have p:bP H ⟨a,b,hx⟩=true:=by unfold bP;rw[X];rfl
   have g:cS H ⟨a,b,hx⟩=H:=by unfold cS;rw[p,X];rfl
   have e:cY H W ⟨a,b,hx⟩=bR W a:=by unfold cY;rw[p];rfl
   cbv;refine(kY (q.mono (d.t _))).mono (λv O hR=>?_);obtain⟨l,bc,cc,rfl,T⟩:=hR;cbv;refine(jW (D.mono ((d.trans l).t _)) (by omega) a).mono (λv B hR=>?_);obtain⟨c,bw,nw,cw,rfl,J⟩:=hR;have r:=(d.trans l).trans c;have F:=T.mono (c.t _);cbv;rw[L];cbv;exact⟨r,_,_,_,_,_,_,true,rfl,by rw[g];exact F.sl,by rw[e];exact J.sl,p.symm⟩
  |false=>
   cbv;refine(CW (q.mono (d.t _)) ⟨a,b,hx⟩).mono (λv h2 hR=>?_);obtain⟨l2,tc,rfl,Y⟩:=hR;have f:=d.trans l2;have kF:bP H ⟨a,b,hx⟩= !tc:=by unfold bP;rw[G,Y];rfl
   cases tc with
   |true=>
    have p:bP H ⟨a,b,hx⟩=false:=kF;have g:cS H ⟨a,b,hx⟩=H:=by unfold cS;rw[p];rfl
    have e:cY H W ⟨a,b,hx⟩=bR W a++[⟨a,b,hx⟩]:=by unfold cY;rw[p];rfl
    cbv;rw[L];cbv;refine(kY (q.mono (f.t _))).mono (λv O hR=>?_);obtain⟨l,bc,cc,rfl,T⟩:=hR;cbv;refine(jW (D.mono ((f.trans l).t _)) (by omega) a).mono (λv B hR=>?_);obtain⟨c,bw,nw,cw,rfl,J⟩:=hR;have r:=(f.trans l).trans c;have F:=T.mono (c.t _);cbv;rw[QH];cbv;intro K k I w;have n:Le B k:=by rw[w];exact Le.set I
    have g5:=(congrFun w K).trans ae;cbv;intro S h6 V y;have j:Le k h6:=by rw[y];exact Le.set V
    have g6:=(congrFun y S).trans ae;have M:([bR W a,[⟨a,b,hx⟩]]:List (List bU)).flatten=bR W a++[⟨a,b,hx⟩]:=by simp
    have U:(bR W a++[(⟨a,b,hx⟩:bU)]).length<=2^38:=by have h1:(bR W a).length<=W.length:=jKe _ _;have h2:=D.len;simp only[cy,qA];omega
    cbv;refine(Cy (oN (s:=vA 253 bu) rfl g6 (Ck (J.sl.mono ((n.trans j).t _))) (Ck (bf (s:=bu) (j _ _ g5) (x:=⟨a,b,hx⟩) rfl))) (by rw[M];exact U)).mono (λv h7 hR=>?_);obtain⟨l7,b7,n7,c7,rfl,C⟩:=hR;rw[M]at C;have Q:=(n.trans j).trans l7;cbv;exact⟨r.trans Q,_,_,_,_,_,_,false,rfl,by rw[g];exact F.sl.mono (Q.t _),by rw[e];exact C.sl,p.symm⟩
   |false=>
    have p:bP H ⟨a,b,hx⟩=true:=kF;have g:cS H ⟨a,b,hx⟩=H.set i ⟨a,b,hx⟩:=by unfold cS;rw[p,G];unfold nD;rw[hf];rfl
    have e:cY H W ⟨a,b,hx⟩=bR W a:=by unfold cY;rw[p];rfl
    cbv;rw[QH];cbv;refine(kY (q.mono (f.t _))).mono (λv O hR=>?_);obtain⟨l,bc,cc,rfl,T⟩:=hR;cbv;refine(jW (D.mono ((f.trans l).t _)) (by omega) a).mono (λv B hR=>?_);obtain⟨c,bw,nw,cw,rfl,J⟩:=hR;have r:=(f.trans l).trans c;have F:=T.mono (c.t _);obtain⟨K,rfl,I,ag,oc⟩:=F.own (by omega);have aU:i<H.length:=(ff.1 ho).1;have GA:u<=cc:=(T.sl).bound.2;have YF:(some (⟨K,0,none⟩:Addr)).isSome=true/\0<=z/\z<(u:Int):=⟨rfl,P.ix ab⟩;cbv;rw[L];cbv;rw[lJ];cbv;refine⟨YF,?_⟩;cbv;refine oc.setAt (by decide) (i:=i) (by omega) P.eq rfl (x:=⟨a,b,hx⟩) rfl (λk k5 t5 o5=>?_);have n:Le h k:=r.aV (by simpa using f.none I) k5;have fC:O K≠none:=by obtain⟨al,e1,-,-,o3⟩:=T.own (by omega);cases e1;exact o3.has
    have lw:=(J.kp k5 (by simpa using fC) (t5 _ (by decide))).sl;cbv;exact⟨n,_,_,_,_,_,_,true,rfl,by rw[g];exact o5.sl (by rw[nM];exact ag),by rw[e];exact lw,p.symm⟩
end Go.S
