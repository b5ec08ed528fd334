import Derived.Test.YtifjeceolckgaaaGreatDB
set_option linter.all false
set_option maxRecDepth 100000
namespace Go.S
open Go.Sx Go.Proofs
variable {only:Bool}{key z:Int}{L:List (List Row)}{rows:List Row}{cols:List cK}{H W xs:List cg}{C c cap k m n o:Nat}{b:Option Addr}{r:Row}{h:ad}{hd:cg}
theorem po{len:Nat}(q:Sl 201 bG h (.slice b len cap) xs):
 Ct 110 [.slice b len cap] h (λv h'=>Le h h'/\∃d j,v=.slice d len j/\cF 201 bG h h' (.slice d len j) xs):=by
 refine mQx gZe Tryz.func110 λA m=>?_;cbv;refine bh (λa=>?_) (λa=>?_)
 .rw[m.HO]at a;cbv;have n:b=none:=by cases b<;>simp at a |-
  subst n;have o:len=0:=by
   rcases mXI len with e|e
   .exact e
   have:=q.aT e;cases this
  have:=q.len;have hx:xs=[]:=mXd (by omega);subst hx o;exact⟨Le.refl _,none,0,rfl,cF.nil⟩
 cbv;intro u k r W;have l:Le h k:=by rw[W];exact Le.set r
 cbv;refine dz (q.mono (l.t _)) (by simp[bG]) rfl (by decide) (λp=>?_) (λw c t f s g i=>?_)
 .cbv;have:=q.len;have hx:xs=[]:=mXd (by omega);subst hx p;exact⟨l,_,_,rfl,cF.nil⟩
 cbv;exact⟨l.trans g,_,_,rfl,i.buf (l.none f) q.len⟩
theorem EC{xs:List cK}{len:Nat}(q:Sl 155 bI h (.slice b len cap) xs):
 Ct 155 [.slice b len cap] h (λv h'=>Le h h'/\∃d j,v=.slice d len j/\cF 155 bI h h' (.slice d len j) xs):=by
 refine mQx gXE Tryz.func155 λA m=>?_;cbv;refine bh (λa=>?_) (λa=>?_)
 .rw[m.HO]at a;cbv;have n:b=none:=by cases b<;>simp at a |-
  subst n;have o:len=0:=by
   rcases mXI len with e|e
   .exact e
   have:=q.aT e;cases this
  have:=q.len;have hx:xs=[]:=mXd (by omega);subst hx o;exact⟨Le.refl _,none,0,rfl,cF.nil⟩
 cbv;intro u k r W;have l:Le h k:=by rw[W];exact Le.set r
 cbv;refine dz (q.mono (l.t _)) (by simp[bI]) rfl (by decide) (λp=>?_) (λw c t f s g i=>?_)
 .cbv;have:=q.len;have hx:xs=[]:=mXd (by omega);subst hx p;exact⟨l,_,_,rfl,cF.nil⟩
 cbv;exact⟨l.trans g,_,_,rfl,i.buf (l.none f) q.len⟩
theorem mU{xs:List cO}{len:Nat}(q:Sl 86 bq h (.slice b len cap) xs):
 Ct 75 [.slice b len cap] h (λv h'=>Le h h'/\∃d j,v=.slice d len j/\cF 86 bq h h' (.slice d len j) xs):=by
 refine mQx jKh Tryz.func75 λA m=>?_;cbv;refine bh (λa=>?_) (λa=>?_)
 .rw[m.HO]at a;cbv;have n:b=none:=by cases b<;>simp at a |-
  subst n;have o:len=0:=by
   rcases mXI len with e|e
   .exact e
   have:=q.aT e;cases this
  have:=q.len;have hx:xs=[]:=mXd (by omega);subst hx o;exact⟨Le.refl _,none,0,rfl,cF.nil⟩
 cbv;intro u k r W;have l:Le h k:=by rw[W];exact Le.set r
 cbv;refine dz (q.mono (l.t _)) (by simp[bq]) rfl (by decide) (λp=>?_) (λw c t f s g i=>?_)
 .cbv;have:=q.len;have hx:xs=[]:=mXd (by omega);subst hx p;exact⟨l,_,_,rfl,cF.nil⟩
 cbv;exact⟨l.trans g,_,_,rfl,i.buf (l.none f) q.len⟩
abbrev cg.v(h:cg):Value:=.agg #[.int .i64 h.s,.string h.table,.bool h.x]
def eL(a b:cg):Bool:=decide (a.s≠b.s)&&(decide (a.table=b.table)&&(a.x||b.x))
def bX(l:List cg)(s:Int):List cg:=l.filter λh=>decide (h.s≠s)
def jJ(h o:cg):Bool:=decide (o.s=h.s)&&decide (o.table=h.table)
theorem bKF{s1:Int}{a:ByteArray}{x:Bool}(g:h n=some (.cells #[.int .i64 hd.s,.string hd.table,.bool hd.x] 201 (0,0))):
 Ct 313 [.agg #[.int .i64 s1,.string a,.bool x],.pointer (some ⟨n,0,none⟩)] h (λv h'=>Le h h'/\∃t,v=.bool t/\t=jJ hd ⟨s1,a,x⟩):=by
 obtain⟨A,c⟩:=Ar.ex;have q:A .aI .eql s1 hd.s=decide (s1=hd.s):=by rw[aA A]
 have b:A .iQ .eql a hd.table=decide (a=hd.table):=by rw[cS A]
 refine mQF fKu A Tryz.func313 ?_;cbv;rw[ai A];refine mQw g ?_;cbv;rw[q];cases e:decide (s1=hd.s)with
 |true=>cbv;rw[ai A];refine mQw g ?_;cbv;rw[b];exact⟨Le.refl _,_,rfl,by simp[jJ,e]⟩
 |false=>cbv;exact⟨Le.refl _,_,rfl,by simp[jJ,e]⟩
theorem IX{a b:cg}:
 Ct 295 [.agg #[.int .i64 a.s,.string a.table,.bool a.x],.agg #[.int .i64 b.s,.string b.table,.bool b.x]] h (λv h'=>Le h h'/\∃t,v=.bool t/\t=eL a b):=by
 obtain⟨A,i⟩:=Ar.ex;obtain⟨s1,d,x⟩:=a;obtain⟨s2,f,j⟩:=b;have q:A .aI .neq s1 s2=decide (s1≠s2):=by rw[aC A]
 have g:A .iQ .eql d f=decide (d=f):=by rw[cS A]
 refine mQF fKG A Tryz.func295 ?_;cbv;rw[q];cases e:decide (s1≠s2)with
 |true=>
  cbv;rw[g];cases c:decide (d=f)with
  |true=>
   cases x with
   |true=>cbv;exact⟨Le.refl _,_,rfl,by simp[eL,e,c]⟩
   |false=>cbv;exact⟨Le.refl _,_,rfl,by simp[eL,e,c]⟩
  |false=>cbv;exact⟨Le.refl _,_,rfl,by simp[eL,e,c]⟩
 |false=>cbv;exact⟨Le.refl _,_,rfl,by simp[eL,e]⟩
theorem cQq{len:Nat}(q:Sl 201 bG h (.slice b len cap) xs)(g:h o=some (.cells #[.int .i64 hd.s,.string hd.table,.bool hd.x] 201 (0,0))):
 Ct 312 [.slice b len cap,.func (.func 313) #[] #[.pointer (some ⟨o,0,none⟩)]] h (λv h'=>Le h h'/\∃z:Int,v=.int .i64 z/\vg xs (jJ hd) z):=by
 have m:=q.len;obtain⟨Y,C⟩:=q.bound;generalize r:(jJ hd)=p;refine mQx fKv Tryz.func312 λA u=>?_;cbv;refine aX.go (G:=Int) (λz=>[(8,.v (.int .i64 z))]) (λ_=>[]) (λn z h'=>∃i:Nat,aS z i/\n=len-i/\i<=len/\Le h h'/\∀j,j<i->∀y,xs[j]? =some y->p y=false) len 0 (by constructor<;>cbv) ⟨0,⟨rfl⟩,by omega,by omega,Le.refl _,λj d=>(by omega)⟩ ?_
 intro n z h' I;cbv;obtain⟨i,a,B,w,l,V⟩:=I;refine bh (λc=>?_) (λc=>?_)
 .have P:=a.lt c;clear c;cbv;obtain⟨x,hx⟩:=mQA xs i;refine⟨⟨q.aT,a.ix P⟩,?_⟩;cbv;refine(q.mono (l.t _)).load hx a.eq (λcs f=>?_);have f:cs=[.int .i64 x.s,.string x.table,.bool x.x]:=f;subst f;cbv;refine(bKF (l _ _ g)).mono (λv s hR=>?_);obtain⟨E,t,rfl,e⟩:=hR;have e:t=p x:=by rw[<-r];exact e
  cbv;cases t with
  |true=>cbv;exact⟨l.trans E,z,rfl,⟨.inr ⟨i,x,a,hx,e.symm,V⟩⟩⟩
  |false=>
   cbv;refine⟨len-(i+1),_,by omega,by constructor<;>cbv,i+1,a.succ (A:=A),rfl,by omega,l.trans E,?_⟩
   intro j d y k;rcases mXi j i with h|h
   .exact V j h y k
   have:j=i:=by omega
   subst this;rw[hx]at k;cases k;exact e.symm
 have N:=a.ge c;cbv;refine⟨l,-1,rfl,⟨.inl ⟨rfl,λx hx=>?_⟩⟩⟩;obtain⟨j,d⟩:=mXh hx;have:=(mQB.1 d).1;exact V j (by omega) x d
theorem cQr{len:Nat}(q:Sl 201 bG h (.slice b len cap) xs)(hd:cg):
 Ct 312 [.slice b len cap,.func (.func 295) #[.agg #[.int .i64 hd.s,.string hd.table,.bool hd.x]] #[]] h (λv h'=>Le h h'/\∃z:Int,v=.int .i64 z/\vg xs (eL hd) z):=by
 have m:=q.len;obtain⟨Y,B⟩:=q.bound;generalize o:(eL hd)=p;refine mQx fKv Tryz.func312 λA s=>?_;cbv;refine aX.go (G:=Int) (λz=>[(8,.v (.int .i64 z))]) (λ_=>[]) (λn z h'=>∃i:Nat,aS z i/\n=len-i/\i<=len/\Le h h'/\∀j,j<i->∀y,xs[j]? =some y->p y=false) len 0 (by constructor<;>cbv) ⟨0,⟨rfl⟩,by omega,by omega,Le.refl _,λj e=>(by omega)⟩ ?_
 intro n z h' I;cbv;obtain⟨i,c,w,u,l,V⟩:=I;refine bh (λd=>?_) (λd=>?_)
 .have P:=c.lt d;clear d;cbv;obtain⟨x,hx⟩:=mQA xs i;refine⟨⟨q.aT,c.ix P⟩,?_⟩;cbv;refine(q.mono (l.t _)).load hx c.eq (λcs g=>?_);have g:cs=[.int .i64 x.s,.string x.table,.bool x.x]:=g;subst g;cbv;refine(IX (a:=hd) (b:=x)).mono (λv r hR=>?_);obtain⟨E,t,rfl,f⟩:=hR;have f:t=p x:=by rw[<-o];exact f
  cbv;cases t with
  |true=>cbv;exact⟨l.trans E,z,rfl,⟨.inr ⟨i,x,c,hx,f.symm,V⟩⟩⟩
  |false=>
   cbv;refine⟨len-(i+1),_,by omega,by constructor<;>cbv,i+1,c.succ (A:=A),rfl,by omega,l.trans E,?_⟩
   intro j e y k;rcases mXi j i with h|h
   .exact V j h y k
   have:j=i:=by omega
   subst this;rw[hx]at k;cases k;exact f.symm
 have N:=c.ge d;cbv;refine⟨l,-1,rfl,⟨.inl ⟨rfl,λx hx=>?_⟩⟩⟩;obtain⟨j,e⟩:=mXh hx;have:=(mQB.1 e).1;exact V j (by omega) x e
theorem bKG{a:Option Addr}{d:Nat}(q:Sl 201 bG h (.slice b n c) H)(hd:cg):
 Ct 293 [.agg #[.slice b n c,.slice a k d],.agg #[.int .i64 hd.s,.string hd.table,.bool hd.x]] h (λv h'=>Le h h'/\∃z:Int,v=.int .i64 z/\vg H (jJ hd) z):=by
 refine mQx fKI Tryz.func293 λA p=>?_;cbv;intro m f Y e;have l:Le h f:=by rw[e];exact Le.set Y
 have g:=(congrFun e m).trans ae;cbv;refine(cQq (q.mono (l.t _)) g).mono (λv o hR=>?_);obtain⟨j,z,rfl,i⟩:=hR;cbv;exact⟨l.trans j,z,rfl,i⟩
theorem Fh(q:Sl 201 bG h (.slice b n c) H)(hd:cg):
 Ct 294 [.slice b n c,.func (.func 295) #[.agg #[.int .i64 hd.s,.string hd.table,.bool hd.x]] #[]] h (λv h'=>Le h h'/\∃t:Bool,v=.bool t/\t=H.any (eL hd)):=by
 refine mQx fKH Tryz.func294 λA g=>?_;cbv;refine(cQr q hd).mono (λv d hR=>?_);obtain⟨l,z,rfl,f⟩:=hR;cbv;refine⟨l,_,rfl,?_⟩;rw[cf A];rcases f.out with⟨rfl,a⟩|⟨i,x,a,d,e,-⟩
 .rw[eq_comm];simpa using a
 have:=a.eq;rw[mQu (by omega),eq_comm,mJf];exact⟨x,mQz d,e⟩
theorem kZ(q:Sl 201 bG h (.slice b n c) H)(T:n<=2^38)(s:Int):
 Ct 207 [.slice b n c,.int .i64 s] h (λv h'=>Le h h'/\∃e C c',v=.slice e C c'/\cF 201 bG h h' (.slice e C c') (bX H s)):=by
 have B:=q.len;refine mQx gQR Tryz.func207 λA O=>?_;cbv;refine aX.go (G:=Int×Option Addr×Nat×Nat) (λg=>[(10,.v (.int .i64 g.1)),(5,.v (.slice g.2.1 g.2.2.1 g.2.2.2))]) (λ_=>[])
  (λk g h'=>∃i:Nat,aS g.1 i/\k=n-i/\i<=n/\Le h h'/\cF 201 bG h h' (.slice g.2.1 g.2.2.1 g.2.2.2) (bX (H.take i) s)) n (0,none,0,0) ⟨?_,?_,?_⟩ ⟨0,⟨rfl⟩,by omega,by omega,Le.refl _,cF.nil⟩ ?_
 .cbv
 .cbv
 .cbv
 intro k g h' I;cbv;obtain⟨i,a,R,Q,l,d⟩:=I;obtain⟨z,t,p,u⟩:=g;have a:aS z i:=a;have d:cF 201 bG h h' (.slice t p u) (bX (H.take i) s):=d;refine bh (λj=>?_) (λj=>?_)
 .have P:=a.lt j;clear j;cbv;obtain⟨x,hx⟩:=mQA H i;refine⟨⟨q.aT,a.ix P⟩,?_⟩;cbv;refine(q.mono (l.t _)).load hx a.eq (λcs y=>?_);have y:cs=[.int .i64 x.s,.string x.table,.bool x.x]:=y;subst y;have K:A .aI .neq x.s s=decide (x.s≠s):=by rw[aC A]
  have M:p<=i:=by have:=d.sl.len;rw[this];refine mXT (mZd _ _) ?_;rw[mQK];omega
  cbv;rw[K];cases f:decide (x.s≠s)with
  |true=>
   cbv;intro J w Y r;have o:Le h' w:=by rw[r];exact Le.set Y
   have E:=(congrFun r J).trans ae;cbv;refine(d.mono (o.t _)).append (bA (s:=bG) E (x:=x) rfl) (by decide) rfl (by decide) (by omega) (l.trans o) (λm e c' N S F W U L=>?_);cbv;refine⟨n-(i+1),(_,e,m,c'),by omega,by constructor<;>cbv,i+1,a.succ (A:=A),rfl,by omega,F,?_⟩
   have:bX (H.take (i+1)) s=bX (H.take i) s++[x]:=by rw[mXt,hx];unfold bX;rw[mZq];simp[f];simpa using f
   rw[this];exact L
  |false=>
   cbv;refine⟨n-(i+1),(_,t,p,u),by omega,by constructor<;>cbv,i+1,a.succ (A:=A),rfl,by omega,l,?_⟩
   have:bX (H.take (i+1)) s=bX (H.take i) s:=by rw[mXt,hx];unfold bX;rw[mZq];simp[f];simpa using f
   rw[this];exact d
 have V:=a.ge j;cbv;refine(po d.sl).mono (λv w hR=>?_);obtain⟨o,e,c',rfl,D⟩:=hR;cbv;refine⟨l.trans o,_,_,_,rfl,?_⟩;rw[mXa (by omega)]at D;exact D.base l
theorem cXq(d:aS z m)(n:m<=2^38):
 Ct 314 [.slice none 0 0,.int .i64 z] h (λv h'=>Le h h'/\∃b c',v=.slice b 0 c'/\cF 201 bG h h' (.slice b 0 c') ([]:List cg)):=by
 obtain⟨A,j⟩:=Ar.ex;have h0:aS (A .nat 0) 0:=aS.nat 0;have a:=d.sub (A:=A) (h0.sub (A:=A) h0 (by omega) (by omega)) (by omega) (by omega);simp only[mJC,mXK]at a;refine mQF fKt A Tryz.func314 ?_;cbv;rw[d.Ed (A:=A)];cbv;generalize e:A .aI .gtr (A .bB .sub .i64 z (A .bB .sub .i64 (A .nat 0) (A .nat 0))) 0=u;generalize f:A .bB .sub .i64 z (A .bB .sub .i64 (A .nat 0) (A .nat 0))=w at a e;rw[bO A]at e;cases u with
 |true=>
  have p:=mQL e;have R:0<m:=by have:=a.eq;omega
  cbv;have M:(0:Int)<=A .nat 0/\A .nat 0<=((0:Nat):Int):=by have:=h0.eq;omega
  refine⟨M,?_⟩;cbv;refine⟨yy a (by omega) (by decide),?_⟩;cbv;rw[fh (A:=A) a,fh (A:=A) h0];refine pU (s:=bG) (xs:=([]:List cg)) Sl.nil (by omega) rfl (by decide) (by omega) rfl rfl (λq c i g l k o=>?_);rw[mXj];have J:(0:Int)<=A .nat 0/\A .nat 0<=((c:Nat):Int):=by have:=h0.eq;omega
  cbv;refine⟨J,?_⟩;cbv;rw[fh (A:=A) h0,Da (A:=A)];exact⟨l,_,_,rfl,o.buf g rfl⟩
 |false=>cbv;exact⟨Le.refl _,_,_,rfl,cF.nil⟩
theorem Ez{L:List (List cg)}(q:Sl 28 (mW 201 bG) h (.slice b n c) L)(Q:L.flatten.length<=2^38):
 Ct 296 [.slice b n c] h (λv h'=>Le h h'/\∃o C c',v=.slice o C c'/\cF 201 bG h h' (.slice o C c') L.flatten):=by
 have B:=q.len;obtain⟨lY,jq⟩:=q.bound;refine mQx nZR Tryz.func296 λA hA=>?_;cbv;refine aX.go (G:=Int×Int) (λg=>[(11,.v (.int .i64 g.1)),(3,.v (.int .i64 g.2))]) (λ_=>[])
  (λk g h'=>∃i:Nat,aS g.1 i/\k=n-i/\i<=n/\h'=h/\aS g.2 (L.take i).flatten.length) n (0,0) ⟨?_,?_,?_⟩ ⟨0,⟨rfl⟩,by omega,by omega,rfl,⟨rfl⟩⟩ ?_
 .cbv
 .cbv
 .cbv
 intro k g h' I;cbv;obtain⟨i,a,O,M,rfl,j⟩:=I;refine bh (λd=>?_) (λd=>?_)
 .have P:=a.lt d;clear d;cbv;obtain⟨x,hx⟩:=mQA L i;refine⟨⟨q.aT,a.ix P⟩,?_⟩;cbv;refine q.load hx a.eq (λcs y=>?_);obtain⟨v,rfl,f⟩:=y;obtain⟨s,r,t,rfl⟩:=f.form;have E:=f.len;have l:=zC L (i+1);rw[lH hx,mQy,<-E]at l;have D:=j.add (A:=A) (aS.nat (A:=A) r) (by omega);have N:=lH hx;cbv;rw[D.Ed (A:=A)];cbv;refine⟨n-(i+1),(_,A .bB .add .i64 g.2 (A .nat r)),by omega,by constructor<;>cbv,i+1,a.succ (A:=A),rfl,by omega,rfl,?_⟩
  .rw[N,mQy,<-E];exact D
 have S:=a.ge d;have Z:i=n:=by omega
 rw[mXa (by omega)]at j;obtain⟨z,w⟩:=g;have j:aS w L.flatten.length:=j;cbv;refine(cXq j Q).mono (λv X hR=>?_);obtain⟨r,s,t,rfl,e⟩:=hR;cbv;refine aX.go (G:=Int×Option Addr×Nat×Nat) (λg=>[(27,.v (.int .i64 g.1)),(6,.v (.slice g.2.1 g.2.2.1 g.2.2.2))]) (λ_=>[])
  (λk g p=>∃i:Nat,aS g.1 i/\k=n-i/\i<=n/\Le h' p/\cF 201 bG h' p (.slice g.2.1 g.2.2.1 g.2.2.2) (L.take i).flatten) n (0,s,0,t) ⟨?_,?_,?_⟩ ⟨0,⟨rfl⟩,by omega,by omega,r,e⟩ ?_
 .cbv
 .cbv
 .cbv
 intro k g p I;cbv;obtain⟨i,a,O,M,l,e⟩:=I;obtain⟨z,J,u,K⟩:=g;have a:aS z i:=a;have e:cF 201 bG h' p (.slice J u K) (L.take i).flatten:=e;refine bh (λd=>?_) (λd=>?_)
 .have P:=a.lt d;clear d;cbv;obtain⟨x,hx⟩:=mQA L i;refine⟨⟨q.aT,a.ix P⟩,?_⟩;cbv;refine(q.mono (l.t _)).load hx a.eq (λcs y=>?_);obtain⟨v,rfl,f⟩:=y;obtain⟨V,l2,W,rfl⟩:=f.form;have T:=f.len;have F:u=(L.take i).flatten.length:=e.sl.len;have H:=zC L (i+1);have N:=lH hx;rw[N,mQy,<-T,<-F]at H;cbv;refine e.append f (by decide) rfl (by decide) (by omega) l (λm o c' Y hm R t3 k3 U=>?_);cbv;refine⟨n-(i+1),(_,o,m,c'),by omega,by constructor<;>cbv,i+1,a.succ (A:=A),rfl,by omega,R,?_⟩
  .rw[N];exact U
 have S:=a.ge d;cbv;rw[mXa (by omega)]at e;exact⟨l,_,_,_,rfl,e⟩
theorem cXp(d:aS z m)(n:m<=2^38):
 Ct 292 [.slice none 0 0,.int .i64 z] h (λv h'=>Le h h'/\∃b c',v=.slice b 0 c'/\cF 84 aD h h' (.slice b 0 c') ([]:List Row)):=by
 obtain⟨A,j⟩:=Ar.ex;have h0:aS (A .nat 0) 0:=aS.nat 0;have a:=d.sub (A:=A) (h0.sub (A:=A) h0 (by omega) (by omega)) (by omega) (by omega);simp only[mJC,mXK]at a;refine mQF nZS A Tryz.func292 ?_;cbv;rw[d.Ed (A:=A)];cbv;generalize e:A .aI .gtr (A .bB .sub .i64 z (A .bB .sub .i64 (A .nat 0) (A .nat 0))) 0=u;generalize f:A .bB .sub .i64 z (A .bB .sub .i64 (A .nat 0) (A .nat 0))=w at a e;rw[bO A]at e;cases u with
 |true=>
  have p:=mQL e;have R:0<m:=by have:=a.eq;omega
  cbv;have M:(0:Int)<=A .nat 0/\A .nat 0<=((0:Nat):Int):=by have:=h0.eq;omega
  refine⟨M,?_⟩;cbv;refine⟨yy a (by omega) (by decide),?_⟩;cbv;rw[fh (A:=A) a,fh (A:=A) h0];refine pU (s:=aD) (xs:=([]:List Row)) Sl.nil (by omega) rfl (by decide) (by omega) rfl rfl (λq c i g l k o=>?_);rw[mXj];have J:(0:Int)<=A .nat 0/\A .nat 0<=((c:Nat):Int):=by have:=h0.eq;omega
  cbv;refine⟨J,?_⟩;cbv;rw[fh (A:=A) h0,Da (A:=A)];exact⟨l,_,_,rfl,o.buf g rfl⟩
 |false=>cbv;exact⟨Le.refl _,_,_,rfl,cF.nil⟩
theorem ZA(q:Sl 34 (mW 84 aD) h (.slice b n c) L)(Q:L.flatten.length<=2^38):
 Ct 265 [.slice b n c] h (λv h'=>Le h h'/\∃o C c',v=.slice o C c'/\cF 84 aD h h' (.slice o C c') L.flatten):=by
 have B:=q.len;obtain⟨lY,jq⟩:=q.bound;refine mQx gQb Tryz.func265 λA hA=>?_;cbv;refine aX.go (G:=Int×Int) (λg=>[(11,.v (.int .i64 g.1)),(3,.v (.int .i64 g.2))]) (λ_=>[])
  (λk g h'=>∃i:Nat,aS g.1 i/\k=n-i/\i<=n/\h'=h/\aS g.2 (L.take i).flatten.length) n (0,0) ⟨?_,?_,?_⟩ ⟨0,⟨rfl⟩,by omega,by omega,rfl,⟨rfl⟩⟩ ?_
 .cbv
 .cbv
 .cbv
 intro k g h' I;cbv;obtain⟨i,a,O,M,rfl,j⟩:=I;refine bh (λd=>?_) (λd=>?_)
 .have P:=a.lt d;clear d;cbv;obtain⟨x,hx⟩:=mQA L i;refine⟨⟨q.aT,a.ix P⟩,?_⟩;cbv;refine q.load hx a.eq (λcs y=>?_);obtain⟨v,rfl,f⟩:=y;obtain⟨s,r,t,rfl⟩:=f.form;have E:=f.len;have l:=zC L (i+1);rw[lH hx,mQy,<-E]at l;have D:=j.add (A:=A) (aS.nat (A:=A) r) (by omega);have N:=lH hx;cbv;rw[D.Ed (A:=A)];cbv;refine⟨n-(i+1),(_,A .bB .add .i64 g.2 (A .nat r)),by omega,by constructor<;>cbv,i+1,a.succ (A:=A),rfl,by omega,rfl,?_⟩
  .rw[N,mQy,<-E];exact D
 have S:=a.ge d;have Z:i=n:=by omega
 rw[mXa (by omega)]at j;obtain⟨z,w⟩:=g;have j:aS w L.flatten.length:=j;cbv;refine(cXp j Q).mono (λv X hR=>?_);obtain⟨r,s,t,rfl,e⟩:=hR;cbv;refine aX.go (G:=Int×Option Addr×Nat×Nat) (λg=>[(27,.v (.int .i64 g.1)),(6,.v (.slice g.2.1 g.2.2.1 g.2.2.2))]) (λ_=>[])
  (λk g p=>∃i:Nat,aS g.1 i/\k=n-i/\i<=n/\Le h' p/\cF 84 aD h' p (.slice g.2.1 g.2.2.1 g.2.2.2) (L.take i).flatten) n (0,s,0,t) ⟨?_,?_,?_⟩ ⟨0,⟨rfl⟩,by omega,by omega,r,e⟩ ?_
 .cbv
 .cbv
 .cbv
 intro k g p I;cbv;obtain⟨i,a,O,M,l,e⟩:=I;obtain⟨z,J,u,K⟩:=g;have a:aS z i:=a;have e:cF 84 aD h' p (.slice J u K) (L.take i).flatten:=e;refine bh (λd=>?_) (λd=>?_)
 .have P:=a.lt d;clear d;cbv;obtain⟨x,hx⟩:=mQA L i;refine⟨⟨q.aT,a.ix P⟩,?_⟩;cbv;refine(q.mono (l.t _)).load hx a.eq (λcs y=>?_);obtain⟨v,rfl,f⟩:=y;obtain⟨V,l2,W,rfl⟩:=f.form;have T:=f.len;have F:u=(L.take i).flatten.length:=e.sl.len;have H:=zC L (i+1);have N:=lH hx;rw[N,mQy,<-T,<-F]at H;cbv;refine e.append f (by decide) rfl (by decide) (by omega) l (λm o c' Y hm R t3 k3 U=>?_);cbv;refine⟨n-(i+1),(_,o,m,c'),by omega,by constructor<;>cbv,i+1,a.succ (A:=A),rfl,by omega,R,?_⟩
  .rw[N];exact U
 have S:=a.ge d;cbv;rw[mXa (by omega)]at e;exact⟨l,_,_,_,rfl,e⟩
def dE:Sh Int where
 n:=1
 R _ cs v:=cs=[.int .i64 v]
 len:=by rintro h cs x rfl;rfl
 one:=by rintro h cs x rfl;rfl
 tys:=[]
 mono:=λ_ q=>q
def eR(a b:Int):Int:=if decide (a<b)=true then -1 else if decide (a>b)=true then 1 else 0
def fP:List Int->Int
 | []=>0
 |x::r=>if decide (x≠0)=true then x else fP r
def bC(a b:cO):Int:=fP [eR a.k b.k,eR a.n b.n,eC a.s b.s]
def keyOf(key:Int)(r:Row):cO:=if(decide (key<0)||decide (key>=(r.length:Int)))=true then⟨0,0,⟨#[]⟩⟩else(r[key.toNat]?).getD ⟨0,0,⟨#[]⟩⟩
abbrev cO.v(x:cO):Value:=.agg #[.int .i64 x.k,.int .i64 x.n,.string x.s]
theorem Py(a:Int)(h:ad):Ct 306 [.int .i64 a] h (λv h'=>Le h h'/\v=.bool false):=by
 obtain⟨A,b⟩:=Ar.ex;have q:A .aI .neq a a=false:=by rw[aC A];simp
 refine mQF fKB A Tryz.func306 ?_;cbv;rw[q];exact⟨Le.refl _,rfl⟩
theorem bXd(a b:Int)(h:ad):Ct 279 [.int .i64 a,.int .i64 b] h (λv h'=>Le h h'/\∃z,v=.int .i64 z/\z=eR a b):=by
 refine mQx fKU Tryz.func279 λA k=>?_;cbv;refine(Py a h).mono (λv g hR=>?_);obtain⟨l,rfl⟩:=hR;cbv;refine(Py b g).mono (λv j hR=>?_);obtain⟨d,rfl⟩:=hR;cbv;generalize e:A .aI .lss a b=u;generalize c:A .aI .gtr a b=i;have f:=c;rw[bm A]at e;rw[bO A]at c;cases u with
 |true=>cbv;exact⟨l.trans d,_,rfl,by simp only[eR,e];rfl⟩
 |false=>
  cbv;rw[f];cases i with
  |true=>cbv;exact⟨l.trans d,_,rfl,by simp only[eR,e,c];rfl⟩
  |false=>cbv;exact⟨l.trans d,_,rfl,by simp only[eR,e,c];rfl⟩
theorem qY{xs:List Int}{i:Nat}(h:∀j,j<i->∀y,xs[j]? =some y->y=0):fP xs=fP (xs.drop i):=by
 induction i generalizing xs with
 |zero=>rfl
 |succ i b=>
  cases xs with
  |nil=>rfl
  |cons x r=>have hx:x=0:=h 0 (by omega) x rfl;simp only[mJB,fP,hx];rw[if_neg (by decide)];exact b (λj c y a=>h (j+1) (by omega) y (by simpa using a))
theorem eKF{xs:List Int}(q:Sl 3 dE h (.slice b n c) xs):
 Ct 278 [.slice b n c] h (λv h'=>Le h h'/\∃z,v=.int .i64 z/\z=fP xs):=by
 have l:=q.len;obtain⟨Y,s⟩:=q.bound;refine mQx fKV Tryz.func278 λA o=>?_;cbv;refine aX.go (G:=Int) (λz=>[(8,.v (.int .i64 z))]) (λ_=>[]) (λk z h'=>∃i:Nat,aS z i/\k=n-i/\i<=n/\h'=h/\∀j,j<i->∀y,xs[j]? =some y->y=0) n 0 (by constructor<;>cbv) ⟨0,⟨rfl⟩,by omega,by omega,rfl,λj m=>(by omega)⟩ ?_
 intro k z h' I;cbv;obtain⟨i,a,r,p,rfl,V⟩:=I;refine bh (λd=>?_) (λd=>?_)
 .have P:=a.lt d;clear d;cbv;obtain⟨x,hx⟩:=mQA xs i;refine⟨⟨q.aT,a.ix P⟩,?_⟩;cbv;refine q.load hx a.eq (λcs e=>?_);have e:cs=[.int .i64 x]:=e;subst e;generalize ex:A .aI .neq x 0=u;rw[aC A]at ex;have B:xs.drop i=x::xs.drop (i+1):=by rw[mQJ (by omega)];have:=(mQB.1 hx).2;rw[this]
  have f:=qY V;rw[B]at f;cbv;rw[aC A,ex];cases u with
  |true=>cbv;refine⟨Le.refl _,_,rfl,?_⟩;rw[f];simp only[fP,ex];rfl
  |false=>
   cbv;refine⟨n-(i+1),_,by omega,by constructor<;>cbv,i+1,a.succ (A:=A),rfl,by omega,rfl,?_⟩
   intro j m y g;rcases mXi j i with T|T
   .exact V j T y g
   have:j=i:=by omega
   subst this;rw[hx]at g;cases g;have:=mQO ex;exact mXc.1 this
 have N:=a.ge d;have f:=qY V;rw[mXB (by omega)]at f;cbv;exact⟨Le.refl _,_,rfl,f.symm⟩
theorem pg(a b:cO)(h:ad):Ct 241 [.agg #[.int .i64 a.k,.int .i64 a.n,.string a.s],.agg #[.int .i64 b.k,.int .i64 b.n,.string b.s]] h (λv h'=>Le h h'/\∃z,v=.int .i64 z/\z=bC a b):=by
 obtain⟨n,B,s1⟩:=a;obtain⟨o,C,s2⟩:=b;refine mQx gQt Tryz.func241 λA I=>?_;cbv;refine(bXd n o h).mono (λv j hR=>?_);obtain⟨p,E,rfl,c⟩:=hR;cbv;refine(bXd B C j).mono (λv k hR=>?_);obtain⟨q,F,rfl,d⟩:=hR;cbv;refine(bXf s1 s2 k).mono (λv l hR=>?_);obtain⟨r,G,rfl,f⟩:=hR;cbv;intro D m Y e;have t:Le l m:=by rw[e];exact Le.set Y
 have i:=(congrFun e D).trans ae;cbv;refine(eKF (GC (s:=dE) rfl i (x:=E) (y:=F) (w:=G) rfl rfl rfl)).mono (λv H hR=>?_);obtain⟨u,z,rfl,g⟩:=hR;cbv;exact⟨(((p.trans q).trans r).trans t).trans u,z,rfl,by rw[g,c,d,f];rfl⟩
theorem aJF{g i j o:Value}(q:Sl 86 bq h (.slice b n c) r):
 Ct 230 [.agg #[g,i,.int .i64 key,j,o],.slice b n c] h (λv h'=>Le h h'/\∃k:cO,v=.agg #[.int .i64 k.k,.int .i64 k.n,.string k.s]/\k=keyOf key r):=by
 obtain⟨A,p⟩:=Ar.ex;have l:=q.len;generalize a:A .aI .lss key 0=u;generalize e:A .aI .geq key (A .nat n)=t;have f:=a;have d:=e;rw[bm A]at a;rw[cf A,p.nat]at e;simp only[mQV]at e;refine mQF lZk A Tryz.func230 ?_;cbv;rw[f];cases u with
 |true=>cbv;exact⟨Le.refl _,⟨0,0,⟨#[]⟩⟩,rfl,by simp only[keyOf,a];rfl⟩
 |false=>
  cbv;rw[d];cases t with
  |true=>cbv;refine⟨Le.refl _,⟨0,0,⟨#[]⟩⟩,rfl,?_⟩;rw[l]at e;simp only[keyOf,a,e];rfl
  |false=>obtain⟨m,s⟩:=SX A f d;obtain⟨x,hx⟩:=mQA r key.toNat;cbv;refine⟨⟨q.aT,m.ix s⟩,?_⟩;cbv;refine q.load hx m.eq (λcs y=>?_);have y:cs=[.int .i64 x.k,.int .i64 x.n,.string x.s]:=y;subst y;cbv;refine⟨Le.refl _,x,rfl,?_⟩;rw[l]at e;simp only[keyOf,a,e,hx];rfl
theorem WC{d f j l:Value}(g:h k=some (.cells #[d,f,.int .i64 key,j,l] 329 (0,0)))(q:Sl 86 bq h (.slice b n c) r)(kv:cO):
 Ct 267 [.slice b n c,.agg #[.int .i64 kv.k,.int .i64 kv.n,.string kv.s],.pointer (some ⟨k,0,none⟩)] h (λv h'=>Le h h'/\∃z,v=.int .i64 z/\z=bC (keyOf key r) kv):=by
 refine mQx cZM Tryz.func267 λA t=>?_;cbv;refine mQw g ?_;cbv;refine(aJF q).mono (λv a hR=>?_);obtain⟨o,m,rfl,i⟩:=hR;cbv;refine(pg m kv a).mono (λv s hR=>?_);obtain⟨p,z,rfl,e⟩:=hR;cbv;exact⟨o.trans p,z,rfl,by rw[e,i]⟩
theorem fJO{xs:List Row}{len:Nat}(q:Sl 84 aD h (.slice b len cap) xs){M N O P:Value}(B:h C=some (.cells #[M,N,.int .i64 key,O,P] 329 (0,0)))(kv:cO):
 Ct 266 [.slice b len cap,.agg #[.int .i64 kv.k,.int .i64 kv.n,.string kv.s],.func (.func 267) #[] #[.pointer (some ⟨C,0,none⟩)]] h (λv h'=>Le h h'/\∃(z:Int) (t:Bool),v=.tuple #[.int .i64 z,.bool t]/\aQc (xs.map (λx:Row=>bC (keyOf key x) kv)) z t):=by
 have f:=q.len;obtain⟨Y,W⟩:=q.bound;have m:(xs.map (λx:Row=>bC (keyOf key x) kv)).length=len:=by simp[f]
 generalize L:xs.map (λx:Row=>bC (keyOf key x) kv)=l at m;have S:∀(i:Nat) x,xs[i]? =some x->l[i]? =some ((λx:Row=>bC (keyOf key x) kv) x):=λi x hx=>by rw[<-L];simp[hx]
 refine mQx gQa Tryz.func266 λA c=>?_;cbv;refine aX.go (G:=Int×Int) (λg=>[(9,.v (.int .i64 g.1)),(10,.v (.int .i64 g.2))]) (λ_=>[(4,[.int .i64 kv.k,.int .i64 kv.n,.string kv.s])])
  (λn g h'=>∃i j:Nat,aS g.1 i/\aS g.2 j/\n=j-i/\i<=j/\j<=len/\Le h h'/\uc l 0 len=uc l i j) len (0,A .nat len) ⟨?_,?_,?_⟩ ⟨0,len,⟨rfl⟩,⟨by rw[c.nat];rfl⟩,by omega,by omega,by omega,Le.refl _,rfl⟩ ?_
 .cbv
 .cbv
 .cbv
 intro n g h' J;cbv;obtain⟨i,j,a,p,T,H,X,e,K⟩:=J;refine bh (λd=>?_) (λd=>?_)
 .rw[a.iJ (A:=A) p,mQR]at d;cbv;refine⟨by decide,?_⟩;cbv;have r:=a.bKH (A:=A) p (by omega) (by omega);obtain⟨x,hx⟩:=aE (xs:=xs) (i:=(i+j) / 2) (by omega);refine⟨⟨q.aT,r.ix (by omega)⟩,?_⟩;cbv;refine(q.mono (e.t _)).load hx r.eq (λcs y=>?_);obtain⟨v,rfl,k⟩:=y;obtain⟨D,R,F,rfl⟩:=k.form;cbv;refine(WC (e _ _ B) k kv).mono (λv I hR=>?_);obtain⟨E,z,rfl,u⟩:=hR;cbv;have s:l.getD ((i+j) / 2) 0=z:=by rw[mXE,S _ _ hx,u];rfl
  have U:=K;rw[uc.eq_1 l i j,if_pos d,s]at U;refine bh (λo=>?_) (λo=>?_)
  .rw[c.aI]at o;have Q:z<0:=mQL o;rw[if_pos Q]at U;clear o Q;cbv;refine⟨j-((i+j) / 2+1),(_,g.2),by omega,by constructor<;>cbv,(i+j) / 2+1,j,r.succ (A:=A),p,rfl,by omega,X,e.trans E,U⟩
  rw[c.aI]at o;have Q:¬z<0:=mQO o;rw[if_neg Q]at U;clear o Q;cbv;refine⟨(i+j) / 2-i,(g.1,A .conv .i64 (A .bB .shr .u64 (A .conv .u64 (A .bB .add .i64 g.1 g.2)) 1)),by omega,by constructor<;>cbv,i,(i+j) / 2,a,r,rfl,by omega,by omega,e.trans E,U⟩
 rw[a.iJ (A:=A) p,decide_eq_false_iff_not]at d;cbv;have U:=K;rw[uc.eq_1 l i j,if_neg d]at U;have V:=a.iJ (A:=A) (w:=A .nat len) (j:=len) ⟨by rw[c.nat];rfl⟩;refine bh (λo=>?_) (λo=>?_)
 .rw[o];rw[V,mQR]at o;cbv;obtain⟨x,hx⟩:=mQA xs i;refine⟨⟨q.aT,a.ix (by omega)⟩,?_⟩;cbv;refine(q.mono (e.t _)).load hx a.eq (λcs y=>?_);obtain⟨v,rfl,k⟩:=y;obtain⟨D,R,F,rfl⟩:=k.form;cbv;refine(WC (e _ _ B) k kv).mono (λv I hR=>?_);obtain⟨E,z,rfl,u⟩:=hR;cbv;refine⟨e.trans E,_,_,rfl,⟨i,a,?_,?_⟩⟩
  .rw[m];exact U.symm
  rw[c.aI];have s:l.getD i 0=z:=by rw[mXE,S _ _ hx,u];rfl
  rw[s,m];simp[aI,o];rfl
 rw[o];rw[V,decide_eq_false_iff_not]at o;cbv;refine⟨e,_,_,rfl,⟨i,a,?_,?_⟩⟩
 .rw[m];exact U.symm
 rw[m];simp[o]
theorem WD{a d f:Value}(q:Sl 84 aD h (.slice b n c) rows)(kv:cO):
 Ct 229 [.agg #[a,d,.int .i64 key,f,.slice b n c],.agg #[.int .i64 kv.k,.int .i64 kv.n,.string kv.s]] h (λv h'=>Le h h'/\∃z t,v=.tuple #[.int .i64 z,.bool t]/\aQc (rows.map λr=>bC (keyOf key r) kv) z t):=by
 refine mQx lZl Tryz.func229 λA p=>?_;cbv;intro m i Y e;have l:Le h i:=by rw[e];exact Le.set Y
 have g:=(congrFun e m).trans ae;cbv;rw[ai A];rw[ai A];refine mQw g ?_;cbv;refine(fJO (q.mono (l.t _)) g kv).mono (λv o hR=>?_);obtain⟨k,z,t,rfl,j⟩:=hR;cbv;exact⟨l.trans k,z,t,rfl,j⟩
def pT(v:cO):cO:=if decide (v.k=3)=true then⟨v.k,0,v.s⟩else if decide (v.k=1)=true then⟨v.k,v.n,⟨#[]⟩⟩else if decide (v.k=2)=true then⟨v.k,v.n,⟨#[]⟩⟩else⟨v.k,0,⟨#[]⟩⟩
def vU(a b:cO):Bool:=decide (a.k=b.k)&&(decide (a.n=b.n)&&decide (a.s=b.s))
def fv(v:cO):Int:=
 if(decide (v.k<0)||decide (v.k>3))=true then 3
 else if(!vU v (pT v)||(decide (v.k=1)&&decide (v.n≠0)&&decide (v.n≠1)))=true then 1
 else if decide ((v.s.size:Int)>60)=true then 5 else 0
theorem dZt{xs:List Row}{len:Nat}(q:Sl 84 aD h (.slice b len cap) xs):
 Ct 264 [.slice b len cap] h (λv h'=>Le h h'/\∃c,h c=none/\v=.slice (some ⟨c,0,none⟩) len len/\fX 84 aD h' c len xs):=by
 have l:=q.len;obtain⟨Y,K⟩:=q.bound;refine mQx gQc Tryz.func264 λA D=>?_;cbv;refine nJ (s:=aD) rfl (by omega) (by decide) (λc t g e o=>?_);cbv;refine aX.go (G:=Int) (λz=>[(11,.v (.int .i64 z))]) (λ_=>[]) (λn z h'=>∃i:Nat,aS z i/\n=len-i/\i<=len/\Le h h'/\fX 84 aD h' c len (xs.take i)) len 0 (by constructor<;>cbv) ⟨0,⟨rfl⟩,by omega,by omega,e,o⟩ ?_
 intro n z h' I;cbv;obtain⟨i,a,H,F,V,w⟩:=I;refine bh (λd=>?_) (λd=>?_)
 .have P:=a.lt d;clear d;cbv;obtain⟨x,hx⟩:=mQA xs i;refine⟨⟨q.aT,a.ix P⟩,?_⟩;cbv;refine(q.mono (V.t _)).load hx a.eq (λcs y=>?_);obtain⟨v,rfl,f⟩:=y;obtain⟨j,L,p,rfl⟩:=f.form;cbv;refine(II f).mono (λO u hR=>?_);obtain⟨E,m,r,rfl,C,-⟩:=hR;cbv;refine⟨⟨rfl,a.ix P⟩,?_⟩;cbv;refine(w.mono (E.t _)).store (by decide) (i:=i) (by simp;omega) (by omega) (by omega) a.eq rfl (x:=x) ⟨_,rfl,C⟩ (λB k J N=>?_);cbv;refine⟨len-(i+1),_,by omega,by constructor<;>cbv,i+1,a.succ (A:=A),rfl,by omega,?_,?_⟩
  .exact(V.trans E).dJ (by simpa using g) k
  rw[if_neg (by simp;omega)]at N;rw[mXt,hx];exact N
 have M:=a.ge d;cbv;have:i=len:=by omega
 subst this;refine⟨V,c,g,rfl,?_⟩;rw[l,mXL]at w;rw[l];exact w
theorem yE{nm:ByteArray}{s p:Option Addr}{u r:Nat}(z:Sl 155 bI h (.slice s o m) cols)(y:Sl 34 (mW 84 aD) h (.slice b n c) L)(t:L.flatten.length<=2^38):
 Ct 228 [.agg #[.string nm,.slice s o m,.int .i64 key,.bool only,.slice p u r],.slice b n c] h (λv h'=>Le h h'/\∃a j k d f e,v=.agg #[.string nm,.slice a j k,.int .i64 key,.bool only,.slice d f e]/\Sl 155 bI h' (.slice a j k) cols/\Sl 84 aD h' (.slice d f e) L.flatten):=by
 refine mQx lZm Tryz.func228 λA E=>?_;cbv;refine(QT z).mono (λv B hR=>?_);obtain⟨l,a,k,rfl,x,-⟩:=hR;cbv;refine(ZA (y.mono (l.t _)) t).mono (λv C hR=>?_);obtain⟨g,d,f,e,rfl,q⟩:=hR;cbv;refine(dZt q.sl).mono (λv D hR=>?_);obtain⟨i,F,Y,rfl,w⟩:=hR;cbv;exact⟨(l.trans g).trans i,_,_,_,_,_,_,rfl,x.mono ((g.trans i).t _),w.sl q.sl.len⟩
theorem cZt(w:cO)(h:ad):Ct 291 [.agg #[.int .i64 w.k,.int .i64 w.n,.string w.s]] h (λv h'=>Le h h'/\∃x:cO,v=.agg #[.int .i64 x.k,.int .i64 x.n,.string x.s]/\x=pT w):=by
 obtain⟨A,i⟩:=Ar.ex;obtain⟨k,n,s⟩:=w;generalize e:A .aI .eql k 3=u3;generalize a:A .aI .eql k 1=u;generalize b:A .aI .eql k 2=g;have d:=e;have c:=b;have f:=a;rw[aA A]at a b e;refine mQF fKJ A Tryz.func291 ?_;cbv;rw[d];cases u3 with
 |true=>cbv;exact⟨Le.refl _,⟨k,0,s⟩,rfl,by simp only[pT,e];rfl⟩
 |false=>
  cbv;rw[f];cases u with
  |true=>cbv;exact⟨Le.refl _,⟨k,n,⟨#[]⟩⟩,rfl,by simp only[pT,e,a];rfl⟩
  |false=>
   cbv;rw[c];cases g with
   |true=>cbv;exact⟨Le.refl _,⟨k,n,⟨#[]⟩⟩,rfl,by simp only[pT,e,a,b];rfl⟩
   |false=>cbv;exact⟨Le.refl _,⟨k,0,⟨#[]⟩⟩,rfl,by simp only[pT,e,a,b];rfl⟩
theorem QU(w:cO)(h:ad):Ct 263 [.agg #[.int .i64 w.k,.int .i64 w.n,.string w.s]] h (λv h'=>Le h h'/\∃z,v=.int .i64 z/\z=fv w):=by
 obtain⟨A,j⟩:=Ar.ex;obtain⟨k,n,s⟩:=w;generalize m:pT ⟨k,n,s⟩=bv;obtain⟨H,I,J⟩:=bv;generalize e:A .aI .lss k 0=o;generalize a:A .aI .gtr k 3=p;generalize b:A .not (A .and (A .aI .eql k H) (A .and (A .aI .eql n I) (A .and (A .iQ .eql s J) true)))=u3;generalize c:A .aI .eql k 1=q;generalize d:A .aI .neq n 0=r;generalize f:A .aI .neq n 1=t;generalize g:A .aI .gtr (A .jO s) 60=u;have y:=e;have B:=a;have C:=b;have D:=c;have E:=d;have F:=f;have i:=g;rw[bm A]at e;rw[bO A]at a;rw[aA A]at c;rw[aC A]at d f;rw[bO A,j.jO]at g;rw[j.not,j.and,aA A,aA A,cS A]at b;have key:∀z,z=(if(o||p)=true then(3:Int)else if(u3||(q&&r&&t))=true then 1 else if u=true then 5 else 0)->z=fv ⟨k,n,s⟩:=λz G=>by
  rw[G,<-e,<-a,<-b,<-c,<-d,<-f,<-g];simp only[fv,m,vU,mZK]
 refine mQF gQd A Tryz.func263 ?_;cbv;rw[y];cases o with
 |true=>cbv;exact⟨Le.refl _,3,rfl,key 3 rfl⟩
 |false=>
  cbv;rw[B];cases p with
  |true=>cbv;exact⟨Le.refl _,3,rfl,key 3 rfl⟩
  |false=>
   cbv;refine(cZt ⟨k,n,s⟩ h).mono (λv K hR=>?_);obtain⟨l,x,rfl,ex⟩:=hR;rw[m]at ex;subst ex;cbv;rw[C];cases u3 with
   |true=>cbv;exact⟨l,1,rfl,key 1 rfl⟩
   |false=>
    cbv;rw[D];cases q with
    |false=>
     cbv;rw[i];cases u with
     |true=>cbv;exact⟨l,5,rfl,key 5 rfl⟩
     |false=>cbv;exact⟨l,0,rfl,key 0 rfl⟩
    |true=>
     cbv;rw[E];cases r with
     |false=>
      cbv;rw[i];cases u with
      |true=>cbv;exact⟨l,5,rfl,key 5 rfl⟩
      |false=>cbv;exact⟨l,0,rfl,key 0 rfl⟩
     |true=>
      cbv;rw[F];cases t with
      |true=>cbv;exact⟨l,1,rfl,key 1 rfl⟩
      |false=>
       cbv;rw[i];cases u with
       |true=>cbv;exact⟨l,5,rfl,key 5 rfl⟩
       |false=>cbv;exact⟨l,0,rfl,key 0 rfl⟩
theorem aQc.at_{l:List Int}{t:Bool}(q:aQc l z t):aS z (di l)/\t=jG l:=by obtain⟨i,h,a,b⟩:=q.out;subst a;exact⟨h,b⟩
def dx(c:cK)(v:cO):Int:=if decide (fv v≠0)=true then fv v else if(decide (v.k=0)&& !c.null)=true then 13 else if(decide (v.k≠0)&&decide (v.k≠c.kind))=true then 3 else 0
def dg(cols:List cK)(r:Row):Int:=if decide ((r.length:Int)≠(cols.length:Int))=true then 1 else fP (List.zipWith dx cols r)
def dA(t:cW)(k:cO):List Int:=t.rows.map λr=>bC (keyOf t.S.key r) k
def AE(t:cW)(i:Nat)(r:Row):cW:=⟨t.S,t.rows.take i++[r]++t.rows.drop i⟩
def LF(t:cW)(i:Nat):cW:=⟨t.S,t.rows.take i++t.rows.drop (i+1)⟩
def bK(t:cW)(r:Row):cW×Int:=
 if decide (dg t.S.cols r≠0)=true then(t,dg t.S.cols r)
 else if jG (dA t (keyOf t.S.key r))=true then(t,7)
 else if decide ((t.rows.length:Int)>=200)=true then(t,4)
 else(AE t (di (dA t (keyOf t.S.key r))) r,0)
def bH(t:cW)(k:cO):cW×Row×Int:=
 if jG (dA t k)=true then(LF t (di (dA t k)),(t.rows[di (dA t k)]?).getD [],0)else(t,[],2)
theorem cXD{nm:ByteArray}{S:Option Addr}{T:Nat}(R:Sl 155 bI h (.slice S C T) cols)(q:Sl 86 bq h (.slice b n c) r):
 Ct 227 [.agg #[.string nm,.slice S C T,.int .i64 key,.bool only],.slice b n c] h (λv h'=>Le h h'/\∃z,v=.int .i64 z/\z=dg cols r):=by
 obtain⟨A,X⟩:=Ar.ex;have u:=q.len;have O:=R.len;obtain⟨lY,jq⟩:=q.bound;generalize a:A .aI .neq (A .nat n) (A .nat C)=u1;have f1:=a;rw[aC A,X.nat]at a;simp only[mQV]at a;rw[u,O]at a;have Q:u1=false->n=C:=λe=>by rw[e]at a;have:=mXc.1 (mQO a);omega
 refine mQF gQB A Tryz.func227 ?_;cbv;rw[f1];cases u1 with
 |true=>cbv;exact⟨Le.refl _,1,rfl,by simp only[dg,a];rfl⟩
 |false=>
  have Wc:=Q rfl;cbv;refine aX.go (G:=Int) (λz=>[(17,.v (.int .i64 z))]) (λ_=>[(2,[.string nm,.slice S C T,.int .i64 key,.bool only])])
   (λk z h'=>∃i:Nat,aS z i/\k=n-i/\i<=n/\Le h h'/\∀j,j<i->∀y,(List.zipWith dx cols r)[j]? =some y->y=0) n 0 ⟨?_,?_,?_⟩ ⟨0,⟨rfl⟩,by omega,by omega,Le.refl _,λj hj=>(by omega)⟩ ?_
  .cbv
  .cbv
  .cbv
  intro k z h' hI;cbv;obtain⟨i,p,hk,hi,d,V⟩:=hI;refine bh (λH=>?_) (λH=>?_)
  .have aP:=p.lt H;clear H;cbv;obtain⟨x,hx⟩:=mQA r i;obtain⟨y,hy⟩:=mQA cols i;have s:(List.zipWith dx cols r)[i]? =some (dx y x):=by rw[nQN,hx,hy]
   have Bc:(List.zipWith dx cols r).drop i=dx y x::(List.zipWith dx cols r).drop (i+1):=by have hl:=(mQB.1 s);rw[mQJ hl.1,hl.2]
   have I:dg cols r=fP ((List.zipWith dx cols r).drop i):=by rw[<-qY V];simp only[dg,a];rfl
   have m:∀ {Y:ad} (w:Int),Le h Y->w=dx y x->w≠0->Le h Y/\∃z,Value.int .i64 w=.int .i64 z/\z=dg cols r:=λw l ew B=>by
    refine⟨l,w,rfl,?_⟩;rw[I,Bc,<-ew];simp only[fP];rw[if_pos (mQu B)]
   have P:∀(o:ad),Le h o->dx y x=0->∃j:Nat,aS (A .bB .add .i64 z 1) j/\n-(i+1)=n-j/\j<=n/\Le h o/\∀j',j'<j->∀w,(List.zipWith dx cols r)[j']? =some w->w=0:=λo l e0=>
    ⟨i+1,p.succ (A:=A),rfl,by omega,l,λj hj w B=>by
     rcases mXi j i with nT|nT
     .exact V j nT w B
     have:j=i:=by omega
     subst this;rw[s]at B;cases B;exact e0⟩
   refine⟨⟨q.aT,p.ix aP⟩,?_⟩;cbv;refine(q.mono (d.t _)).load hx p.eq (λcs f=>?_);have f:cs=[.int .i64 x.k,.int .i64 x.n,.string x.s]:=f;subst f;cbv;refine⟨⟨R.aT,p.ix (by omega)⟩,?_⟩;cbv;refine(R.mono (d.t _)).load hy p.eq (λcs f=>?_);have f:cs=[.string y.name,.int .i64 y.kind,.bool y.null]:=f;subst f;cbv;refine(QU x h').mono (λv o hR=>?_);obtain⟨l2,D,rfl,J⟩:=hR;have K:=d.trans l2;obtain⟨Z,kd,nl⟩:=y;generalize t:A .aI .neq D 0=U;generalize E:A .aI .eql x.k 0=w2;generalize F:A .aI .neq x.k 0=W;generalize M:A .aI .neq x.k kd=w4;generalize N:A .not nl=w5;have k1:=t;have k2:=E;have k3:=F;have k4:=M;have k5:=N;rw[aC A]at t F M;rw[aA A]at E;rw[X.not]at N;have key:dx ⟨Z,kd,nl⟩ x=if U=true then D else if(w2&&w5)=true then 13 else if(W&&w4)=true then 3 else 0:=by rw[<-t,<-E,<-F,<-M,<-N,J];rfl
   have Ek:U=true->D≠0:=λe=>by rw[e]at t;exact mQL t
   cbv;rw[k1];cases U with
   |true=>cbv;exact m D K key.symm (Ek rfl)
   |false=>
    cbv;rw[k2];cases w2 with
    |true=>
     have L:W=false:=by rw[<-F];have:=mQL E;exact mQv (by omega)
     subst L;cbv;rw[k5];cases w5 with
     |true=>cbv;exact m 13 K key.symm (by omega)
     |false=>
      have g:=P o K key;cbv;rw[k3];cbv;refine⟨n-(i+1),_,by omega,by constructor<;>cbv,g⟩
    |false=>
     cbv;rw[k3];cases W with
     |true=>
      cbv;rw[k4];cases w4 with
      |true=>cbv;exact m 3 K key.symm (by omega)
      |false=>
       have g:=P o K key;cbv;refine⟨n-(i+1),_,by omega,by constructor<;>cbv,g⟩
     |false=>
      have g:=P o K key;cbv;refine⟨n-(i+1),_,by omega,by constructor<;>cbv,g⟩
  have lN:=p.ge H;have I:=qY V;rw[mXB (by rw[List.length_zipWith];omega)]at I;cbv;refine⟨d,0,rfl,?_⟩;simp only[dg,a,I];rfl
theorem dXR(q:Sl 86 bq h (.slice b n c) r):aD.R h [.slice b n c] r:=⟨_,rfl,q⟩
theorem qP{L:List Row}(q:Sl 84 aD h (.slice b n c) L):(mW 84 aD).R h [.slice b n c] L:=⟨_,rfl,q⟩
theorem cJx{nm:ByteArray}{sb b4:Option Addr}{sn sc H O:Nat}(M:Sl 155 bI h (.slice sb sn sc) cols)(p:Sl 84 aD h (.slice b4 H O) rows)(q:Sl 86 bq h (.slice b n c) r)(hn:H<=2^37):
 Ct 143 [.agg #[.string nm,.slice sb sn sc,.int .i64 key,.bool only,.slice b4 H O],.slice b n c] h (λv h'=>Le h h'/\∃w F k y G l e T,v=.tuple #[.agg #[.string nm,.slice w F k,.int .i64 key,.bool only,.slice y G l],.int .i64 e]/\
  Sl 155 bI h' (.slice w F k) cols/\Sl 84 aD h' (.slice y G l) T/\(⟨⟨⟨nm,cols,key,only⟩,T⟩,e⟩:cW×Int)=bK ⟨⟨nm,cols,key,only⟩,rows⟩ r):=by
 have d:=p.len;refine mQx lZv Tryz.func143 λA hA=>?_;cbv;refine(cXD (nm:=nm) (key:=key) (only:=only) M q).mono (λv h1 hR=>?_);obtain⟨W,z,rfl,ez⟩:=hR;have E:bK ⟨⟨nm,cols,key,only⟩,rows⟩ r=if decide (z≠0)=true then(⟨⟨nm,cols,key,only⟩,rows⟩,z)else if jG (dA ⟨⟨nm,cols,key,only⟩,rows⟩ (keyOf key r))=true then(⟨⟨nm,cols,key,only⟩,rows⟩,7)
  else if decide ((rows.length:Int)>=200)=true then(⟨⟨nm,cols,key,only⟩,rows⟩,4)else(AE ⟨⟨nm,cols,key,only⟩,rows⟩ (di (dA ⟨⟨nm,cols,key,only⟩,rows⟩ (keyOf key r))) r,0):=by rw[ez];rfl
 generalize P:A .aI .neq z 0=w1;have k:=P;rw[aC A]at P;rw[P]at E;have all:([rows]:List (List Row)).flatten=rows:=by simp
 cbv;rw[k];cases w1 with
 |true=>
  cbv;intro o h2 Y e2;have Z:Le h1 h2:=by rw[e2];exact Le.set Y
  have m:=(congrFun e2 o).trans ae;have B:=W.trans Z;cbv;refine(yE (M.mono (B.t _)) (bA (s:=mW 84 aD) m (qP (p.mono (B.t _)))) (by rw[all];omega)).mono (λv N hR=>?_);obtain⟨l3,w,F,k,y,G,l,rfl,u,a⟩:=hR;rw[all]at a;cbv;exact⟨B.trans l3,_,_,_,_,_,_,z,rows,rfl,u,a,E.symm⟩
 |false=>
  cbv;refine(aJF (q.mono (W.t _))).mono (λv h2 hR=>?_);obtain⟨Z,C,rfl,V⟩:=hR;have B:=W.trans Z;cbv;refine(WD (p.mono (B.t _)) C).mono (λv N hR=>?_);obtain⟨l3,g,t,rfl,hb⟩:=hR;have Q:=B.trans l3;obtain⟨f,U⟩:=hb.at_;rw[<-V]at E;have U:t=jG (dA ⟨⟨nm,cols,key,only⟩,rows⟩ C):=U;have f:aS g (di (dA ⟨⟨nm,cols,key,only⟩,rows⟩ C)):=f;have S:di (dA ⟨⟨nm,cols,key,only⟩,rows⟩ C)<=H:=by have:=eXk (dA ⟨⟨nm,cols,key,only⟩,rows⟩ C);rw[d];simpa[dA]using this
  rw[<-U]at E;generalize di (dA ⟨⟨nm,cols,key,only⟩,rows⟩ C)=i at *;generalize m:A .aI .geq (A .nat H) 200=w2;have l:=m;rw[cf A,hA.nat]at m;simp only[mQV]at m;rw[d]at m;rw[m]at E;cases t with
  |true=>
   cbv;intro o d Y j;have L:Le N d:=by rw[j];exact Le.set Y
   have I:=(congrFun j o).trans ae;have x:=Q.trans L;cbv;refine(yE (M.mono (x.t _)) (bA (s:=mW 84 aD) I (qP (p.mono (x.t _)))) (by rw[all];omega)).mono (λv R hR=>?_);obtain⟨D,w,F,k,y,G,l,rfl,u,a⟩:=hR;rw[all]at a;cbv;exact⟨x.trans D,_,_,_,_,_,_,7,rows,rfl,u,a,E.symm⟩
  |false=>
   cbv;rw[l];cases w2 with
   |true=>
    cbv;intro o d Y j;have L:Le N d:=by rw[j];exact Le.set Y
    have I:=(congrFun j o).trans ae;have x:=Q.trans L;cbv;refine(yE (M.mono (x.t _)) (bA (s:=mW 84 aD) I (qP (p.mono (x.t _)))) (by rw[all];omega)).mono (λv R hR=>?_);obtain⟨D,w,F,k,y,G,l,rfl,u,a⟩:=hR;rw[all]at a;cbv;exact⟨x.trans D,_,_,_,_,_,_,4,rows,rfl,u,a,E.symm⟩
   |false=>
    have sM:=p.bound;have cJ:0<=g/\g<=(O:Int)/\0<=g/\g<=g:=by have:=f.eq;omega
    have jo:0<=g/\g<=(H:Int):=by have:=f.eq;omega
    have X:([rows.take i,[r],rows.drop i]:List (List Row)).flatten=rows.take i++[r]++rows.drop i:=by simp
    have DE:(rows.take i++[r]++rows.drop i).length<=2^38:=by simp;omega
    cbv;refine⟨cJ,?_⟩;cbv;refine⟨jo,?_⟩;cbv;intro o d Y j;have L:Le N d:=by rw[j];exact Le.set Y
    have I:=(congrFun j o).trans ae;have x:=Q.trans L;cbv;intro Ad R yf e5;have D:Le d R:=by rw[e5];exact Le.set yf
    have g5:=(congrFun e5 Ad).trans ae;have J:=x.trans D;have K:=p.mono (J.t _);have p1:=qP (K.sU (A:=A) (s:=aD) (z:=g) S (fh (A:=A) f) (fh (A:=A) f));have p2:=qP (bA (s:=aD) (D _ _ I) (dXR (q.mono (J.t _))));have p3:=qP (K.uW (A:=A) (s:=aD) f S (gA (A:=A) f) (gA (A:=A) f));cbv;refine(yE (M.mono (J.t _)) (GC (s:=mW 84 aD) rfl g5 p1 p2 p3) (by rw[X];exact DE)).mono (λv h6 hR=>?_);obtain⟨l6,w,F,k,y,G,l,rfl,u,a⟩:=hR;rw[X]at a;cbv;exact⟨J.trans l6,_,_,_,_,_,_,0,_,rfl,u,a,E.symm⟩
theorem aXy{nm:ByteArray}{Y w:Option Addr}{sn Z y:Nat}(U:Sl 155 bI h (.slice Y sn Z) cols)(c:Sl 84 aD h (.slice w n y) rows)(hn:n<=2^37)(kv:cO):
 Ct 144 [.agg #[.string nm,.slice Y sn Z,.int .i64 key,.bool only,.slice w n y],.agg #[.int .i64 kv.k,.int .i64 kv.n,.string kv.s]] h (λv h'=>Le h h'/\∃d o k f p m u S C e T R,v=.tuple #[.agg #[.string nm,.slice d o k,.int .i64 key,.bool only,.slice f p m],.slice u S C,.int .i64 e]/\
  Sl 155 bI h' (.slice d o k) cols/\Sl 84 aD h' (.slice f p m) T/\Sl 86 bq h' (.slice u S C) R/\(⟨⟨⟨nm,cols,key,only⟩,T⟩,R,e⟩:cW×Row×Int)=bH ⟨⟨nm,cols,key,only⟩,rows⟩ kv):=by
 have B:=c.len;have all:([rows]:List (List Row)).flatten=rows:=by simp
 refine mQx lZu Tryz.func144 λA Q=>?_;cbv;refine(WD c kv).mono (λv N hR=>?_);obtain⟨D,b,t,rfl,hb⟩:=hR;obtain⟨q,g⟩:=hb.at_;have E:bH ⟨⟨nm,cols,key,only⟩,rows⟩ kv=if jG (dA ⟨⟨nm,cols,key,only⟩,rows⟩ kv)=true then(LF ⟨⟨nm,cols,key,only⟩,rows⟩ (di (dA ⟨⟨nm,cols,key,only⟩,rows⟩ kv)),(rows[di (dA ⟨⟨nm,cols,key,only⟩,rows⟩ kv)]?).getD [],0)else(⟨⟨nm,cols,key,only⟩,rows⟩,[],2):=rfl
 have g:t=jG (dA ⟨⟨nm,cols,key,only⟩,rows⟩ kv):=g;have q:aS b (di (dA ⟨⟨nm,cols,key,only⟩,rows⟩ kv)):=q;have P:t=true->di (dA ⟨⟨nm,cols,key,only⟩,rows⟩ kv)<n:=λe=>by
  have:=lr (g.symm.trans e);rw[B];simpa[dA]using this
 rw[<-g]at E;generalize di (dA ⟨⟨nm,cols,key,only⟩,rows⟩ kv)=i at *;cases t with
 |false=>
  have I:A .not false=true:=by rw[Q.not];rfl
  cbv;rw[I];cbv;intro nb B gY L;have l4:Le N B:=by rw[L];exact Le.set gY
  have g4:=(congrFun L nb).trans ae;have W:=D.trans l4;cbv;refine(yE (U.mono (W.t _)) (bA (s:=mW 84 aD) g4 (qP (c.mono (W.t _)))) (by rw[all];omega)).mono (λv O hR=>?_);obtain⟨l,d,o,k,f,p,m,rfl,H,r⟩:=hR;rw[all]at r;cbv;exact⟨W.trans l,_,_,_,_,_,_,_,_,_,2,rows,[],rfl,H,r,Sl.nil,E.symm⟩
 |true=>
  have P:=P rfl;have I:A .not true=false:=by rw[Q.not];rfl
  have sM:=c.bound;have V:=q.succ (A:=A);have cJ:0<=b/\b<=(y:Int)/\0<=b/\b<=b:=by have:=q.eq;omega
  have jo:0<=A .bB .add .i64 b 1/\A .bB .add .i64 b 1<=(n:Int):=by have:=V.eq;omega
  have X:([rows.take i,rows.drop (i+1)]:List (List Row)).flatten=rows.take i++rows.drop (i+1):=by simp
  have DE:(rows.take i++rows.drop (i+1)).length<=2^38:=by simp;omega
  obtain⟨x,hx⟩:=mQA rows i;have TZ:w.isSome=true/\0<=b/\b<(n:Int):=⟨c.aT,q.ix P⟩;cbv;rw[I];cbv;refine⟨cJ,?_⟩;cbv;refine⟨jo,?_⟩;cbv;refine⟨TZ,?_⟩;cbv;refine(c.mono (D.t _)).Ch hx q.eq (λcs ay a=>?_);obtain⟨vx,rfl,j⟩:=ay;obtain⟨bx,lx,cx,rfl⟩:=j.form;cbv;intro Ad O yf M;have l:Le N O:=by rw[M];exact Le.set yf
  have g5:=(congrFun M Ad).trans ae;have J:=D.trans l;have K:=c.mono (J.t _);have p1:=qP (K.sU (A:=A) (s:=aD) (z:=b) (mZp P) (fh (A:=A) q) (fh (A:=A) q));have p3:=qP (K.uW (A:=A) (s:=aD) V P (gA (A:=A) V) (gA (A:=A) V));cbv;refine a _ _ l ?_;cbv;refine⟨⟨_,rfl,rfl⟩,?_⟩;cbv;refine(yE (U.mono (J.t _)) (LC (s:=mW 84 aD) rfl g5 p1 p3) (by rw[X];exact DE)).mono (λv h6 hR=>?_);obtain⟨F,d,o,k,f,p,m,rfl,H,r⟩:=hR;rw[X]at r;cbv;refine a _ _ (l.trans F) ?_;cbv;refine⟨⟨_,rfl,rfl⟩,?_⟩;cbv;refine(II (j.mono ((l.trans F).t _))).mono (λv h7 hR=>?_);obtain⟨G,u,C,rfl,r3,-⟩:=hR;cbv;rw[hx]at E;exact⟨(J.trans F).trans G,_,_,_,_,_,_,_,_,_,0,_,_,rfl,H.mono (G.t _),r.mono (G.t _),r3,E.symm⟩
theorem cQp{c:Type}{xs:List c}{p:c->Bool}(q:vg xs p z):(z=-1/\xs.findIdx? p=none)\/∃i x,aS z i/\xs.findIdx? p=some i/\xs[i]? =some x/\p x=true:=by
 rcases q.out with⟨a,h⟩|⟨i,x,a,h,b,d⟩
 .exact .inl ⟨a,mKC.2 h⟩
 refine .inr ⟨i,x,a,?_,h,b⟩;obtain⟨w,f⟩:=mQB.1 h;rw[mKB];refine⟨w,by rw[f];exact b,λj e=>?_⟩;have t:j<xs.length:=by omega
 have:=d j e xs[j] (by simp[t]);simp[this]
def Vo(a b:cg):Bool:=decide (a.s=b.s)&&(decide (a.table=b.table)&&decide (a.x=b.x))
def oG(H:List cg)(hd:cg):Option Nat:=H.findIdx? (jJ hd)
def qI(H:List cg)(hd:cg):Bool:=match oG H hd with
 |some i=>(H[i]?).any λo=>o.x||Vo o hd
 |none=>false
def bP(H:List cg)(hd:cg):Bool:=qI H hd|| !(H.any (eL hd))
def cV(H:List cg)(hd:cg):List cg:=
 if bP H hd=true then if qI H hd=true then H else match oG H hd with
  |some i=>H.set i hd
  |none=>H++[hd]
 else H
def df(H W:List cg)(hd:cg):List cg:=if bP H hd=true then bX W hd.s else bX W hd.s++[hd]
theorem Eo{L:List cg}(q:Sl 201 bG h (.slice b n c) L):(mW 201 bG).R h [.slice b n c] L:=⟨_,rfl,q⟩
theorem cXB{c:Option Addr}{d a e:Nat}(q:Sl 201 bG h (.slice b n d) H)(j:Sl 201 bG h (.slice c a e) W)(G:n<=2^38)(m:a<=2^38)(s:Int):
 Ct 115 [.agg #[.slice b n d,.slice c a e],.int .i64 s] h (λv h'=>Le h h'/\∃b n d c a e,v=.agg #[.slice b n d,.slice c a e]/\Sl 201 bG h' (.slice b n d) (bX H s)/\Sl 201 bG h' (.slice c a e) (bX W s)):=by
 refine mQx cJa Tryz.func115 λA t=>?_;cbv;refine(kZ q G s).mono (λv o hR=>?_);obtain⟨l,J,g,Q,rfl,r⟩:=hR;cbv;refine(kZ (j.mono (l.t _)) m s).mono (λv p hR=>?_);obtain⟨f,K,E,i,rfl,k⟩:=hR;cbv;exact⟨l.trans f,_,_,_,_,_,_,rfl,r.sl.mono (f.t _),k.sl⟩
theorem eXs{N Z:Option Addr}{p c1 T c2:Nat}(q:Sl 201 bG h (.slice N p c1) H)(D:Sl 201 bG h (.slice Z T c2) W)(lG:p<=2^37)(mY:T<=2^37)(hd:cg):
 Ct 269 [.agg #[.slice N p c1,.slice Z T c2],.agg #[.int .i64 hd.s,.string hd.table,.bool hd.x]] h (λv h'=>Le h h'/\∃N p c1 Z T c2 t,v=.tuple #[.agg #[.slice N p c1,.slice Z T c2],.bool t]/\Sl 201 bG h' (.slice N p c1) (cV H hd)/\Sl 201 bG h' (.slice Z T c2) (df H W hd)/\t=bP H hd):=by
 obtain⟨a,b,hx⟩:=hd;refine mQx lZd Tryz.func269 λA hA=>?_;cbv;refine(bKG q ⟨a,b,hx⟩).mono (λv h1 hR=>?_);obtain⟨d,z,rfl,hz⟩:=hR;have U:A .not true=false:=by rw[hA.not];rfl
 have Wj:A .not false=true:=by rw[hA.not];rfl
 rcases(cQp hz)with⟨rfl,hf⟩|⟨i,o,S,hf,ho,hp⟩
 .have lN:A .aI .geq (-1) 0=false:=by rw[cf A];rfl
  have kH:qI H ⟨a,b,hx⟩=false:=by unfold qI oG;rw[hf]
  cbv;rw[lN];cbv;refine(Fh (q.mono (d.t _)) ⟨a,b,hx⟩).mono (λv h2 hR=>?_);obtain⟨l2,tc,rfl,J⟩:=hR;have k:=d.trans l2;have kF:bP H ⟨a,b,hx⟩= !tc:=by unfold bP;rw[kH,J];rfl
  cases tc with
  |true=>
   have r:bP H ⟨a,b,hx⟩=false:=kF;have L:cV H ⟨a,b,hx⟩=H:=by unfold cV;rw[r];rfl
   have K:df H W ⟨a,b,hx⟩=bX W a++[⟨a,b,hx⟩]:=by unfold df;rw[r];rfl
   cbv;rw[U];cbv;refine(po (q.mono (k.t _))).mono (λv Q hR=>?_);obtain⟨l,bc,O,rfl,y⟩:=hR;cbv;refine(kZ (D.mono ((k.trans l).t _)) (by omega) a).mono (λv C hR=>?_);obtain⟨c,bw,nw,cw,rfl,M⟩:=hR;have g:=(k.trans l).trans c;have I:=y.mono (c.t _);cbv;rw[Wj];cbv;intro u j G w;have n:Le C j:=by rw[w];exact Le.set G
   have g5:=(congrFun w u).trans ae;cbv;intro Y h6 X B;have e:Le j h6:=by rw[B];exact Le.set X
   have g6:=(congrFun B Y).trans ae;have R:([bX W a,[⟨a,b,hx⟩]]:List (List cg)).flatten=bX W a++[⟨a,b,hx⟩]:=by simp
   have tW:(bX W a++[(⟨a,b,hx⟩:cg)]).length<=2^38:=by have h1:(bX W a).length<=W.length:=mZd _ _;have h2:=D.len;simp only[mQy,mQG];omega
   cbv;refine(Ez (LC (s:=mW 201 bG) rfl g6 (Eo (M.sl.mono ((n.trans e).t _))) (Eo (bA (s:=bG) (e _ _ g5) (x:=⟨a,b,hx⟩) rfl))) (by rw[R];exact tW)).mono (λv h7 hR=>?_);obtain⟨l7,b7,n7,c7,rfl,P⟩:=hR;rw[R]at P;have V:=(n.trans e).trans l7;cbv;exact⟨g.trans V,_,_,_,_,_,_,false,rfl,by rw[L];exact I.sl.mono (V.t _),by rw[K];exact P.sl,r.symm⟩
  |false=>
   have r:bP H ⟨a,b,hx⟩=true:=kF;have L:cV H ⟨a,b,hx⟩=H++[⟨a,b,hx⟩]:=by unfold cV;rw[r,kH];unfold oG;rw[hf];rfl
   have K:df H W ⟨a,b,hx⟩=bX W a:=by unfold df;rw[r];rfl
   cbv;rw[Wj];cbv;refine(po (q.mono (k.t _))).mono (λv Q hR=>?_);obtain⟨l,bc,O,rfl,y⟩:=hR;cbv;refine(kZ (D.mono ((k.trans l).t _)) (by omega) a).mono (λv C hR=>?_);obtain⟨c,bw,nw,cw,rfl,M⟩:=hR;have g:=(k.trans l).trans c;have I:=y.mono (c.t _);cbv;rw[U];cbv;rw[lN];cbv;intro u j G w;have n:Le C j:=by rw[w];exact Le.set G
   have g5:=(congrFun w u).trans ae;cbv;intro Y h6 X B;have e:Le j h6:=by rw[B];exact Le.set X
   have g6:=(congrFun B Y).trans ae;have R:([H,[⟨a,b,hx⟩]]:List (List cg)).flatten=H++[⟨a,b,hx⟩]:=by simp
   have tW:(H++[(⟨a,b,hx⟩:cg)]).length<=2^38:=by have h2:=q.len;simp only[mQy,mQG];omega
   cbv;refine(Ez (LC (s:=mW 201 bG) rfl g6 (Eo (I.sl.mono ((n.trans e).t _))) (Eo (bA (s:=bG) (e _ _ g5) (x:=⟨a,b,hx⟩) rfl))) (by rw[R];exact tW)).mono (λv h7 hR=>?_);obtain⟨l7,b7,n7,c7,rfl,P⟩:=hR;rw[R]at P;have V:=(n.trans e).trans l7;cbv;exact⟨g.trans V,_,_,_,_,_,_,true,rfl,by rw[L];exact P.sl,by rw[K];exact M.sl.mono (V.t _),r.symm⟩
 have lN:A .aI .geq z 0=true:=by rw[cf A];have:=S.eq;exact mQu (by omega)
 have ab:i<p:=by have:=(mQB.1 ho).1;rw[q.len];exact this
 have cJ:N.isSome=true/\0<=z/\z<(p:Int):=⟨q.aT,S.ix ab⟩;have kH:qI H ⟨a,b,hx⟩=(o.x||Vo o ⟨a,b,hx⟩):=by unfold qI oG;rw[hf];simp only[ho];rfl
 obtain⟨os,ot,ox⟩:=o;cbv;rw[lN];cbv;refine⟨cJ,?_⟩;cbv;refine(q.mono (d.t _)).cC ho S.eq (o:=2) (m:=1) (by decide) (λcs E=>?_);have E:cs=[.int .i64 os,.string ot,.bool ox]:=E;subst E;cases ox with
 |true=>
  have f:qI H ⟨a,b,hx⟩=true:=kH;have r:bP H ⟨a,b,hx⟩=true:=by unfold bP;rw[f];rfl
  have L:cV H ⟨a,b,hx⟩=H:=by unfold cV;rw[r,f];rfl
  have K:df H W ⟨a,b,hx⟩=bX W a:=by unfold df;rw[r];rfl
  cbv;refine(po (q.mono (d.t _))).mono (λv Q hR=>?_);obtain⟨l,bc,O,rfl,y⟩:=hR;cbv;refine(kZ (D.mono ((d.trans l).t _)) (by omega) a).mono (λv C hR=>?_);obtain⟨c,bw,nw,cw,rfl,M⟩:=hR;have g:=(d.trans l).trans c;have I:=y.mono (c.t _);cbv;rw[U];cbv;exact⟨g,_,_,_,_,_,_,true,rfl,by rw[L];exact I.sl,by rw[K];exact M.sl,r.symm⟩
 |false=>
  cbv;refine⟨cJ,?_⟩;cbv;refine(q.mono (d.t _)).load ho S.eq (λcs E=>?_);have E:cs=[.int .i64 os,.string ot,.bool false]:=E;subst E;generalize es:A .and (A .aI .eql os a) (A .and (A .iQ .eql ot b) (A .and (A .EE .eql false hx) true))=us;have fs:=es;rw[hA.and,aA A,cS A,hA.EE]at es;have F:qI H ⟨a,b,hx⟩=us:=by rw[kH,<-es];simp only[Vo,mZU,mZK,EE];cases hx<;>rfl
  cbv;rw[fs];cases us with
  |true=>
   have f:=F;have r:bP H ⟨a,b,hx⟩=true:=by unfold bP;rw[f];rfl
   have L:cV H ⟨a,b,hx⟩=H:=by unfold cV;rw[r,f];rfl
   have K:df H W ⟨a,b,hx⟩=bX W a:=by unfold df;rw[r];rfl
   cbv;refine(po (q.mono (d.t _))).mono (λv Q hR=>?_);obtain⟨l,bc,O,rfl,y⟩:=hR;cbv;refine(kZ (D.mono ((d.trans l).t _)) (by omega) a).mono (λv C hR=>?_);obtain⟨c,bw,nw,cw,rfl,M⟩:=hR;have g:=(d.trans l).trans c;have I:=y.mono (c.t _);cbv;rw[U];cbv;exact⟨g,_,_,_,_,_,_,true,rfl,by rw[L];exact I.sl,by rw[K];exact M.sl,r.symm⟩
  |false=>
   cbv;refine(Fh (q.mono (d.t _)) ⟨a,b,hx⟩).mono (λv h2 hR=>?_);obtain⟨l2,tc,rfl,J⟩:=hR;have k:=d.trans l2;have kF:bP H ⟨a,b,hx⟩= !tc:=by unfold bP;rw[F,J];rfl
   cases tc with
   |true=>
    have r:bP H ⟨a,b,hx⟩=false:=kF;have L:cV H ⟨a,b,hx⟩=H:=by unfold cV;rw[r];rfl
    have K:df H W ⟨a,b,hx⟩=bX W a++[⟨a,b,hx⟩]:=by unfold df;rw[r];rfl
    cbv;rw[U];cbv;refine(po (q.mono (k.t _))).mono (λv Q hR=>?_);obtain⟨l,bc,O,rfl,y⟩:=hR;cbv;refine(kZ (D.mono ((k.trans l).t _)) (by omega) a).mono (λv C hR=>?_);obtain⟨c,bw,nw,cw,rfl,M⟩:=hR;have g:=(k.trans l).trans c;have I:=y.mono (c.t _);cbv;rw[Wj];cbv;intro u j G w;have n:Le C j:=by rw[w];exact Le.set G
    have g5:=(congrFun w u).trans ae;cbv;intro Y h6 X B;have e:Le j h6:=by rw[B];exact Le.set X
    have g6:=(congrFun B Y).trans ae;have R:([bX W a,[⟨a,b,hx⟩]]:List (List cg)).flatten=bX W a++[⟨a,b,hx⟩]:=by simp
    have tW:(bX W a++[(⟨a,b,hx⟩:cg)]).length<=2^38:=by have h1:(bX W a).length<=W.length:=mZd _ _;have h2:=D.len;simp only[mQy,mQG];omega
    cbv;refine(Ez (LC (s:=mW 201 bG) rfl g6 (Eo (M.sl.mono ((n.trans e).t _))) (Eo (bA (s:=bG) (e _ _ g5) (x:=⟨a,b,hx⟩) rfl))) (by rw[R];exact tW)).mono (λv h7 hR=>?_);obtain⟨l7,b7,n7,c7,rfl,P⟩:=hR;rw[R]at P;have V:=(n.trans e).trans l7;cbv;exact⟨g.trans V,_,_,_,_,_,_,false,rfl,by rw[L];exact I.sl.mono (V.t _),by rw[K];exact P.sl,r.symm⟩
   |false=>
    have r:bP H ⟨a,b,hx⟩=true:=kF;have L:cV H ⟨a,b,hx⟩=H.set i ⟨a,b,hx⟩:=by unfold cV;rw[r,F];unfold oG;rw[hf];rfl
    have K:df H W ⟨a,b,hx⟩=bX W a:=by unfold df;rw[r];rfl
    cbv;rw[Wj];cbv;refine(po (q.mono (k.t _))).mono (λv Q hR=>?_);obtain⟨l,bc,O,rfl,y⟩:=hR;cbv;refine(kZ (D.mono ((k.trans l).t _)) (by omega) a).mono (λv C hR=>?_);obtain⟨c,bw,nw,cw,rfl,M⟩:=hR;have g:=(k.trans l).trans c;have I:=y.mono (c.t _);obtain⟨u,rfl,G,af,oc⟩:=I.own (by omega);have aP:i<H.length:=(mQB.1 ho).1;have Ij:p<=O:=(y.sl).bound.2;have TY:(some (⟨u,0,none⟩:Addr)).isSome=true/\0<=z/\z<(p:Int):=⟨rfl,S.ix ab⟩;cbv;rw[U];cbv;rw[lN];cbv;refine⟨TY,?_⟩;cbv;refine oc.setAt (by decide) (i:=i) (by omega) S.eq rfl (x:=⟨a,b,hx⟩) rfl (λj k5 t5 o5=>?_);have n:Le h j:=g.dJ (by simpa using k.none G) k5;have fZ:Q u≠none:=by obtain⟨px,e1,-,-,o3⟩:=y.own (by omega);cases e1;exact o3.has
    have lw:=(M.kp k5 (by simpa using fZ) (t5 _ (by decide))).sl;cbv;exact⟨n,_,_,_,_,_,_,true,rfl,by rw[L];exact o5.sl (by rw[mXv];exact af),by rw[K];exact lw,r.symm⟩
end Go.S
