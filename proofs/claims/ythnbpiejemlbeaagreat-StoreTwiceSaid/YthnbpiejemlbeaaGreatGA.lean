import Derived.Test.YthnbpiejemlbeaaGreatEC
set_option linter.all false
set_option maxRecDepth 100000
set_option maxHeartbeats 8000000
namespace Go.S
open Go.Sx Go.Proofs
variable {A:Ar}{only:Bool}{nm:ByteArray}{d:DB}{e key s z:Int}{tys:List Nat}{H R:List bU}{a:List eY}{B:List jF}{c i m n w:Nat}{b:Option Addr}{k:Value->ad->Prop}{h h':ad}{hd:bU}
theorem Io{xs:List (eY×Bool)}{b cap:Nat}(o:cZ 79 bV h b cap xs)(j:n=xs.length){w:Int}(l:aZ z i)(a:aZ w (i+1))(P:i<n)
 (u:∀h' m,m=n-1->Kp [b] h h'->(∀tys,79∉tys->cO tys h h')->cZ 79 bV h' b cap (xs.eraseIdx i)->k (.slice (zsA b) m cap) h'):
 Ct 240 [.slice (zsA b) n cap,.int .i64 z,.int .i64 w] h k:=by
 obtain⟨A,c⟩:=Ar.ex;have v:=o.le;have R:=o.bd;have N:=l.eq;have s:=a.eq;have C:A .nat n=(n:Int):=by rw[c.nat];rfl
 have e1:A .aN .eql z w=false:=by rw[au A];exact bn (by omega)
 have q:Sl 79 bV h (.slice (zsA b) n cap) xs:=o.sl j;have F:0<=A .nat n/\A .nat n<=(cap:Int)/\0<=w/\w<=A .nat n/\0<=z/\z<=w:=by rw[C];omega
 have x:0<=z/\z<=(cap:Int):=by omega
 have M:0<=w/\w<=(n:Int):=by omega
 have J:∀m,m=n-1->0<=A .nat n/\A .nat n<=(cap:Int)/\0<=A .nat m/\A .nat m<=A .nat n:=λm f=>by
  have H:A .nat m=(m:Int):=by rw[c.nat];rfl
  rw[C,H];omega
 have I:=q.jD (A:=A) a (by omega) rfl rfl;have T:=dy (A:=A) l;have Q:=cJ (A:=A) (n:=n) a;have Z:=cJ (A:=A) (n:=cap) a;refine fz eXy A Tryz.func240 ?_;cbv;refine⟨F,?_⟩;cbv;rw[e1];cbv;refine⟨x,?_⟩;cbv;refine⟨M,?_⟩;cbv;rw[wH (A:=A),T,Q];refine o.Bf (by decide) (i:=i) (by omega) I (by omega) (by omega) rfl (λO m f B K o1=>?_);have D:m=n-1:=by omega
 have o2:=o1.shrink (n-1);have e:(xs.take i++xs.drop (i+1)++xs.drop (i+(n-(i+1)))).take (n-1)=xs.eraseIdx i:=by rw[j];exact erase_eq (by omega)
 rw[e]at o2;clear o1 e f;have r:(xs.eraseIdx i).length=n-1:=by rw[kQj (by omega)];omega
 have J:=J m D;have g:A .nt (A .nat n) (A .nat m)=1:=by rw[cJ (A:=A) (aZ.nat m)];omega
 cbv;refine⟨J,?_⟩;cbv;rw[xF (A:=A) (aZ.nat m) (by omega),g];refine o2.Zt (by decide) rfl rfl (p:=m) (by omega) (by omega) (λt E L G=>?_);have y:=u t m D (B.trans E) (λtys d=>(K tys d).trans (L tys d)) G;cbv;exact y
theorem Mv{xs:List ca}{b cap:Nat}(o:cZ 61 bN h b cap xs)(j:n=xs.length){w:Int}(l:aZ z i)(a:aZ w (i+1))(P:i<n)
 (u:∀h' m,m=n-1->Kp [b] h h'->(∀tys,61∉tys->cO tys h h')->cZ 61 bN h' b cap (xs.eraseIdx i)->k (.slice (zsA b) m cap) h'):
 Ct 285 [.slice (zsA b) n cap,.int .i64 z,.int .i64 w] h k:=by
 obtain⟨A,c⟩:=Ar.ex;have v:=o.le;have R:=o.bd;have N:=l.eq;have s:=a.eq;have C:A .nat n=(n:Int):=by rw[c.nat];rfl
 have e1:A .aN .eql z w=false:=by rw[au A];exact bn (by omega)
 have q:Sl 61 bN h (.slice (zsA b) n cap) xs:=o.sl j;have F:0<=A .nat n/\A .nat n<=(cap:Int)/\0<=w/\w<=A .nat n/\0<=z/\z<=w:=by rw[C];omega
 have x:0<=z/\z<=(cap:Int):=by omega
 have M:0<=w/\w<=(n:Int):=by omega
 have J:∀m,m=n-1->0<=A .nat n/\A .nat n<=(cap:Int)/\0<=A .nat m/\A .nat m<=A .nat n:=λm f=>by
  have H:A .nat m=(m:Int):=by rw[c.nat];rfl
  rw[C,H];omega
 have I:=q.jD (A:=A) a (by omega) rfl rfl;have T:=dy (A:=A) l;have Q:=cJ (A:=A) (n:=n) a;have Z:=cJ (A:=A) (n:=cap) a;refine fz eQK A Tryz.func285 ?_;cbv;refine⟨F,?_⟩;cbv;rw[e1];cbv;refine⟨x,?_⟩;cbv;refine⟨M,?_⟩;cbv;rw[wH (A:=A),T,Q];refine o.Bf (by decide) (i:=i) (by omega) I (by omega) (by omega) rfl (λO m f B K o1=>?_);have D:m=n-1:=by omega
 have o2:=o1.shrink (n-1);have e:(xs.take i++xs.drop (i+1)++xs.drop (i+(n-(i+1)))).take (n-1)=xs.eraseIdx i:=by rw[j];exact erase_eq (by omega)
 rw[e]at o2;clear o1 e f;have r:(xs.eraseIdx i).length=n-1:=by rw[kQj (by omega)];omega
 have J:=J m D;have g:A .nt (A .nat n) (A .nat m)=1:=by rw[cJ (A:=A) (aZ.nat m)];omega
 cbv;refine⟨J,?_⟩;cbv;rw[xF (A:=A) (aZ.nat m) (by omega),g];refine o2.Zt (by decide) rfl rfl (p:=m) (by omega) (by omega) (λt E L G=>?_);have y:=u t m D (B.trans E) (λtys d=>(K tys d).trans (L tys d)) G;cbv;exact y
theorem qV{b:Nat}{T:List ca}{W:List (eY×Bool)}{a:List bU}(q:jV h c m n b w T W H a e)(I:Int)
 (i:∀h' z t,Le h h'->aZ z (dC (dK W I))->t=iQ (dK W I)->k (.tuple #[.int .i64 z,.bool t]) h'):Ct 39 [.zP c,.int .i64 I] h k:=
 (yL q I).mono (λv h' hR=>by
  obtain⟨l,z,t,j,g⟩:=hR;obtain⟨d,f⟩:=g.at_;rw[j];exact i h' z t l d f)
theorem vp{o b:Nat}{T:List ca}{W:List (eY×Bool)}{a:List bU}(q:jV h c m o b w T W H a e)(n:ByteArray)
 (i:∀h' z t,Le h h'->aZ z (dC (aS T n))->t=iQ (aS T n)->k (.tuple #[.int .i64 z,.bool t]) h'):Ct 116 [.zP c,.string n] h k:=
 (qY q n).mono (λv h' hR=>by
  obtain⟨l,z,t,j,g⟩:=hR;obtain⟨d,f⟩:=g.at_;rw[j];exact i h' z t l d f)
theorem WX{o:List Row}{r:Row}{t p:Option Addr}{u s:Nat}(C:Sl 202 bH h (.slice t w u) B)(A:Sl 46 bF h (.slice p m s) o)(q:Sl 45 bA h (.slice b n c) r)(y:m<=2^37)
 (x:∀h' a i f d j g T e,Le h h'->Sl 202 bH h' (.slice a i f) B->Sl 46 bF h' (.slice d j g) T->(⟨⟨⟨nm,B,key,only⟩,T⟩,e⟩:ca×Int)=bK ⟨⟨nm,B,key,only⟩,o⟩ r->k (.tuple #[.agg #[.string nm,.slice a i f,.int .i64 key,.bool only,.slice d j g],.int .i64 e]) h'):
 Ct 45 [.agg #[.string nm,.slice t w u,.int .i64 key,.bool only,.slice p m s],.slice b n c] h k:=
 (bQK (nm:=nm) (key:=key) (only:=only) C A q y).mono (λv h' hR=>by
  obtain⟨l,a,i,f,d,j,g,e,T,z,D,E,F⟩:=hR;rw[z];exact x h' a i f d j g T e l D E F)
theorem PT{r:List Row}{s o:Option Addr}{t q p:Nat}(z:Sl 202 bH h (.slice s t q) B)(y:Sl 46 bF h (.slice o m p) r)(w:m<=2^37)(kv:jd)
 (u:∀h' b n d a i f c j g T R e,Le h h'->Sl 202 bH h' (.slice b n d) B->Sl 46 bF h' (.slice a i f) T->Sl 45 bA h' (.slice c j g) R->(⟨⟨⟨nm,B,key,only⟩,T⟩,R,e⟩:ca×Row×Int)=bE ⟨⟨nm,B,key,only⟩,r⟩ kv->k (.tuple #[.agg #[.string nm,.slice b n d,.int .i64 key,.bool only,.slice a i f],.slice c j g,.int .i64 e]) h'):
 Ct 277 [.agg #[.string nm,.slice s t q,.int .i64 key,.bool only,.slice o m p],.agg #[.int .i64 kv.k,.int .i64 kv.n,.string kv.s]] h k:=
 (VU (nm:=nm) (key:=key) (only:=only) z y w kv).mono (λv h' hR=>by
  obtain⟨l,b,n,d,a,i,f,c,j,g,e,T,R,x,A,C,D,E⟩:=hR;rw[x];exact u h' b n d a i f c j g T R e l A C D E)
theorem AS{W:List bU}{a:Option Addr}{e d:Nat}(q:Sl 253 bu h (.slice b n c) H)(f:Sl 253 bu h (.slice a e d) W)(s:Int)(g:H.length<=2^38)(U:W.length<=2^38)
 (i:∀h' b n c a e d,Le h h'->Sl 253 bu h' (.slice b n c) (bR H s)->Sl 253 bu h' (.slice a e d) (bR W s)->k (.agg #[.slice b n c,.slice a e d]) h'):Ct 241 [.agg #[.slice b n c,.slice a e d],.int .i64 s] h k:=
 (aJJ q f (by rw[q.len];exact g) (by rw[f.len];exact U) s).mono (λv h' hR=>by
  obtain⟨l,b,n,c,a,e,d,j,r,m⟩:=hR;rw[j];exact i h' b n c a e d l r m)
theorem jV.ai{d:ad}{p t:Nat}{T:List ca}{W:List (eY×Bool)}{u:List bU}{I s:Nat}{f g:Option Addr}{k l j:Nat}{o:Int}
 (v:h c=some (.cells #[.slice (zsA m) n t,.slice (zsA p) I w,.slice f k i,.slice g l j,.int .u32 o,.int .i32 0,.int .u32 0,.int .i64 e] 148 (0,0)))
 (E:(o=0/\e=0)\/(o=1/\e≠0)) (x:n=T.length) (y:cZ 61 bN h m t T) (z:Sl 253 bu h (.slice f k i) H) (A:Sl 253 bu h (.slice g l j) u) (C:s=W.length)
 (G:∀tys,79∉tys->cO tys h d) (F:d c=h c) (B:cZ 79 bV d p w W)
 (q:h'=bL d c (.cells #[.slice (zsA m) n t,.slice (zsA p) s w,.slice f k i,.slice g l j,.int .u32 o,.int .i32 0,.int .u32 0,.int .i64 e] 148 (0,0))):
 Kp [c] d h'/\jV h' c m p t w T W H u e:=by
 have J:=F.trans v;have lt:∀tys,148∉tys->cO tys d h':=λtys D=>by rw[q];exact cO.set J D
 have r:∀tys,79∉tys->148∉tys->cO tys h h':=λtys a b=>(G tys a).trans (lt tys b);refine⟨by rw[q];exact Kp.set (by simp),n,s,f,k,i,g,l,j,o,by rw[q];exact ae,E,x,y.mono (r _ (by decide) (by decide)),C,B.mono (lt _ (by decide)),z.mono (r _ (by decide) (by decide)),A.mono (r _ (by decide) (by decide))⟩
def zr(W:List (eY×Bool))(s:Int):List (eY×Bool):=if iQ (dK W s)=true then W.eraseIdx (dC (dK W s))else W
theorem dJM{Q N O:Nat}{T:List ca}{W:List (eY×Bool)}(q:jV h c Q w N O T W H R e)(oV:c≠w)(s:Int)(fh:H.length<=2^38)(eU:R.length<=2^38)
 (hk:∀h',Kp [c,w] h h'->jV h' c Q w N O T (zr W s) (bR H s) (bR R s) e->k (.tuple #[]) h'):Ct 123 [.zP c,.int .i64 s] h k:=by
 obtain⟨V,Y⟩:∃V,V=zr W s:=⟨_,rfl⟩;rw[<-Y]at hk;have fin:∀(b:ad),Kp [c,w] h b->jV b c Q w N O T V H R e->∀(j n:Nat) (p:Option Addr) (I u:Nat) (r:Option Addr) (K v:Nat) (o:Int),b c=some (.cells #[.slice (zsA Q) j N,.slice (zsA w) n O,.slice p I u,.slice r K v,.int .u32 o,.int .i32 0,.int .u32 0,.int .i64 e] 148 (0,0))->
  ((o=0/\e=0)\/(o=1/\e≠0))->j=T.length->cZ 61 bN b Q N T->n=V.length->cZ 79 bV b w O V->
  ∀(d:ad) (L:Option Addr) (F f:Nat) (M:Option Addr) (G D:Nat),Le b d->Sl 253 bu d (.slice L F f) (bR H s)->Sl 253 bu d (.slice M G D) (bR R s)->
  ∀a,a=bL d c (.cells #[.slice (zsA Q) j N,.slice (zsA w) n O,.slice L F f,.slice M G D,.int .u32 o,.int .i32 0,.int .u32 0,.int .i64 e] 148 (0,0))->k (.tuple #[]) a:=
  λb k1 _ j n p I u r K v o g C x y B l d L F f M G D E Z r4 a P=>by
   have hl:=jV.Xt (E _ _ g) C x (y.mono (E.t _)) B (l.mono (E.t _)) Z r4 P;exact hk a ((k1.trans (E.kp _)).trans (hl.1.sub (by simp))) hl.2
 refine cg aKU Tryz.func123 λA hA=>?_;cbv;refine qV q s (λb z t l1 hz ht=>?_);have q1:=q.mono l1;cases t with
 |false=>
  have J:V=W:=by rw[Y];unfold zr;rw[<-ht];rfl
  clear Y;subst J;refine q1.elim (λj n p I u r K v o g C x y B l S U _=>?_);have fin:=fin b (l1.kp _) q1 j n p I u r K v o g C x y B l;cbv;rw[av A];rw[av A];refine cr g ?_;cbv;refine AS S U s fh eU (λd L F f M G D E Z r4=>?_);cbv;rw[av A];rw[av A];refine ju (E _ _ g) (by simp) (λa P=>?_);have ay:=fin d L F f M G D E Z r4 a P;cbv;exact ay
 |true=>
  have J:V=W.eraseIdx (dC (dK W s)):=by rw[Y];unfold zr;rw[<-ht];rfl
  have aU:dC (dK W s)<W.length:=by have:=jk ht.symm;simpa[dK]using this
  generalize dC (dK W s)=i at *;clear Y;refine q1.elim (λj n p I u r K v o g C x y B l S U _=>?_);have jQ:=l.bd;have ko:=hz.succ (A:=A);have fC:i<n:=by omega
  have ag:V.length=n-1:=by rw[J,kQj aU];omega
  cbv;rw[av A];rw[av A];refine cr g ?_;cbv;refine Io l B hz ko fC (λd m hm k2 t2 o2=>?_);have X:d c=b c:=(k2 _ _ g (by simpa using oV)).trans g.symm;rw[<-J]at o2;have ar:=λa hh=>jV.ai (h':=a) g C x y S U (hm.trans ag.symm) t2 X o2 hh;have al:=X.trans g;cbv;rw[av A];rw[av A];refine ju al (by simp) (λa P=>?_);obtain⟨f,q3⟩:=ar a P;have ab:Kp [c,w] h a:=((l1.kp _).trans (k2.sub (by simp))).trans (f.sub (by simp));clear ar P;refine q3.elim (λj n p I u r K v o g C x y B l S U _=>?_);have fin:=fin a ab q3 j n p I u r K v o g C x y B l;cbv;rw[av A];rw[av A];refine cr g ?_;cbv;refine AS S U s fh eU (λh4 L F f M G D l4 Z r4=>?_);cbv;rw[av A];rw[av A];refine ju (l4 _ _ g) (by simp) (λh5 e5=>?_);have ay:=fin h4 L F f M G D l4 Z r4 h5 e5;cbv;exact ay
theorem Za{Q N O:Nat}{T:List ca}{W:List (eY×Bool)}(q:jV h c Q w N O T W H R e)(oV:c≠w)(s:Int)(fh:H.length<=2^38)(eU:R.length<=2^38)
 (hk:∀h',Kp [c,w] h h'->jV h' c Q w N O T (zr W s) (bR H s) (bR R s) e->k (.tuple #[]) h'):fXj 123 [.zP c,.int .i64 s] h k:=by
 obtain⟨A,hA⟩:=Ar.ex;obtain⟨V,Y⟩:∃V,V=zr W s:=⟨_,rfl⟩;rw[<-Y]at hk;have fin:∀(b:ad),Kp [c,w] h b->jV b c Q w N O T V H R e->∀(j n:Nat) (p:Option Addr) (I u:Nat) (r:Option Addr) (K v:Nat) (o:Int),b c=some (.cells #[.slice (zsA Q) j N,.slice (zsA w) n O,.slice p I u,.slice r K v,.int .u32 o,.int .i32 0,.int .u32 0,.int .i64 e] 148 (0,0))->
  ((o=0/\e=0)\/(o=1/\e≠0))->j=T.length->cZ 61 bN b Q N T->n=V.length->cZ 79 bV b w O V->
  ∀(d:ad) (L:Option Addr) (F f:Nat) (M:Option Addr) (G D:Nat),Le b d->Sl 253 bu d (.slice L F f) (bR H s)->Sl 253 bu d (.slice M G D) (bR R s)->
  ∀a,a=bL d c (.cells #[.slice (zsA Q) j N,.slice (zsA w) n O,.slice L F f,.slice M G D,.int .u32 o,.int .i32 0,.int .u32 0,.int .i64 e] 148 (0,0))->k (.tuple #[]) a:=
  λb k1 _ j n p I u r K v o g C x y B l d L F f M G D E Z r4 a P=>by
   have hl:=jV.Xt (E _ _ g) C x (y.mono (E.t _)) B (l.mono (E.t _)) Z r4 P;exact hk a ((k1.trans (E.kp _)).trans (hl.1.sub (by simp))) hl.2
 refine xB A (aj aKU.aw aKU.bq) Tryz.func123 rfl (by kernel_rfl) ?_;cbv;refine qV q s (λb z t l1 hz ht=>?_);have q1:=q.mono l1;cases t with
 |false=>
  have J:V=W:=by rw[Y];unfold zr;rw[<-ht];rfl
  clear Y;subst J;refine q1.elim (λj n p I u r K v o g C x y B l S U _=>?_);have fin:=fin b (l1.kp _) q1 j n p I u r K v o g C x y B l;cbv;rw[av A];rw[av A];refine cr g ?_;cbv;refine AS S U s fh eU (λd L F f M G D E Z r4=>?_);cbv;rw[av A];rw[av A];refine ju (E _ _ g) (by simp) (λa P=>?_);have ay:=fin d L F f M G D E Z r4 a P;cbv;exact ay
 |true=>
  have J:V=W.eraseIdx (dC (dK W s)):=by rw[Y];unfold zr;rw[<-ht];rfl
  have aU:dC (dK W s)<W.length:=by have:=jk ht.symm;simpa[dK]using this
  generalize dC (dK W s)=i at *;clear Y;refine q1.elim (λj n p I u r K v o g C x y B l S U _=>?_);have jQ:=l.bd;have ko:=hz.succ (A:=A);have fC:i<n:=by omega
  have ag:V.length=n-1:=by rw[J,kQj aU];omega
  cbv;rw[av A];rw[av A];refine cr g ?_;cbv;refine Io l B hz ko fC (λd m hm k2 t2 o2=>?_);have X:d c=b c:=(k2 _ _ g (by simpa using oV)).trans g.symm;rw[<-J]at o2;have ar:=λa hh=>jV.ai (h':=a) g C x y S U (hm.trans ag.symm) t2 X o2 hh;have al:=X.trans g;cbv;rw[av A];rw[av A];refine ju al (by simp) (λa P=>?_);obtain⟨f,q3⟩:=ar a P;have ab:Kp [c,w] h a:=((l1.kp _).trans (k2.sub (by simp))).trans (f.sub (by simp));clear ar P;refine q3.elim (λj n p I u r K v o g C x y B l S U _=>?_);have fin:=fin a ab q3 j n p I u r K v o g C x y B l;cbv;rw[av A];rw[av A];refine cr g ?_;cbv;refine AS S U s fh eU (λh4 L F f M G D l4 Z r4=>?_);cbv;rw[av A];rw[av A];refine ju (l4 _ _ g) (by simp) (λh5 e5=>?_);have ay:=fin h4 L F f M G D l4 Z r4 h5 e5;cbv;exact ay
structure Vf(z:Int)(i:Nat):Prop where
 eq:z=(i:Int)-1
theorem Vf.Cc(h:Vf z (i+1)):aZ z i:=⟨by have:=h.eq;omega⟩
theorem Vf.ge[a:bI A](h:Vf z i):A .aN .geq z 0=decide (1<=i):=by have:=h.eq;rw[cH A,decide_eq_decide];omega
theorem _root_.Go.Sx.aZ.pred[a:bI A](h:aZ z i)(b:i<2^62):Vf (A .aT .sub .i64 z 1) i:=⟨by
 have:=h.eq;rw[a.aT];simp only[aT];rw[IntWalk.i64_in _ (by omega)];omega⟩
abbrev Yd(l:Nat)(args:List Value)(h:ad)(R:Value->ad->Prop):Prop:=aKD (λ_=>Tryz.prog) l args h R
theorem aKx{xs:List cV}{bb l:Nat}(J:Nat->ad->Prop)(f:∀i a,J i a->a bb=some (.cells #[.slice b n c] 76 (0,0))/\Sl 161 bz a (.slice b n c) xs)
 (Y:∀i x a z cs,J (i+1) a->xs[i]? =some x->aZ z i->bz.R a cs x->Yd l [.int .i64 z,.agg cs.toArray] a (λv h'=>v=.bool true/\J i h'))  (h0:J n h) 
 (C:∀h',J 0 h'->k (.tuple #[]) h'):Ct 350 [.func (.yield l) #[] #[],.zP bb] h k:=by
 obtain⟨A,B⟩:=Ar.ex;obtain⟨u,q⟩:=f n h h0;have p:=q.len;have Q:=q.bound.1;have X:A .not true=false:=by rw[B.not];rfl
 have D:Vf (A .aT .sub .i64 (A .nat n) 1) n:=(aZ.nat n).pred (by omega);refine fz dKF A Tryz.func350 ?_;cbv;refine cr u ?_;cbv;refine aX.go (G:=Int) (λg=>[(3,.v (.int .i64 g))]) (λ_=>[]) (λm g h'=>∃i:Nat,Vf g i/\m=i/\i<=n/\J i h') n (A .aT .sub .i64 (A .nat n) 1) (by constructor<;>cbv) ⟨n,D,rfl,kB _,h0⟩ ?_
 intro m g h' I;cbv;obtain⟨i,o,M,H,j⟩:=I;rw[o.ge (A:=A)];cases i with
 |zero=>have y:=C h' j;rw[show decide (1<=0)=false from rfl];cbv;exact y
 |succ i=>
  obtain⟨w,s⟩:=f _ _ j;have L:aZ g i:=o.Cc;obtain⟨x,hx⟩:=cB xs i;have t:b.isSome=true/\0<=g/\g<(n:Int):=⟨s.bp,L.ix (by omega)⟩;have d:Vf (A .aT .sub .i64 g 1) i:=L.pred (by omega);rw[show decide (1<=i+1)=true from ak (by omega)];cbv;refine cr w ?_;cbv;refine⟨t,?_⟩;cbv;refine s.load hx L.eq (λcs r=>?_);have e:=Y i x h' g cs j hx L r;obtain⟨E,N,F,rfl,-⟩:=r;cbv;refine e.mono (λv K hR=>?_);obtain⟨rfl,W⟩:=hR;cbv;rw[X];cbv;refine⟨i,_,by omega,by constructor<;>cbv,i,d,rfl,by omega,W⟩
theorem MK(e:∀h' bb,h bb=none->Le h h'->h' bb=some (.cells #[.slice b n c] 76 (0,0))->k (.func (.func 350) #[] #[.zP bb]) h'):
 Ct 289 [.slice b n c] h k:=by
 refine cg eQG Tryz.func289 λA f=>?_;cbv;intro bb d z e1;have a:=e d bb z (by rw[e1];exact Le.set z) ((congrFun e1 bb).trans ae);cbv;exact a
def ux(r:Row)(key:Int):jd:=(r[key.toNat]?).getD ⟨0,0,jg⟩
def fV(T:List ca)(x:cV):List ca:=
 if iQ (aS T x.table)=true then
  match T[dC (aS T x.table)]? with
  |some t=>if decide (x.op=2)=true then T.set (dC (aS T x.table)) (bK t x.row).1
   else if(decide (t.S.key>=0)&&decide (t.S.key<(x.row.length:Int)))=true then T.set (dC (aS T x.table)) (bE t (ux x.row t.S.key)).1 else T
  |none=>T
 else T
def eB(T:List ca)(l:List cV):List ca:=l.foldr (λx T=>fV T x) T
def fF(n:Int)(len:Nat):Nat:=min n.toNat len
def mw(T:List ca):Prop:=∀t∈T,t.rows.length<=2^36
theorem CG(t:ca)(r:Row)(h:t.rows.length<=2^36):(bK t r).1.rows.length<=2^36:=by
 unfold bK;split
 .exact h
 split
 .exact h
 split
 .exact h
 rename_i a;have a:¬((t.rows.length:Int)>=200):=by simpa using a
 simp[BI];omega
theorem Ad(t:ca)(k:jd)(h:t.rows.length<=2^36):(bE t k).1.rows.length<=2^36:=by
 unfold bE;split
 .simp[Ez];omega
 exact h
theorem mw.set{T:List ca}(h:mw T){t:ca}(b:t.rows.length<=2^36)(i:Nat):mw (T.set i t):=λx hx=>by
 rcases jKs hx with a|a
 .exact h x a
 rw[a];exact b
theorem Ny{T:List ca}(h:mw T)(x:cV):mw (fV T x):=by
 unfold fV;split
 .split
  .rename_i t a;have:=h t (cK a);split
   .exact h.set (CG _ _ this) _
   split
   .exact h.set (Ad _ _ this) _
   exact h
  exact h
 exact h
theorem yO{T:List ca}(h:mw T):∀l,mw (eB T l)
 | []=>h
 |x::r=>Ny (yO h r) x
theorem Eo{T:List ca}{l:List cV}{x:cV}(hx:l[i]? =some x):eB T (l.drop i)=fV (eB T (l.drop (i+1))) x:=by obtain⟨h,a⟩:=ff.1 hx;rw[Rs h,a];rfl
theorem _root_.Go.Sx.Kp.dQY{e:Nat}{c:Array Value}{fr:Nat×Nat}(k:Kp [n] h h')(i:h n=some (.cells c e fr))(f:e∉tys):cO tys h h':=λb d j K m a=>
 k b _ a (by
  intro g;simp at g;rw[g,i]at a;cases a;exact f m)
theorem jV.VV{b g d:Nat}{T a:List ca}{W:List (eY×Bool)}{f:List bU}(q:jV h c b g d w T W H f e)(hl:a.length=T.length)(k:Kp [b] h h')(t:∀tys,61∉tys->cO tys h h')(o:cZ 61 bN h' b d a)(I:c≠b):jV h' c b g d w a W H f e:=by obtain⟨y,z,i,A,l,j,B,m,o1,n,x,p,C,r,s,u,v⟩:=q.out;exact⟨y,z,i,A,l,j,B,m,o1,k _ _ n (by simpa using I),x,by rw[hl];exact p,o,r,s.mono (t _ (by decide)),u.mono (t _ (by decide)),v.mono (t _ (by decide))⟩
theorem jV.lt{b d a:Nat}{T:List ca}{W:List (eY×Bool)}{t:List bU}(q:jV h c b d a w T W H t e)(hl:∀tys,cO tys h h'):jV h' c b d a w T W H t e:=by obtain⟨v,x,f,y,i,g,z,j,o,k,l,m,n,p,r,s,u⟩:=q.out;exact⟨v,x,f,y,i,g,z,j,o,hl [148] _ _ _ _ (by simp) k,l,m,n.mono (hl _),p,r.mono (hl _),s.mono (hl _),u.mono (hl _)⟩
theorem cO.oset{o:Obj}(f:∀c e fr,h n≠some (.cells c e fr)):cO tys h (bL h n o):=λb c e fr _ a=>by
 rw[ck (λd=>f c e fr (by rw[<-d];exact a))];exact a
theorem Kz[h:bI A](n:Int)(m:Nat):aZ (A .my (A .imax n 0) (A .nat m)) (fF n m):=⟨by
 rw[h.my,h.imax,h.nat];unfold fF;simp only[rz];omega⟩
theorem VB(n:Int)(m:Nat):fF n m<=m:=by unfold fF;omega
theorem VC{a v ct cw:Nat}{T:List ca}{W:List (eY×Bool)}{Wt:List bU}(q:jV h c a v ct cw T W H Wt e)(pI:c≠a)(oV:c≠v)(bo:mw T)(hz:aZ z i){w:eY×Bool}(hw:W[i]? =some w)(n:Int)
 (hk:∀h',Kp [a,v] h h'->jV h' c a v ct cw (eB T (w.1.log.drop (fF n w.1.log.length))) (W.set i (⟨w.1.s,w.1.log.take (fF n w.1.log.length),w.1.marks⟩,false)) H Wt e->k (.tuple #[]) h'):
 Ct 181 [.zP c,.int .i64 z,.int .i64 n] h k:=by
 obtain⟨A,hA⟩:=Ar.ex;obtain⟨⟨ws,wl,wm⟩,wg⟩:=w;refine q.elim (λn1 n2 b3 n3 c3 b4 n4 c4 o g0 ho g1 g2 g3 g4 g6 g7 _=>?_);have iv:i<W.length:=(ff.1 hw).1;have JA:(some (⟨v,0,none⟩:Addr)).isSome=true/\0<=z/\z<(n2:Int):=⟨rfl,hz.ix (by omega)⟩;refine nY A (aj gKF.aw (λs=>s==3)) Tryz.func181 rfl (by kernel_rfl) ?_;cbv;intro p3 h1 Ya e1;have M:Le h h1:=by rw[e1];exact Le.set Ya
 have f3:h1 p3=some (.cells #[.zP c] 134 (0,0)):=(congrFun e1 p3).trans ae;have q1:=q.mono M;have aK:=M _ _ g0;have cE:=(g4.sl g3).mono (M.t [79,161,45,183]);cbv;refine cr f3 ?_;cbv;rw[av A];rw[av A];refine cr aK ?_;cbv;refine⟨JA,?_⟩;cbv;refine oT cE hw hz.eq (λb1 m1 c1 aG _ ag=>?_);cbv;refine ag _ _ (Le.refl _) ?_;have rX:=aG.len;have rX:m1=wl.length:=rX;have Tn:=Kz (A:=A) n m1;have aE:=VB n m1;rw[rX]at Tn aE;obtain⟨f,aw⟩:∃f,f=fF n wl.length:=⟨_,rfl⟩;rw[<-aw]at Tn aE;have jC:0<=A .my (A .imax n 0) (A .nat m1)/\A .my (A .imax n 0) (A .nat m1)<=(m1:Int):=by rw[rX];have:=Tn.eq;omega
 rw[<-rX]at Tn;have Ib:=aG.jD (A:=A) Tn (by omega) rfl rfl;have Ib:Sl 161 bz h1 _ (wl.drop f):=Ib;have bl:=cJ (A:=A) (n:=m1) Tn;have bQ:=cJ (A:=A) (n:=c1) Tn;cbv;refine⟨jC,?_⟩;cbv;rw[bl,bQ];refine MK (λh2 bb zR N fb=>?_);cbv;refine⟨λm l o1 o2 hm hl ao aI cd hY=>?_⟩;obtain⟨xs,Ce⟩:∃xs,xs=wl.drop f:=⟨_,rfl⟩;rw[<-Ce]at Ib;obtain⟨hb,R⟩:∃hb,hb=bL (bL h2 m (.deferred (some []))) l o1:=⟨_,rfl⟩;have E:Le h2 hb:=by rw[R];exact(Le.set hm).trans (Le.set (by rw[ck (Ne.symm ao)];exact hl))
 have fl:hb l=some o1:=by rw[R];exact ae
 have fm:hb m=some (.deferred (some [])):=by rw[R,ck ao];exact ae
 have cG:=E _ _ fb;have cL:=E _ _ (N _ _ f3);have qb:=(q1.mono N).mono E;have aC:=Ib.mono ((N.trans E).t _);have aB:=N.trans E;rw[<-R];obtain⟨db,ni,-⟩:=g2.out;have bM:=aB _ _ (M _ _ ni);have cq:bb≠a:=λe=>by rw[e,M _ _ ni]at zR;cases zR
 have n3:p3≠a:=λe=>by rw[e,ni]at Ya;cases Ya
 have nl:l≠a:=λe=>by rw[e,N _ _ (M _ _ ni)]at hl;cases hl
 have nm:m≠a:=λe=>by rw[e,N _ _ (M _ _ ni)]at hm;cases hm
 have dm:l≠c:=λe=>by rw[e,N _ _ aK]at hl;cases hl
 have cv:p3≠l:=λe=>by rw[<-e,N _ _ f3]at hl;cases hl
 have aU:∀tys p,61∉tys->Kp [a] hb p->cO tys hb p:=λtys p ht k=>Kp.dQY k bM ht;obtain⟨J,D⟩:∃J:Nat->ad->Prop,∀i p,J i p=(p l=some o1/\Kp [a] hb p/\jV p c a v ct cw (eB T (xs.drop i)) W H Wt e):=⟨_,λ_ _=>rfl⟩;refine aKx (n:=m1-f) J (λi p Y=>by rw[D]at Y;exact⟨Y.2.1 _ _ cG (by simpa using cq),aC.mono (aU _ _ (by decide) Y.2.1)⟩) ?_ (by rw[D];exact⟨fl,Kp.refl _ _,by rw[RR (by rw[<-Ib.len];exact kB _)];exact qb⟩) ?_
 .intro j x p zj cs Y hx cP r;have LW:=Y;rw[D]at LW;obtain⟨QK,fG,ax⟩:=LW;clear Y;refine hY [.int .i64 zj,.agg cs.toArray] p _ rfl QK ?_;obtain⟨bx,nx,cx,rfl,qx⟩:=r;obtain⟨xt,xo,xr⟩:=x;have qx:Sl 45 bA p (.slice bx nx cx) xr:=qx;cbv;refine⟨QK,?_⟩;obtain⟨S,e3⟩:∃S,S=bL p l o2:=⟨_,rfl⟩;rw[<-e3];obtain⟨d,TA⟩:∃d,d=eB T (xs.drop (j+1)):=⟨_,rfl⟩;have bB:mw d:=by rw[TA];exact yO bo _
  have bd:eB T (xs.drop j)=fV d ⟨xt,xo,xr⟩:=by rw[TA];exact Eo hx
  obtain⟨T0,Q⟩:∃T0,T0=fV d ⟨xt,xo,xr⟩:=⟨_,rfl⟩;have Ds:S l=some o2:=by rw[e3];exact ae
  have aq:∀tys,cO tys p S:=λtys=>by rw[e3];exact cO.oset (λc e fr G=>by rw[QK]at G;cases G;exact aI _ _ _ rfl)
  have fin:∀h',Kp [a] S h'->jV h' c a v ct cw T0 W H Wt e->h' l=some o2/\J j (bL h' l o1):=λh' k' q'=>by
   have aA:=k' _ _ Ds (by simpa using nl);rw[D];refine⟨aA,ae,λb o L O=>?_,?_⟩
   .by_cases Du:b=l
    .rw[Du,fl]at L;cases L;rw[Du];exact ae
    rw[ck Du];refine k' _ _ ?_ O;rw[e3,ck Du];exact fG _ _ L O
   rw[bd,<-Q];exact q'.lt (λtys=>cO.oset (λc e fr G=>by rw[aA]at G;cases G;exact cd _ _ _ rfl))
  rw[<-TA]at ax;have q3:=ax.lt aq;have Ja:=qx.mono (aq _);have aF:S p3=some (.cells #[.zP c] 134 (0,0)):=by rw[e3,ck cv];exact fG _ _ cL (by simpa using n3)
  clear e3 aq ax qx TA bd hY Ib aC;clear Ce;refine cr aF ?_;cbv;refine vp q3 xt (λg zt t l4 tX ht=>?_);have Z:=q3.mono l4;cases t with
  |false=>
   have U:T0=d:=by rw[Q];unfold fV;rw[<-ht];rfl
   have y:=fin g (l4.kp _) (by rw[U];exact Z);cbv;rw[show A .not false=true by rw[hA.not];rfl];cbv;exact y
  |true=>
   have zM:dC (aS d xt)<d.length:=by have:=jk ht.symm;simpa[aS]using this
   obtain⟨⟨⟨B,I,tk,C⟩,K⟩,Oy⟩:=aJ zM;have U:T0=if decide (xo=2)=true then d.set (dC (aS d xt)) (bK ⟨⟨B,I,tk,C⟩,K⟩ xr).1
    else if(decide (tk>=0)&&decide (tk<(xr.length:Int)))=true then d.set (dC (aS d xt)) (bE ⟨⟨B,I,tk,C⟩,K⟩ (ux xr tk)).1 else d:=by rw[Q];unfold fV;rw[<-ht,Oy];rfl
   have dc:K.length<=2^36:=bB ⟨⟨B,I,tk,C⟩,K⟩ (cK Oy);generalize dC (aS d xt)=ti at *;clear Q ht;refine Z.elim (λu1 u2 y3 v3 w3 y4 v4 w4 oo G0 Ho G1 G2 G3 G4 G6 G7 _=>?_);have FL:(some (⟨a,0,none⟩:Addr)).isSome=true/\0<=zt/\zt<(u1:Int):=⟨rfl,tX.ix (by omega)⟩;have F:=G2.sl G1;have br:=l4 _ _ aF;have tg:=Ja.mono (l4.t _);cbv;rw[show A .not true=false by rw[hA.not];rfl];cbv;refine cr br ?_;cbv;rw[av A];rw[av A];refine cr G0 ?_;cbv;refine⟨FL,?_⟩;cbv;generalize eu:A .aN .eql xo 2=u;rw[au A]at eu;cases u with
   |true=>
    rw[if_pos eu]at U;cbv;refine zb F Oy tX.eq (λd1 p1 r1 d2 p2 r2 s1 s2=>?_);cbv;have zd:=s2.len;have zd:p2=K.length:=zd;refine WX (nm:=B) (key:=tk) (only:=C) s1 s2 tg (by omega) (λh5 b1 n1 k1 b2 n2 k2 T' e' l5 r1 r2 r3=>?_);have bL:(bK ⟨⟨B,I,tk,C⟩,K⟩ xr).1=⟨⟨B,I,tk,C⟩,T'⟩:=by rw[<-r3]
    rw[bL]at U;cbv;refine(G2.mono (l5.t _)).setAt (by decide) zM tX.eq rfl (x:=⟨⟨B,I,tk,C⟩,T'⟩) ⟨_,_,_,_,_,_,rfl,r1,r2⟩ (λV k6 t6 o6=>?_);rw[<-U]at o6;have y:=fin V (((l4.trans l5).kp _).trans k6) (jV.VV (Z.mono l5) (by rw[U];simp) k6 t6 o6 pI);cbv;exact y
   |false=>
    rw[if_neg (by rw[eu];simp)]at U;have an:=tg.len;have an:nx=xr.length:=an;generalize eg:A .aN .geq tk 0=ug;have fg:=eg;rw[cH A]at eg;rw[eg]at U;generalize el:A .aN .lss tk (A .nat nx)=ul;have bc:=el;rw[aR A,hA.nat,an,show Int.ofNat xr.length=(xr.length:Int)from rfl]at el;rw[el]at U;cbv;refine F.BY Oy tX.eq (o1:=0) (o2:=2) (m:=1) (by decide) (λcs r=>?_);obtain⟨d1,p1,r1,d2,p2,r2,rfl,s1,s2⟩:=r;have s1:Sl 202 bH g (.slice d1 p1 r1) I:=s1;have s2:Sl 46 bF g (.slice d2 p2 r2) K:=s2;have zd:=s2.len;have zd:p2=K.length:=zd;cases ug with
    |false=>have y:=fin g (l4.kp _) (by rw[U];exact Z);cbv;rw[fg];cbv;exact y
    |true=>
     have fM:tk>=0:=lA eg;cbv;rw[fg];cbv;refine F.BY Oy tX.eq (o1:=0) (o2:=2) (m:=1) (by decide) (λcs r=>?_);obtain⟨d1,p1,r1,d2,p2,r2,rfl,-,-⟩:=r;cbv;cases ul with
     |false=>have y:=fin g (l4.kp _) (by rw[U];exact Z);cbv;rw[bc];cbv;exact y
     |true=>
      have fG:tk<(xr.length:Int):=lA el;have bX:tk.toNat<xr.length:=by omega
      have aH:aZ tk tk.toNat:=⟨(Int.toNat_of_nonneg fM).symm⟩;obtain⟨⟨vk,vn,vs⟩,hv⟩:=aJ bX;have ch:ux xr tk=⟨vk,vn,vs⟩:=by unfold ux;rw[hv];rfl
      have bk:bx.isSome=true/\0<=tk/\tk<(nx:Int):=⟨tg.bp,aH.ix (by omega)⟩;rw[ch]at U;have bj:tk=((tk.toNat:Nat):Int):=aH.eq;generalize tk.toNat=kk at *;cbv;rw[bc];cbv;refine zb F Oy tX.eq (λd1 p1 r1 d2 p2 r2 s1 s2=>?_);have zd:=s2.len;have zd:p2=K.length:=zd;cbv;refine F.BY Oy tX.eq (o1:=0) (o2:=2) (m:=1) (by decide) (λcs r=>?_);obtain⟨d3,dk,r3,d4,dj,r4,rfl,-,-⟩:=r;cbv;refine⟨bk,?_⟩;cbv;refine tg.load hv bj (λcs r=>?_);have r:cs=[.int .i64 vk,.int .i64 vn,.string vs]:=r;subst r;cbv;refine PT (nm:=B) (key:=tk) (only:=C) s1 s2 (by omega) ⟨vk,vn,vs⟩ (λh5 b1 n1 k1 b2 n2 k2 b3 n3 k3 T' R' e' l5 r1 r2 di r3=>?_);have bL:(bE ⟨⟨B,I,tk,C⟩,K⟩ ⟨vk,vn,vs⟩).1=⟨⟨B,I,tk,C⟩,T'⟩:=by rw[<-r3]
      have U:T0=d.set ti (bE ⟨⟨B,I,tk,C⟩,K⟩ ⟨vk,vn,vs⟩).1:=U;rw[bL]at U;cbv;refine(G2.mono (l5.t _)).setAt (by decide) zM tX.eq rfl (x:=⟨⟨B,I,tk,C⟩,T'⟩) ⟨_,_,_,_,_,_,rfl,r1,r2⟩ (λV k6 t6 o6=>?_);rw[<-U]at o6;have y:=fin V (((l4.trans l5).kp _).trans k6) (jV.VV (Z.mono l5) (by rw[U];simp) k6 t6 o6 pI);cbv;exact y
 intro S Y;rw[D]at Y;obtain⟨Ds,Dt,cb⟩:=Y;refine⟨Ds,λo3 DP=>?_⟩;obtain⟨g,e4⟩:∃g,g=bL S l o3:=⟨_,rfl⟩;rw[<-e4];have cz:∀tys,cO tys S g:=λtys=>by rw[e4];exact cO.oset (λc e fr G=>by rw[Ds]at G;cases G;exact aI _ _ _ rfl)
 have Z:=cb.lt cz;rw[kQi,Ce]at Z;have aW:g m=some (.deferred (some [])):=by rw[e4,ck ao];exact Dt _ _ fm (by simpa using nm)
 have bD:∀b o,h b=some o->b∉[a,v]->g b=some o:=λb o L O=>by
  have Du:b≠l:=λe=>by rw[e]at L;rw[N _ _ (M _ _ L)]at hl;cases hl
  rw[e4,ck Du];exact Dt _ _ (aB _ _ (M _ _ L)) (by simp at O |-;exact O.1)
 refine Z.elim (λu1 u2 y3 v3 w3 y4 v4 w4 oo G0 Ho G1 G2 G3 G4 G6 G7 _=>?_);cbv;refine oT (G4.sl G3) hw hz.eq (λgE X fH al _ bq=>?_);have P:=al.len;have P:X=wl.length:=P;have Yp:=Kz (A:=A) n X;rw[P,<-aw]at Yp;have Yp:aZ (A .my (A .imax n 0) (A .nat X)) f:=by rw[P];exact Yp
 have dd:=al.bound.2;have YF:0<=A .my (A .imax n 0) (A .nat X)/\A .my (A .imax n 0) (A .nat X)<=(fH:Int):=by have:=Yp.eq;omega
 have Np:=al.Ht (A:=A) (i:=f) (by omega);have gI:=dy (A:=A) Yp;cbv;refine bq _ _ (Le.refl _) ?_;cbv;refine⟨YF,?_⟩;cbv;rw[gI];have ab:Sl 161 bz g _ (wl.take f):=Np;have ab:Sl 161 bz g (.slice (A .cut gE 0 (A .nat fH) 3) f fH) (wl.take f):=ab;refine G4.KT (by decide) hw hz.eq rfl (off:=1) (by simp[bV]) (x':=(⟨ws,wl.take f,wm⟩,false)) (λcs r=>?_) (λh5 k5 t5 o5=>?_)
 .obtain⟨x1,y1,z1,x2,y2,z2,rfl,j1,j2,j3⟩:=r;exact⟨_,_,_,_,_,_,rfl,ab,j2,λhf=>by cases hf⟩
 have bS:∀b o,g b=some o->b≠v->h5 b=some o:=λb o kW gZ=>k5 b o kW (by simpa using gZ);have cp:m≠v:=λe=>by
  obtain⟨de,aD,-⟩:=G4.out;rw[<-e,aW]at aD;cases aD
 have aM:=bS _ _ aW cp;have q5:jV h5 c a v ct cw (eB T (wl.drop f)) (W.set i (⟨ws,wl.take f,wm⟩,false)) H Wt e:=by refine⟨u1,u2,y3,v3,w3,y4,v4,w4,oo,bS _ _ G0 oV,Ho,G1,G2.mono (t5 _ (by decide)),by rw[nM];exact G3,o5,G6.mono (t5 _ (by decide)),G7.mono (t5 _ (by decide))⟩
 obtain⟨V,e6⟩:∃V,V=bL h5 m (.deferred none):=⟨_,rfl⟩;have q6:jV V c a v ct cw (eB T (wl.drop f)) (W.set i (⟨ws,wl.take f,wm⟩,false)) H Wt e:=q5.lt (λtys=>by rw[e6];exact cO.oset (λc e fr G=>by rw[aM]at G;cases G));have k6:Kp [a,v] h V:=λb o L O=>by
  have cn:b≠m:=λe=>by rw[e]at L;rw[N _ _ (M _ _ L)]at hm;cases hm
  rw[e6,ck cn];exact bS _ _ (bD b o L O) (by simp at O;exact O.2)
 rw[aw]at q6;have y:=hk V k6 q6;rw[e6]at y;cbv;exact⟨aM,y⟩
def Iz(T:List ca)(W:List (eY×Bool))(s:Int):List ca:=
 if iQ (dK W s)=true then match W[dC (dK W s)]? with
  |some w=>eB T w.1.log
  |none=>T
 else T
theorem Kq{W:List (eY×Bool)}{w w':eY×Bool}(h:W[i]? =some w)(b:w'.1.s=w.1.s)(s:Int):dK (W.set i w') s=dK W s:=by
 unfold dK;rw[jKI];apply yr;intro j;rw[VS];split
 .rename_i e;subst e;split
  .rw[kS,h];simp[b]
  rename_i a;have:=(ff.1 h).1;simp at a;omega
 rfl
theorem TV{a:Type}{W:List a}{x:a}:(W.set i x).eraseIdx i=W.eraseIdx i:=by exact List.eraseIdx_set_eq
theorem ZK{o x B:Nat}{T:List ca}{W:List (eY×Bool)}{p:List bU}(q:jV h c n o x B T W H p e)(O:c≠n)(V:c≠o)(J:mw T)(s:Int)(C:H.length<=2^38)(U:p.length<=2^38)
 (r:∀h',Kp [c,n,o] h h'->jV h' c n o x B (Iz T W s) (zr W s) (bR H s) (bR p s) e->k (.tuple #[]) h'):Ct 75 [.zP c,.int .i64 s] h k:=by
 obtain⟨A,Q⟩:=Ar.ex;obtain⟨g,j⟩:∃g,g=Iz T W s:=⟨_,rfl⟩;obtain⟨l,f⟩:∃l,l=zr W s:=⟨_,rfl⟩;rw[<-j,<-f]at r;refine nY A (aj hJL.aw hJL.bq) Tryz.func75 rfl (by kernel_rfl) ?_;cbv;refine qV q s (λP z t v F b=>?_);have G:=q.mono v;cases t with
 |false=>
  have a:g=T:=by rw[j];unfold Iz;rw[<-b];rfl
  cbv;refine Za G V s C U (λD u d=>?_);rw[<-f,<-a]at d;have y:=r D ((v.kp _).trans (u.sub (by simp))) d;cbv;exact y
 |true=>
  have K:dC (dK W s)<W.length:=by have:=jk b.symm;simpa[dK]using this
  obtain⟨w,m⟩:=aJ K;have a:g=eB T w.1.log:=by rw[j];unfold Iz;rw[<-b,m];rfl
  have Z:l=W.eraseIdx (dC (dK W s)):=by rw[f];unfold zr;rw[<-b];rfl
  obtain⟨i,E⟩:∃i,i=dC (dK W s):=⟨_,rfl⟩;rw[<-E]at F m Z;clear j f;cbv;refine VC G O V J F m 0 (λD u d=>?_);have h0:fF 0 w.1.log.length=0:=by unfold fF;simp
  rw[h0,kQi,<-a]at d;cbv;refine Za d V s C U (λL N I=>?_);have M:zr (W.set i (⟨w.1.s,w.1.log.take 0,w.1.marks⟩,false)) s=l:=by unfold zr;rw[Kq m (by rfl),<-b,<-E,Z];rw[if_pos rfl,TV]
  rw[M]at I;have y:=r L (((v.kp _).trans (u.sub (by simp))).trans (N.sub (by simp))) I;cbv;exact y
def Wf(ws:List eY):List (eY×Bool):=ws.map λw=>(w,true)
def xW(ws:List eY)(s:Int):List eY:=if iQ (bW ws s)=true then ws.eraseIdx (dC (bW ws s))else ws
def uI(T:List ca)(ws:List eY)(s:Int):List ca:=
 if iQ (bW ws s)=true then match ws[dC (bW ws s)]? with
  |some w=>eB T w.log
  |none=>T
 else T
def jE(d:DB)(s:Int):DB:=⟨uI d.ao d.ai s,xW d.ai s,bR d.holds s,bR d.waits s⟩
def mR:Nat->DB->bU->DB×Int
 |0,d,_=>(d,16)
 |f+1,d,hd=>
  if bP d.holds hd=true then(⟨d.ao,d.ai,cS d.holds hd,cY d.holds d.waits hd⟩,0)
  else if(dx (cQ (cS d.holds hd) (cY d.holds d.waits hd)) hd.s).2=true then
   if decide ((dx (cQ (cS d.holds hd) (cY d.holds d.waits hd)) hd.s).1=hd.s)=true then(jE ⟨d.ao,d.ai,cS d.holds hd,cY d.holds d.waits hd⟩ (dx (cQ (cS d.holds hd) (cY d.holds d.waits hd)) hd.s).1,17)
   else mR f (jE ⟨d.ao,d.ai,cS d.holds hd,cY d.holds d.waits hd⟩ (dx (cQ (cS d.holds hd) (cY d.holds d.waits hd)) hd.s).1) hd
  else(⟨d.ao,d.ai,cS d.holds hd,cY d.holds d.waits hd⟩,16)
def cA(d:DB)(hd:bU):DB×Int:=if GJ d hd=true then mR (d.holds.length+1) d hd else(d,2)
theorem pj(w:List eY)(s:Int):dK (Wf w) s=bW w s:=by simp[dK,bW,Wf]
theorem JI(w:List eY)(s:Int):zr (Wf w) s=Wf (xW w s):=by
 unfold zr xW;rw[pj];split
 .unfold Wf;rw[jKM,jKM];simp[kQE,kQD]
 rfl
theorem ML(T:List ca)(w:List eY)(s:Int):Iz T (Wf w) s=uI T w s:=by
 unfold Iz uI;rw[pj];split
 .unfold Wf;rw[kS];cases w[dC (bW w s)]? <;>rfl
 rfl
theorem Iy(E:List (Int×Int)):∀(l:List Int) (st:List Int×List Int),(∀k∈l,k∈E.map (·.2))->(∀k∈st.1,k∈E.map (·.2))->∀k∈(l.foldl dN st).1,k∈E.map (·.2)
 | [],st,_,a=>a
 |x::r,st,b,a=>by
  rw[kQr];refine Iy E r _ (λk h=>b k (jKQ _ h)) (λk h=>?_);unfold dN at h;split at h
  .exact a k h
  rcases wy.1 h with h|h
  .exact a k h
  simp at h;rw[h];exact b x (by simp)
theorem ZF(E:List (Int×Int)):∀(n:Nat) (st:List Int×List Int),(∀k∈st.1,k∈E.map (·.2))->∀k∈aKr E n st,k∈E.map (·.2)
 |0,st,h=>h
 |n+1,(seen,[]),h=>h
 |n+1,(seen,a::r),h=>by
  unfold aKr;refine ZF E n _ (Iy E _ _ (λk b=>?_) h);unfold da at b;obtain⟨p,c,rfl⟩:=xz.1 b;exact xz.2 ⟨p,(jKn.1 c).1,rfl⟩
theorem xh{E:List (Int×Int)}{k:Int}(h:k∈over E s):k∈E.map (·.2):=ZF E _ _ (λ_ h=>by cases h) k h
theorem ua{W:List bU}{k:Int}(h:k∈(cQ H W).map (·.2)):∃x∈H,x.s=k:=by obtain⟨p,a,rfl⟩:=xz.1 h;unfold cQ at a;obtain⟨w,b,a⟩:=List.mem_flatMap.1 a;unfold iW at a;obtain⟨x,hx,rfl⟩:=xz.1 a;exact⟨x,(jKn.1 hx).1,rfl⟩
theorem aXf{k:Int}(h:∃x∈H,x.s=k):(bR H k).length<H.length:=by
 obtain⟨x,hx,c⟩:=h;unfold bR;rcases wM (H.filter λh=>decide (h.s≠k)).length H.length with a|a
 .exact a
 have b:=kXE.1 (Nat.le_antisymm (jKe _ _) a) x hx;simp[c]at b
theorem vf{W:List bU}(h:(dx (cQ H W) s).2=true):(bR H (dx (cQ H W) s).1).length<H.length:=by
 have v:=(pJ (cQ H W) s).out;rcases v with⟨b,-⟩|⟨-,c,-,a,-⟩
 .rw[h]at b;cases b
 refine aXf (ua (W:=W) ?_);rcases a with a| ⟨a,-⟩
 .rw[a];exact xh c
 exact xh a
theorem uh{T:List ca}(h:mw T)(w:List eY)(s:Int):mw (uI T w s):=by
 unfold uI;split
 .split
  .exact yO h _
  exact h
 exact h
theorem CB{W:List bU}:(cY H W hd).length<=(bR W hd.s).length+1:=by unfold cY;split<;>simp
theorem BB{W:List bU}:(bR (cY H W hd) hd.s).length<=(bR W hd.s).length:=by
 have h:bR (bR W hd.s) hd.s=bR W hd.s:=by unfold bR;rw[kQG];simp
 unfold cY;split
 .rw[h];exact kB _
 have:bR (bR W hd.s++[hd]) hd.s=bR W hd.s:=by
  have a:bR (bR W hd.s++[hd]) hd.s=bR (bR W hd.s) hd.s++bR [hd] hd.s:=by unfold bR;rw[jKC]
  rw[a,h];simp[bR]
 rw[this];exact kB _
theorem BA(W:List bU)(a b:Int):bR (bR W a) b=bR (bR W b) a:=by unfold bR;rw[kQG,kQG];congr 1;funext x;rw[Bool.and_comm]
theorem Js{r Z cw:Nat}(q:jV h c r w Z cw d.ao (Wf d.ai) d.holds d.waits e)(hd:bU)(pI:c≠r)(oV:c≠w)(aC:mw d.ao)
 (hH:d.holds.length<2^18) (aB:d.waits.length<2^18) {D:DB×Int} (hD:cA d hd=D) 
 (hk:∀h',Kp [c,r,w] h h'->jV h' c r w Z cw D.1.ao (Wf D.1.ai) D.1.holds D.1.waits e->k (.int .i64 D.2) h'):
 Ct 115 [.zP c,.int .i64 hd.s,.string hd.table,.bool hd.x] h k:=by
 obtain⟨A,hA⟩:=Ar.ex;obtain⟨a,b,hx⟩:=hd;obtain⟨L0,aA⟩:∃L,L=(bR d.waits a).length:=⟨_,rfl⟩;have bc:L0<2^18:=by have:=gK d.waits a;omega
 have fX:A .not true=false:=by rw[hA.not];rfl
 have rG:A .not false=true:=by rw[hA.not];rfl
 refine fz aKY A Tryz.func115 ?_;cbv;intro p4 h1 Y e1;cbv;intro p5 h2 al e2;cbv;intro p6 h3 ao e3;cbv;intro p7 h4 an e4;have l1:Le h h1:=by rw[e1];exact Le.set Y
 have l2:Le h1 h2:=by rw[e2];exact Le.set al
 have l3:Le h2 h3:=by rw[e3];exact Le.set ao
 have l4:Le h3 h4:=by rw[e4];exact Le.set an
 have F:h4 p4=some (.cells #[.zP c] 134 (0,0)):=((l2.trans l3).trans l4) _ _ ((congrFun e1 p4).trans ae);have g5:h4 p5=some (.cells #[.int .i64 a] 3 (0,0)):=(l3.trans l4) _ _ ((congrFun e2 p5).trans ae);have g6:h4 p6=some (.cells #[.string b] 9 (0,0)):=l4 _ _ ((congrFun e3 p6).trans ae);have g7:h4 p7=some (.cells #[.bool hx] 4 (0,0)):=(congrFun e4 p7).trans ae;have X:=((l1.trans l2).trans l3).trans l4;have q4:=q.mono X;have kD:∀p,h p=none->p∉[c,r,w]:=λp R hm=>by
  obtain⟨n1,n2,b3,n3,c3,b4,n4,c4,o,g0,-,-,g2,-,F,-⟩:=q.out;obtain⟨x1,g2,-⟩:=g2.out;obtain⟨x2,F,-⟩:=F.out;simp at hm;rcases hm with rfl|rfl|rfl
  .rw[g0]at R;cases R
  .rw[g2]at R;cases R
  rw[F]at R;cases R
 have n4:=kD p4 Y;have n5:=kD p5 (l1.none al);have n6:=kD p6 ((l1.trans l2).none ao);have n7:=kD p7 (((l1.trans l2).trans l3).none an);have HJ:∀ {hh:ad} (l:Le h hh),GJ d ⟨a,b,hx⟩=false->k (.int .i64 2) hh:=λ{hh} l xQ=>by
  have UU:D=(d,2):=by rw[<-hD];unfold cA;rw[xQ];rfl
  have:=hk hh (l.kp _) (by rw[UU];exact q.mono l);rw[UU]at this;exact this
 cbv;refine cr F ?_;cbv;refine cr g5 ?_;cbv;refine qV q4 a (λh5 z1 t1 l5 ko U=>?_);rw[pj]at U;have ag:=X.trans l5;cases t1 with
 |false=>have E:=HJ ag (by unfold GJ;rw[<-U];rfl);cbv;rw[rG];cbv;exact E
 |true=>
  cbv;rw[fX];cbv;refine cr (l5 _ _ F) ?_;cbv;refine cr (l5 _ _ g6) ?_;cbv;refine vp (q4.mono l5) b (λh6 z2 t2 l6 lN AG=>?_);have zK:=ag.trans l6;have T:=l5.trans l6;cases t2 with
  |false=>have E:=HJ zK (by unfold GJ;rw[<-U,<-AG];rfl);cbv;rw[rG];cbv;exact E
  |true=>
   have aD:mR (d.holds.length+1) d ⟨a,b,hx⟩=D:=by rw[<-hD];unfold cA;rw[show GJ d ⟨a,b,hx⟩=true by unfold GJ;rw[<-U,<-AG];rfl];rfl
   have q6:=q4.mono T;have f4:=T _ _ F;have f5:=T _ _ g5;have f6:=T _ _ g6;have f7:=T _ _ g7;clear hD HJ F g5 g6 g7 e1 e2 e3 e4 U AG;obtain⟨I,gQ⟩:∃I:Nat->ad->Prop,∀m h',I m h'=∃x:DB,x.holds.length<m/\x.holds.length<2^18/\x.waits.length<=2^18/\(bR x.waits a).length<=L0/\mw x.ao/\mR m x ⟨a,b,hx⟩=D/\Kp [c,r,w] h6 h'/\jV h' c r w Z cw x.ao (Wf x.ai) x.holds x.waits e:=⟨_,λ_ _=>rfl⟩;cbv;rw[fX];cbv;refine aX.go (G:=Unit) (λ_=>[]) (λ_=>[]) (λn g h'=>I n h') (d.holds.length+1) () (by constructor<;>cbv) (by rw[gQ];exact⟨d,by omega,hH,kQC aB,by rw[aA];exact kB _,aC,aD,Kp.refl _ _,q6⟩) ?_
   intro m g h' hI;rw[gQ]at hI;cbv;obtain⟨⟨dT,y,i,j⟩,hm,kW,gZ,xU,V,M,J,hq⟩:=hI;have hq:jV h' c r w Z cw dT (Wf y) i j e:=hq;have kW:i.length<2^18:=kW;have gZ:j.length<=2^18:=gZ;have xU:(bR j a).length<=L0:=xU;have hm:i.length<m:=hm;obtain⟨f,rfl⟩:∃f,m=f+1:=⟨m-1,by omega⟩;have k4:=J _ _ f4 n4;have k5:=J _ _ f5 n5;have k6:=J _ _ f6 n6;have k7:=J _ _ f7 n7;have nE:=Be (H:=i) (hd:=⟨a,b,hx⟩);have lq:=CB (H:=i) (W:=j) (hd:=⟨a,b,hx⟩);have lq:(cY i j ⟨a,b,hx⟩).length<=(bR j a).length+1:=lq;have Ds:=BB (H:=i) (W:=j) (hd:=⟨a,b,hx⟩);have Ds:(bR (cY i j ⟨a,b,hx⟩) a).length<=(bR j a).length:=Ds;have aI:bP i ⟨a,b,hx⟩=false->cS i ⟨a,b,hx⟩=i:=λhf=>by unfold cS;rw[hf];rfl
   have K:=vf (H:=cS i ⟨a,b,hx⟩) (W:=cY i j ⟨a,b,hx⟩) (s:=a);unfold mR at M;have M:(if bP i ⟨a,b,hx⟩=true then((⟨dT,y,cS i ⟨a,b,hx⟩,cY i j ⟨a,b,hx⟩⟩,0):DB×Int)
    else if(dx (cQ (cS i ⟨a,b,hx⟩) (cY i j ⟨a,b,hx⟩)) a).2=true then
     if decide ((dx (cQ (cS i ⟨a,b,hx⟩) (cY i j ⟨a,b,hx⟩)) a).1=a)=true then(jE ⟨dT,y,cS i ⟨a,b,hx⟩,cY i j ⟨a,b,hx⟩⟩ (dx (cQ (cS i ⟨a,b,hx⟩) (cY i j ⟨a,b,hx⟩)) a).1,17)
     else mR f (jE ⟨dT,y,cS i ⟨a,b,hx⟩,cY i j ⟨a,b,hx⟩⟩ (dx (cQ (cS i ⟨a,b,hx⟩) (cY i j ⟨a,b,hx⟩)) a).1) ⟨a,b,hx⟩
    else(⟨dT,y,cS i ⟨a,b,hx⟩,cY i j ⟨a,b,hx⟩⟩,16))=D:=M
   refine(QG (hd:=⟨a,b,hx⟩) hq k4 k5 k6 k7 (by omega) (by omega)).mono (λv h7 hR=>?_);obtain⟨aq,t,rfl,et,q7⟩:=hR;have N:Kp [c,r,w] h h7:=((zK.kp _).trans J).trans (aq.sub (by simp));have Q:Kp [c,r,w] h6 h7:=J.trans (aq.sub (by simp));have aM:=et;rw[<-et]at M;generalize cS i ⟨a,b,hx⟩=P at *;generalize cY i j ⟨a,b,hx⟩=C at *;cases t with
   |true=>have M:((⟨dT,y,P,C⟩,0):DB×Int)=D:=M;subst M;have E:=hk h7 N q7;cbv;rw[fX];cbv;exact E
   |false=>
    have aF:=aI et.symm;refine q7.elim (λu1 u2 y3 v3 w3 y4 v4 w4 oo G0 Ho G1 G2 G3 G4 Q6 Q7 _=>?_);have aK:=Q6.len;have aU:=Q7.len;have j4:=Q _ _ f4 n4;have j5:=Q _ _ f5 n5;cbv;rw[rG];cbv;refine cr j4 ?_;cbv;rw[av A];rw[av A];refine cr G0 ?_;cbv;refine cr j5 ?_;cbv;refine(Hk Q6 Q7 (by omega) (by omega) a).mono (λv h8 hR=>?_);obtain⟨S,z,tv,rfl,Dn⟩:=hR;obtain⟨XH,ab⟩:=Dn.eq;rw[<-XH,<-ab]at M;rw[<-ab,<-XH]at K;cases tv with
    |false=>have M:((⟨dT,y,P,C⟩,16):DB×Int)=D:=M;subst M;have E:=hk h8 (N.trans (S.kp _)) (q7.mono S);cbv;rw[rG];cbv;exact E
    |true=>
     have K:=K rfl;have M:(if decide (z=a)=true then((jE ⟨dT,y,P,C⟩ z,17):DB×Int)else mR f (jE ⟨dT,y,P,C⟩ z) ⟨a,b,hx⟩)=D:=M;cbv;rw[fX];cbv;refine cr (S _ _ j4) ?_;cbv;refine ZK (q7.mono S) pI oV V z (by omega) (by omega) (λh9 k9 q9=>?_);rw[ML,JI]at q9;have aG:=(N.trans (S.kp _)).trans k9;have ar:=(Q.trans (S.kp _)).trans k9;have i5:=ar _ _ f5 n5;obtain⟨B,rI⟩:∃B,B=jE ⟨dT,y,P,C⟩ z:=⟨_,rfl⟩;have aw:jV h9 c r w Z cw B.ao (Wf B.ai) B.holds B.waits e:=by rw[rI];exact q9
     rw[<-rI]at M;generalize eu:A .aN .eql z a=u;have fu:=eu;rw[au A]at eu;rw[eu]at M;cbv;refine cr i5 ?_;cbv;rw[fu];cases u with
     |true=>have M:((B,17):DB×Int)=D:=M;subst M;have E:=hk h9 aG aw;cbv;exact E
     |false=>
      have M:mR f B ⟨a,b,hx⟩=D:=M;have jT:I f h9:=by
       have Nm:=gK C z;have O:B.holds=bR P z:=by rw[rI];rfl
       have ax:B.waits=bR C z:=by rw[rI];rfl
       have aE:mw B.ao:=by rw[rI];exact uh V _ _
       have HP:(bR (bR C z) a).length<=L0:=by rw[BA];have:=gK (bR C a) z;omega
       rw[gQ];rw[aF]at K O;exact⟨B,by rw[O];omega,by rw[O];omega,by rw[ax];omega,by rw[ax];exact HP,aE,M,ar,aw⟩
      cbv;refine⟨f,(),by omega,by constructor<;>cbv,jT⟩
set_option maxHeartbeats 4000000
structure sa(n:Nat)(d:DB):Prop where
 ao:d.ao.length<=2^30
 gL:d.ai.Pairwise (λa b=>a.s<b.s)
 ov:∀w∈d.ai,0<=w.s/\w.s<8
 rows:mw d.ao
 holds:d.holds.length<=n
 waits:d.waits.length<=n
 bKK:∀x∈d.holds,0<=x.s/\x.s<8
theorem sa.le(o:sa n d)(h:n<=m):sa m d:=⟨o.ao,o.gL,o.ov,o.rows,jKl o.holds h,jKl o.waits h,o.bKK⟩
theorem yQ:∀ {l:List eY} {a:Int},l.Pairwise (λa b=>a.s<b.s)->(∀w∈l,a<=w.s/\w.s<8)->(l.length:Int)<=max 0 (8-a)
 | [],a,_,_=>by simp;omega
 |x::r,a,s,c=>by
  have d:=c x (by simp);have U:∀w∈r,x.s<w.s:=λw h=>kXA s h;have:=yQ (a:=x.s+1) (List.Pairwise.of_cons s) (λw h=>⟨by have:=U w h;omega,(c w (jKQ _ h)).2⟩);simp only[wS];omega
theorem sa.fJu(o:sa n d):d.ai.length<=8:=by have:=yQ o.gL o.ov;omega
theorem sa.small(o:sa n d)(a:n<2^18):Small d:=by have:=o.fJu;have:=o.ao;have:=o.holds;have:=o.waits;exact⟨by omega,by omega,λt h=>by have:=o.rows t h;omega,by omega,by omega⟩
theorem wrap_zero{x:Int}(a:-2^64<x)(b:x<2^64)(h:IntKind.i64.wrap x=0):x=0:=by have s:IntKind.i64.signed=true:=rfl;simp only[IntKind.wrap,IntKind.bits,s]at h;simp at h;split at h<;>omega
theorem aXj(T:List ca)(x:cV):(fV T x).map (·.S)=T.map (·.S):=by
 have p:∀t r,(bK t r).1.S=t.S:=λt r=>by
  unfold bK;repeat' split
  all_goals rfl
 have b:∀t k,(bE t k).1.S=t.S:=λt k=>by
  unfold bE;split<;>rfl
 have key:∀(i:Nat) (t a:ca),T[i]? =some t->a.S=t.S->(T.set i a).map (·.S)=T.map (·.S):=λi t a h S=>by
  rw[jKI,S];apply yr;intro j;rw[VS];split
  .rename_i e;subst e;split
   .rw[kS,h];rfl
   rename_i c;rw[yo (by omega)]
  rfl
 unfold fV;split
 .split
  .rename_i t h;split
   .exact key _ _ _ h (p _ _)
   split
   .exact key _ _ _ h (b _ _)
   rfl
  rfl
 rfl
theorem wT(T:List ca):∀l,(eB T l).map (·.S)=T.map (·.S)
 | []=>rfl
 |x::r=>(aXj _ _).trans (wT T r)
theorem Ec(T:List ca)(w:List eY)(s:Int):(uI T w s).map (·.S)=T.map (·.S):=by
 unfold uI;split
 .split
  .exact wT _ _
  rfl
 rfl
theorem Sj{T a:List ca}(h:a.map (·.S)=T.map (·.S))(nm:ByteArray):aS a nm=aS T nm:=by
 have e:∀T:List ca,aS T nm=(T.map (·.S)).map (λs=>dA s.name nm):=λT=>by simp[aS,Function.comp_def]
 rw[e,e,h]
theorem ZX{T a:List ca}(h:a.map (·.S)=T.map (·.S)):a.length=T.length:=by have:=congrArg List.length h;simpa using this
theorem bXY(l:List Int)(p:Nat)(c:p<l.length)(h0:l.getD p 0=0)(U:∀i,i<p->l.getD i 0<0)(b:∀i,p<i->i<l.length->l.getD i 0>0):dC l=p/\iQ l=true:=by
 have h:dC l=p:=xJ l p U 0 l.length (λk h d=>by
  rcases wM p k with a|a
  .have:=b k a d;omega
  have:k=p:=by omega
  rw[this,h0];omega) (nr _) (kQC c)
 exact⟨h,by unfold iQ;rw[h];exact ak ⟨c,h0⟩⟩
theorem Eg{w:eY}(h:a[i]? =some w):(bW a s).getD i 0=IntKind.i64.wrap (w.s-s):=by rw[yz];unfold bW;rw[kS,h];rfl
theorem PJ{s:List eY}(g:s.Pairwise (λa b=>a.s<b.s))(r:∀w∈s,0<=w.s/\w.s<8){w:eY}(e:s[i]? =some w):dC (bW s w.s)=i/\iQ (bW s w.s)=true:=by
 have v:=(ff.1 e).1;have k:=r w (cK e);have hl:(bW s w.s).length=s.length:=by simp[bW]
 have get:∀j,j<s.length->∃x,s[j]? =some x/\(bW s w.s).getD j 0=x.s-w.s/\(j<i->x.s<w.s)/\(i<j->w.s<x.s):=λj c=>by
  obtain⟨x,hx⟩:=aJ c;have K:=r x (cK hx);refine⟨x,hx,?_,λh=>?_,λh=>?_⟩
  .rw[Eg hx,IntWalk.i64_in _ (by omega)]
  .have:=wL.1 g j i c v h;rw[(ff.1 hx).2,(ff.1 e).2]at this;exact this
  have:=wL.1 g i j v c h;rw[(ff.1 hx).2,(ff.1 e).2]at this;exact this
 refine bXY _ i (by rw[hl];exact v) ?_ (λj c=>?_) (λj c L=>?_)
 .obtain⟨x,hx,d,-,-⟩:=get i v;rw[e]at hx;cases hx;rw[d];omega
 .obtain⟨x,hx,d,f,-⟩:=get j (by omega);have:=f c;rw[d];omega
 obtain⟨x,hx,d,-,f⟩:=get j (by rw[<-hl];exact L);have:=f c;rw[d];omega
theorem wQ(r:∀w∈a,0<=w.s/\w.s<8)(G:-2^63<=s/\s<2^63)(h:iQ (bW a s)=true):∃w,a[dC (bW a s)]? =some w/\w.s=s:=by
 have h':=lA h;obtain⟨d,c⟩:=h';have hl:dC (bW a s)<a.length:=by simpa[bW]using d
 obtain⟨w,b⟩:=aJ hl;have F:=r w (cK b);rw[Eg b]at c;have:=wrap_zero (by omega) (by omega) c;exact⟨w,b,by omega⟩
theorem lF{c:List eY}(g:c.Pairwise (λa b=>a.s<b.s))(r:∀w∈c,0<=w.s/\w.s<8)(G:-2^63<=s/\s<2^63):iQ (bW c s)=true↔∃w∈c,w.s=s:=by
 constructor
 .intro h;obtain⟨w,d,e⟩:=wQ r G h;exact⟨w,cK d,e⟩
 rintro⟨w,d,rfl⟩;obtain⟨i,f,e⟩:=kQy d;exact(PJ g r (i:=i) (by rw[zG f,e])).2
theorem sV(w:List eY)(s:Int):(xW w s).Sublist w:=by
 unfold xW;split
 .exact kQO _ _
 exact List.Sublist.refl _
theorem TX{s:List eY}(i:s.Pairwise (λa b=>a.s<b.s))(r:∀w∈s,0<=w.s/\w.s<8){v:Int}(g:-2^63<=v/\v<2^63){w:eY}(d:w∈s)(S:w.s≠v):w∈xW s v:=by
 unfold xW;split
 .rename_i h;obtain⟨x,hx,f⟩:=wQ r g h;obtain⟨j,c,U⟩:=kQy d;rw[kXX];refine⟨j,c,λe=>?_,U⟩;rw[<-e,zG c,U]at hx;cases hx;exact S f
 exact d
theorem Vt{W:List bU}(h:(dx (cQ H W) s).2=true):∃x∈H,x.s=(dx (cQ H W) s).1:=by
 have v:=(pJ (cQ H W) s).out;rcases v with⟨b,-⟩|⟨-,c,-,a,-⟩
 .rw[h]at b;cases b
 refine ua (W:=W) ?_;rcases a with a| ⟨a,-⟩
 .rw[a];exact xh c
 exact xh a
structure aQs(n:Nat)(d:DB)(hd:bU)(D:DB×Int):Prop where
 S:D.1.ao.map (·.S)=d.ao.map (·.S)
 ok:sa (n+1) D.1
 own:D.2=0->∀w∈d.ai,w.s=hd.s->w∈D.1.ai
 sub:D.1.ai.Sublist d.ai
def cZD(d:DB):Prop:=∀x∈d.holds,0<=x.s/\x.s<8
theorem Gq(h:∀x∈H,0<=x.s/\x.s<8)(s:0<=hd.s/\hd.s<8):∀x∈cS H hd,0<=x.s/\x.s<8:=λx hx=>by
 unfold cS at hx;repeat' split at hx
 .exact h x hx
 .rcases jKs hx with a|a
  .exact h x a
  rw[a];exact s
 .rcases wy.1 hx with a|a
  .exact h x a
  simp at a;rw[a];exact s
 exact h x hx
theorem LP(n:Nat)(hd:bU)(s:0<=hd.s/\hd.s<8):∀(f:Nat) (d:DB),d.holds.length<f->d.ao.length<=2^30->d.ai.Pairwise (λa b=>a.s<b.s)->(∀w∈d.ai,0<=w.s/\w.s<8)->mw d.ao->d.holds.length<=n->(bR d.waits hd.s).length<=n->cZD d->
 aQs n d hd (mR f d hd)
 |0,d,r,_,_,_,_,_,_,_=>by omega
 |f+1,d,r,j,c,g,l,t,y,i=>by
  have z:=Be (H:=d.holds) (hd:=hd);have A:=CB (H:=d.holds) (W:=d.waits) (hd:=hd);have B:=BB (H:=d.holds) (W:=d.waits) (hd:=hd);unfold mR;by_cases u:bP d.holds hd=true
  .rw[if_pos u];exact⟨rfl,⟨j,c,g,l,by show(cS _ _).length<=_;omega,by show(cY _ _ _).length<=_;omega,Gq i s⟩,λ_ w h _=>h,List.Sublist.refl _⟩
  rw[if_neg u];have o:cS d.holds hd=d.holds:=by unfold cS;rw[if_neg u]
  by_cases D:(dx (cQ (cS d.holds hd) (cY d.holds d.waits hd)) hd.s).2=true
  .rw[if_pos D];have X:=Vt D;have K:=vf D;have J:-2^63<=(dx (cQ (cS d.holds hd) (cY d.holds d.waits hd)) hd.s).1/\(dx (cQ (cS d.holds hd) (cY d.holds d.waits hd)) hd.s).1<2^63:=by obtain⟨x,hx,q⟩:=X;rw[o]at hx;rw[<-q];have:=i x hx;omega
   generalize (dx (cQ (cS d.holds hd) (cY d.holds d.waits hd)) hd.s).1=v at *;have C:=gK (cY d.holds d.waits hd) v;have P:(bR (bR (cY d.holds d.waits hd) v) hd.s).length<=n:=by rw[BA];have:=gK (bR (cY d.holds d.waits hd) hd.s) v;omega
   have Q:(jE ⟨d.ao,d.ai,cS d.holds hd,cY d.holds d.waits hd⟩ v).ao.map (·.S)=d.ao.map (·.S):=Ec _ _ _;have p:(jE ⟨d.ao,d.ai,cS d.holds hd,cY d.holds d.waits hd⟩ v).holds.length<d.holds.length:=by show(bR (cS d.holds hd) v).length<_;rw[o]at K |-;exact K
   have k:(jE ⟨d.ao,d.ai,cS d.holds hd,cY d.holds d.waits hd⟩ v).ai.Sublist d.ai:=sV _ _;by_cases Z:v=hd.s
   .rw[if_pos (ak Z)];exact⟨Q,⟨by rw[ZX Q];exact j,c.sublist k,λw h=>g w (k.subset h),uh l _ _,jKl (kQC p) (by omega),jKl C (by omega),λx hx=>Gq i s x (jKn.1 hx).1⟩,(λe=>by cases e),k⟩
   rw[if_neg (by simpa using Z)];have m:=LP n hd s f (jE ⟨d.ao,d.ai,cS d.holds hd,cY d.holds d.waits hd⟩ v) (by omega) (by rw[ZX Q];exact j) (c.sublist k) (λw h=>g w (k.subset h)) (uh l _ _) (by omega) P
    (λx hx=>i x (by
     have hx:x∈bR (cS d.holds hd) v:=hx;rw[o]at hx;exact(jKn.1 hx).1))
   refine⟨m.S.trans Q,m.ok,λe w h T=>m.own e w ?_ T,m.sub.trans k⟩;exact TX c g J h (by rw[T];exact λe=>Z e.symm)
  rw[if_neg D];exact⟨rfl,⟨j,c,g,l,by show(cS _ _).length<=_;omega,by show(cY _ _ _).length<=_;omega,Gq i s⟩,λ_ w h _=>h,List.Sublist.refl _⟩
theorem oD(o:sa n d)(hd:bU)(h:-2^63<=hd.s/\hd.s<2^63):aQs n d hd (cA d hd):=by
 unfold cA;by_cases A:GJ d hd=true
 .rw[if_pos A];unfold GJ at A;rw[ya]at A;obtain⟨w,a,b⟩:=(lF o.gL o.ov h).1 A.1;have:=o.ov w a;exact LP n hd (by omega) _ d (by omega) o.ao o.gL o.ov o.rows o.holds (jKl (gK _ _) o.waits) o.bKK
 rw[if_neg A];exact⟨rfl,o.le (by omega),(λe=>by cases e),List.Sublist.refl _⟩
theorem AM(o:sa n d)(s:-2^63<=hd.s/\hd.s<2^63)(h0:(cA d hd).2=0):
 iQ (aS (cA d hd).1.ao hd.table)=true/\iQ (bW (cA d hd).1.ai hd.s)=true:=by
 have k:=oD o hd s;have A:GJ d hd=true:=by
  cases h:GJ d hd with
  |true=>rfl
  |false=>unfold cA at h0;rw[h]at h0;cases h0
 unfold GJ at A;rw[ya]at A;refine⟨by rw[Sj k.S];exact A.2,?_⟩;obtain⟨w,a,e⟩:=(lF o.gL o.ov s).1 A.1;exact(lF k.ok.gL k.ok.ov s).2 ⟨w,k.own h0 w a e,e⟩
end Go.S
