import Derived.Test.YthnbpiejemlbeaaGreatEC
set_option linter.all false
set_option maxRecDepth 100000
set_option maxHeartbeats 8000000
namespace Go.S
open Go.Sx Go.Proofs
variable {A:Ar}{only:Bool}{nm:ByteArray}{d:DB}{e key s z:Int}{tys:List Nat}{a:List bS}{H Q:List bZ}{ws:List eJ}{cols:List jR}{c i m n wb:Nat}{b:Option Addr}{k:Value->ad->Prop}{h h':ad}{hd:bZ}{w:eJ×Bool}
theorem Ji{xs:List (eJ×Bool)}{b cap:Nat}(o:dt 79 cu h b cap xs)(u:n=xs.length){w:Int}(j:bg z i)(a:bg w (i+1))(L:i<n)
 (s:∀h' m,m=n-1->Kp [b] h h'->(∀tys,79∉tys->cX tys h h')->dt 79 cu h' b cap (xs.eraseIdx i)->k (.slice (zsA b) m cap) h'):
 Ct 240 [.slice (zsA b) n cap,.zI z,.zI w] h k:=by
 obtain⟨A,c⟩:=Ar.ex;have t:=o.le;have M:=o.bd;have H:=j.eq;have B:=a.eq;have P:A .nat n=(n:Int):=by rw[c.nat];rfl
 have e1:A .aQ .eql z w=false:=by rw[au A];grind
 have q:Sl 79 cu h (.slice (zsA b) n cap) xs:=o.sl u;have C:0<=A .nat n/\A .nat n<=(cap:Int)/\0<=w/\w<=A .nat n/\0<=z/\z<=w:=gg
 have W:0<=z/\z<=(cap:Int):=ip
 have X:0<=w/\w<=(n:Int):=ip
 have K:∀m,m=n-1->0<=A .nat n/\A .nat n<=(cap:Int)/\0<=A .nat m/\A .nat m<=A .nat n:=λm f=>by
  have N:A .nat m=(m:Int):=by rw[c.nat];rfl
  grind
 have I:=q.jX (A:=A) a ip rfl rfl;have V:=dJ (A:=A) j;have Z:=cS (A:=A) (n:=n) a;have y:=cS (A:=A) (n:=cap) a;refine kh eZU A Tryz.func240 ?_;cbv;refine⟨C,?_⟩;cbv;rw[e1];cbv;refine⟨W,?_⟩;cbv;refine⟨X,?_⟩;cbv;rw[xB (A:=A),V,Z];refine o.BO dl (i:=i) ip I ip ip rfl (λJ m f v F o1=>?_);have E:m=n-1:=ip
 have o2:=o1.shrink (n-1);have e:(xs.take i++xs.drop (i+1)++xs.drop (i+(n-(i+1)))).take (n-1)=xs.eraseIdx i:=gg
 rw[e]at o2;clear o1 e f;have Q:(xs.eraseIdx i).length=n-1:=gg
 have K:=K m E;have g:A .nR (A .nat n) (A .nat m)=1:=by rw[cS (A:=A) (bg.nat m)];omega
 cbv;refine⟨K,?_⟩;cbv;rw[yj (A:=A) (bg.nat m) ip,g];refine o2.aQT dl rfl rfl (p:=m) ip ip (λr x G D=>?_);have l:=s r m E (v.trans x) (λtys d=>(F tys d).trans (G tys d)) D;cbv;exact l
theorem NF{xs:List bS}{b cap:Nat}(o:dt 61 bT h b cap xs)(u:n=xs.length){w:Int}(j:bg z i)(a:bg w (i+1))(L:i<n)
 (s:∀h' m,m=n-1->Kp [b] h h'->(∀tys,61∉tys->cX tys h h')->dt 61 bT h' b cap (xs.eraseIdx i)->k (.slice (zsA b) m cap) h'):
 Ct 285 [.slice (zsA b) n cap,.zI z,.zI w] h k:=by
 obtain⟨A,c⟩:=Ar.ex;have t:=o.le;have M:=o.bd;have H:=j.eq;have B:=a.eq;have P:A .nat n=(n:Int):=by rw[c.nat];rfl
 have e1:A .aQ .eql z w=false:=by rw[au A];grind
 have q:Sl 61 bT h (.slice (zsA b) n cap) xs:=o.sl u;have C:0<=A .nat n/\A .nat n<=(cap:Int)/\0<=w/\w<=A .nat n/\0<=z/\z<=w:=gg
 have W:0<=z/\z<=(cap:Int):=ip
 have X:0<=w/\w<=(n:Int):=ip
 have K:∀m,m=n-1->0<=A .nat n/\A .nat n<=(cap:Int)/\0<=A .nat m/\A .nat m<=A .nat n:=λm f=>by
  have N:A .nat m=(m:Int):=by rw[c.nat];rfl
  grind
 have I:=q.jX (A:=A) a ip rfl rfl;have V:=dJ (A:=A) j;have Z:=cS (A:=A) (n:=n) a;have y:=cS (A:=A) (n:=cap) a;refine kh eZg A Tryz.func285 ?_;cbv;refine⟨C,?_⟩;cbv;rw[e1];cbv;refine⟨W,?_⟩;cbv;refine⟨X,?_⟩;cbv;rw[xB (A:=A),V,Z];refine o.BO dl (i:=i) ip I ip ip rfl (λJ m f v F o1=>?_);have E:m=n-1:=ip
 have o2:=o1.shrink (n-1);have e:(xs.take i++xs.drop (i+1)++xs.drop (i+(n-(i+1)))).take (n-1)=xs.eraseIdx i:=gg
 rw[e]at o2;clear o1 e f;have Q:(xs.eraseIdx i).length=n-1:=gg
 have K:=K m E;have g:A .nR (A .nat n) (A .nat m)=1:=by rw[cS (A:=A) (bg.nat m)];omega
 cbv;refine⟨K,?_⟩;cbv;rw[yj (A:=A) (bg.nat m) ip,g];refine o2.aQT dl rfl rfl (p:=m) ip ip (λr x G D=>?_);have l:=s r m E (v.trans x) (λtys d=>(F tys d).trans (G tys d)) D;cbv;exact l
theorem rO{b w:Nat}{T:List bS}{W:List (eJ×Bool)}{a:List bZ}(q:kO h c m wb b w T W H a e)(r:Int)
 (i:∀h' z t,Le h h'->bg z (dE (dR W r))->t=iC (dR W r)->k (.tuple #[.zI z,.bool t]) h'):Ct 39 [.zP c,.zI r] h k:=
 (zA q r).mono (λv h' hR=>by
  obtain⟨l,z,t,j,g⟩:=hR;obtain⟨d,f⟩:=g.at_;rw[j];exact i h' z t l d f)
theorem vV{b w:Nat}{T:List bS}{W:List (eJ×Bool)}{a:List bZ}(q:kO h c m wb b w T W H a e)(n:ByteArray)
 (i:∀h' z t,Le h h'->bg z (dE (aU T n))->t=iC (aU T n)->k (.tuple #[.zI z,.bool t]) h'):Ct 116 [.zP c,.string n] h k:=
 (rQ q n).mono (λv h' hR=>by
  obtain⟨l,z,t,j,g⟩:=hR;obtain⟨d,f⟩:=g.at_;rw[j];exact i h' z t l d f)
theorem Yv{o:List Row}{r:Row}{s g:Option Addr}{u t a:Nat}(y:Sl 202 bJ h (.slice s u t) cols)(x:Sl 46 bK h (.slice g a i) o)(q:Sl 45 bG h (.slice b n c) r)(w:a<=2^37)
 (z:∀h' d m j f p l T e,Le h h'->Sl 202 bJ h' (.slice d m j) cols->Sl 46 bK h' (.slice f p l) T->(⟨⟨⟨nm,cols,key,only⟩,T⟩,e⟩:bS×Int)=bL ⟨⟨nm,cols,key,only⟩,o⟩ r->k (.tuple #[.agg #[.string nm,.slice d m j,.zI key,.bool only,.slice f p l],.zI e]) h'):
 Ct 45 [.agg #[.string nm,.slice s u t,.zI key,.bool only,.slice g a i],.slice b n c] h k:=
 (bZk (nm:=nm) (key:=key) (only:=only) y x q w).mono (λv h' hR=>by
  grind)
theorem Ro{r:List Row}{s d:Option Addr}{q p f:Nat}(w:Sl 202 bJ h (.slice s q p) cols)(u:Sl 46 bK h (.slice d n f) r)(t:n<=2^37)(kv:jq)
 (x:∀h' b l g a m i c o j T R e,Le h h'->Sl 202 bJ h' (.slice b l g) cols->Sl 46 bK h' (.slice a m i) T->Sl 45 bG h' (.slice c o j) R->(⟨⟨⟨nm,cols,key,only⟩,T⟩,R,e⟩:bS×Row×Int)=bE ⟨⟨nm,cols,key,only⟩,r⟩ kv->k (.tuple #[.agg #[.string nm,.slice b l g,.zI key,.bool only,.slice a m i],.slice c o j,.zI e]) h'):
 Ct 277 [.agg #[.string nm,.slice s q p,.zI key,.bool only,.slice d n f],.agg #[.zI kv.k,.zI kv.n,.string kv.s]] h k:=
 (XA (nm:=nm) (key:=key) (only:=only) w u t kv).mono (λv h' hR=>by
  grind)
theorem Bz{W:List bZ}{a:Option Addr}{e d:Nat}(q:Sl 253 bC h (.slice b n c) H)(f:Sl 253 bC h (.slice a e d) W)(s:Int)(G:H.length<=2^38)(A:W.length<=2^38)
 (g:∀h' b n c a e d,Le h h'->Sl 253 bC h' (.slice b n c) (bX H s)->Sl 253 bC h' (.slice a e d) (bX W s)->k (.agg #[.slice b n c,.slice a e d]) h'):Ct 241 [.agg #[.slice b n c,.slice a e d],.zI s] h k:=
 (bQd q f (by rw[q.len];exact G) (by rw[f.len];exact A) s).mono (λv h' hR=>by
  grind)
theorem kO.ai{d:ad}{t w:Nat}{T:List bS}{W:List (eJ×Bool)}{s:List bZ}{G r:Nat}{f g:Option Addr}{k l j:Nat}{o:Int}
 (u:h c=some (.cells #[.slice (zsA m) n t,.slice (zsA wb) G w,.slice f k i,.slice g l j,.zU o,.int .i32 0,.zU 0,.zI e] 148 (0,0)))
 (D:(o=0/\e=0)\/(o=1/\e≠0)) (v:n=T.length) (x:dt 61 bT h m t T) (y:Sl 253 bC h (.slice f k i) H) (z:Sl 253 bC h (.slice g l j) s) (B:r=W.length)
 (F:∀tys,79∉tys->cX tys h d) (E:d c=h c) (A:dt 79 cu d wb w W)
 (p:h'=bO d c (.cells #[.slice (zsA m) n t,.slice (zsA wb) r w,.slice f k i,.slice g l j,.zU o,.int .i32 0,.zU 0,.zI e] 148 (0,0))):
 Kp [c] d h'/\kO h' c m wb t w T W H s e:=by
 have Q:=E.trans u;have lt:∀tys,148∉tys->cX tys d h':=λtys C=>by rw[p];exact cX.set Q C
 have q:∀tys,79∉tys->148∉tys->cX tys h h':=λtys a b=>(F tys a).trans (lt tys b);refine⟨by rw[p];exact Kp.set io,n,r,f,k,i,g,l,j,o,by rw[p];exact ae,D,v,x.mono (q _ dl dl),B,A.mono (lt _ dl),y.mono (q _ dl dl),z.mono (q _ dl dl)⟩
def Aa(W:List (eJ×Bool))(s:Int):List (eJ×Bool):=if iC (dR W s)=true then W.eraseIdx (dE (dR W s))else W
theorem eQj{P M N:Nat}{T:List bS}{W:List (eJ×Bool)}(q:kO h c P wb M N T W H Q e)(px:c≠wb)(s:Int)(fG:H.length<=2^38)(fA:Q.length<=2^38)
 (hk:∀h',Kp [c,wb] h h'->kO h' c P wb M N T (Aa W s) (bX H s) (bX Q s) e->k (.tuple #[]) h'):Ct 123 [.zP c,.zI s] h k:=by
 obtain⟨V,U⟩:∃V,V=Aa W s:=⟨_,rfl⟩;rw[<-U]at hk;have fin:∀(b:ad),Kp [c,wb] h b->kO b c P wb M N T V H Q e->∀(j n:Nat) (p:Option Addr) (G u:Nat) (r:Option Addr) (I v:Nat) (o:Int),b c=some (.cells #[.slice (zsA P) j M,.slice (zsA wb) n N,.slice p G u,.slice r I v,.zU o,.int .i32 0,.zU 0,.zI e] 148 (0,0))->
  ((o=0/\e=0)\/(o=1/\e≠0))->j=T.length->dt 61 bT b P M T->n=V.length->dt 79 cu b wb N V->
  ∀(d:ad) (J:Option Addr) (E f:Nat) (L:Option Addr) (F C:Nat),Le b d->Sl 253 bC d (.slice J E f) (bX H s)->Sl 253 bC d (.slice L F C) (bX Q s)->
  ∀a,a=bO d c (.cells #[.slice (zsA P) j M,.slice (zsA wb) n N,.slice J E f,.slice L F C,.zU o,.int .i32 0,.zU 0,.zI e] 148 (0,0))->k (.tuple #[]) a:=
  λb k1 _ j n p G u r I v o g B w x y l d J E f L F C D X Y a O=>by
   have hl:=kO.YT (D _ _ g) B w (x.mono (D.t _)) y (l.mono (D.t _)) X Y O;exact hk a ((k1.trans (D.kp _)).trans (hl.1.sub io)) hl.2
 refine cB bXo Tryz.func123 λA hA=>?_;cbv;refine rO q s (λb z t l1 hz ht=>?_);have q1:=q.mono l1;cases t with
 |false=>
  have K:V=W:=by rw[U];unfold Aa;grind
  clear U;subst K;refine q1.elim (λj n p G u r I v o g B w x y l R S _=>?_);have fin:=fin b (l1.kp _) q1 j n p G u r I v o g B w x y l;cbv;rw[av A];rw[av A];refine cy g ?_;cbv;refine Bz R S s fG fA (λd J E f L F C D X Y=>?_);cbv;rw[av A];rw[av A];refine jE (D _ _ g) io (λa O=>?_);have az:=fin d J E f L F C D X Y a O;cbv;exact az
 |true=>
  have K:V=W.eraseIdx (dE (dR W s)):=by rw[U];unfold Aa;grind
  have aZ:dE (dR W s)<W.length:=by have:=jk ht.symm;simpa[dR]using this
  generalize dE (dR W s)=i at *;clear U;refine q1.elim (λj n p G u r I v o g B w x y l R S _=>?_);have kE:=l.bd;have ld:=hz.succ (A:=A);have fN:i<n:=ip
  have ag:V.length=n-1:=gg
  cbv;rw[av A];rw[av A];refine cy g ?_;cbv;refine Ji l y hz ld fN (λd m hm k2 t2 o2=>?_);have Z:d c=b c:=(k2 _ _ g (iu px)).trans g.symm;rw[<-K]at o2;have ar:=λa hh=>kO.ai (h':=a) g B w x R S (hm.trans ag.symm) t2 Z o2 hh;have ak:=Z.trans g;cbv;rw[av A];rw[av A];refine jE ak io (λa O=>?_);obtain⟨f,q3⟩:=ar a O;have ab:Kp [c,wb] h a:=((l1.kp _).trans (k2.sub io)).trans (f.sub io);clear ar O;refine q3.elim (λj n p G u r I v o g B w x y l R S _=>?_);have fin:=fin a ab q3 j n p G u r I v o g B w x y l;cbv;rw[av A];rw[av A];refine cy g ?_;cbv;refine Bz R S s fG fA (λh4 J E f L F C l4 X Y=>?_);cbv;rw[av A];rw[av A];refine jE (l4 _ _ g) io (λh5 e5=>?_);have az:=fin h4 J E f L F C l4 X Y h5 e5;cbv;exact az
theorem aQz{P M N:Nat}{T:List bS}{W:List (eJ×Bool)}(q:kO h c P wb M N T W H Q e)(px:c≠wb)(s:Int)(fG:H.length<=2^38)(fA:Q.length<=2^38)
 (hk:∀h',Kp [c,wb] h h'->kO h' c P wb M N T (Aa W s) (bX H s) (bX Q s) e->k (.tuple #[]) h'):fZK 123 [.zP c,.zI s] h k:=by
 obtain⟨A,hA⟩:=Ar.ex;obtain⟨V,U⟩:∃V,V=Aa W s:=⟨_,rfl⟩;rw[<-U]at hk;have fin:∀(b:ad),Kp [c,wb] h b->kO b c P wb M N T V H Q e->∀(j n:Nat) (p:Option Addr) (G u:Nat) (r:Option Addr) (I v:Nat) (o:Int),b c=some (.cells #[.slice (zsA P) j M,.slice (zsA wb) n N,.slice p G u,.slice r I v,.zU o,.int .i32 0,.zU 0,.zI e] 148 (0,0))->
  ((o=0/\e=0)\/(o=1/\e≠0))->j=T.length->dt 61 bT b P M T->n=V.length->dt 79 cu b wb N V->
  ∀(d:ad) (J:Option Addr) (E f:Nat) (L:Option Addr) (F C:Nat),Le b d->Sl 253 bC d (.slice J E f) (bX H s)->Sl 253 bC d (.slice L F C) (bX Q s)->
  ∀a,a=bO d c (.cells #[.slice (zsA P) j M,.slice (zsA wb) n N,.slice J E f,.slice L F C,.zU o,.int .i32 0,.zU 0,.zI e] 148 (0,0))->k (.tuple #[]) a:=
  λb k1 _ j n p G u r I v o g B w x y l d J E f L F C D X Y a O=>by
   have hl:=kO.YT (D _ _ g) B w (x.mono (D.t _)) y (l.mono (D.t _)) X Y O;exact hk a ((k1.trans (D.kp _)).trans (hl.1.sub io)) hl.2
 refine yf A (aj bXo.aw bXo.bz) Tryz.func123 rfl (by kernel_rfl) ?_;cbv;refine rO q s (λb z t l1 hz ht=>?_);have q1:=q.mono l1;cases t with
 |false=>
  have K:V=W:=by rw[U];unfold Aa;grind
  clear U;subst K;refine q1.elim (λj n p G u r I v o g B w x y l R S _=>?_);have fin:=fin b (l1.kp _) q1 j n p G u r I v o g B w x y l;cbv;rw[av A];rw[av A];refine cy g ?_;cbv;refine Bz R S s fG fA (λd J E f L F C D X Y=>?_);cbv;rw[av A];rw[av A];refine jE (D _ _ g) io (λa O=>?_);have az:=fin d J E f L F C D X Y a O;cbv;exact az
 |true=>
  have K:V=W.eraseIdx (dE (dR W s)):=by rw[U];unfold Aa;grind
  have aZ:dE (dR W s)<W.length:=by have:=jk ht.symm;simpa[dR]using this
  generalize dE (dR W s)=i at *;clear U;refine q1.elim (λj n p G u r I v o g B w x y l R S _=>?_);have kE:=l.bd;have ld:=hz.succ (A:=A);have fN:i<n:=ip
  have ag:V.length=n-1:=gg
  cbv;rw[av A];rw[av A];refine cy g ?_;cbv;refine Ji l y hz ld fN (λd m hm k2 t2 o2=>?_);have Z:d c=b c:=(k2 _ _ g (iu px)).trans g.symm;rw[<-K]at o2;have ar:=λa hh=>kO.ai (h':=a) g B w x R S (hm.trans ag.symm) t2 Z o2 hh;have ak:=Z.trans g;cbv;rw[av A];rw[av A];refine jE ak io (λa O=>?_);obtain⟨f,q3⟩:=ar a O;have ab:Kp [c,wb] h a:=((l1.kp _).trans (k2.sub io)).trans (f.sub io);clear ar O;refine q3.elim (λj n p G u r I v o g B w x y l R S _=>?_);have fin:=fin a ab q3 j n p G u r I v o g B w x y l;cbv;rw[av A];rw[av A];refine cy g ?_;cbv;refine Bz R S s fG fA (λh4 J E f L F C l4 X Y=>?_);cbv;rw[av A];rw[av A];refine jE (l4 _ _ g) io (λh5 e5=>?_);have az:=fin h4 J E f L F C l4 X Y h5 e5;cbv;exact az
structure WJ(z:Int)(i:Nat):Prop where
 eq:z=(i:Int)-1
theorem WJ.CI(h:WJ z (i+1)):bg z i:=⟨by have:=h.eq;omega⟩
theorem WJ.ge[a:bM A](h:WJ z i):A .aQ .geq z 0=decide (1<=i):=by have:=h.eq;rw[cF A,decide_eq_decide];omega
theorem _root_.Go.Sx.bg.pred[a:bM A](h:bg z i)(b:i<2^62):WJ (A .aX .sub .i64 z 1) i:=⟨by
 have:=h.eq;rw[a.aX];simp only[aX];rw[IntWalk.i64_in _ ip];omega⟩
abbrev Yd(l:Nat)(args:List Value)(h:ad)(R:Value->ad->Prop):Prop:=bQX (λ_=>Tryz.prog) l args h R
theorem bQQ{xs:List cR}{bb l:Nat}(J:Nat->ad->Prop)(e:∀i a,J i a->a bb=some (.cells #[.slice b n c] 76 (0,0))/\Sl 161 bD a (.slice b n c) xs)
 (Y:∀i x a z cs,J (i+1) a->xs[i]? =some x->bg z i->bD.R a cs x->Yd l [.zI z,.agg cs.toArray] a (λv h'=>v=.bool true/\J i h'))  (h0:J n h) 
 (B:∀h',J 0 h'->k (.tuple #[]) h'):Ct 350 [.func (.yield l) #[] #[],.zP bb] h k:=by
 obtain⟨A,y⟩:=Ar.ex;obtain⟨u,q⟩:=e n h h0;have o:=q.len;have P:=q.bound.1;have E:A .not true=false:=by rw[y.not];rfl
 have C:WJ (A .aX .sub .i64 (A .nat n) 1) n:=(bg.nat n).pred ip;refine kh eXb A Tryz.func350 ?_;cbv;refine cy u ?_;cbv;refine ba.gz (G:=Int) (λg=>[(3,.v (.zI g))]) (λ_=>[]) (λm g h'=>∃i:Nat,WJ g i/\m=i/\i<=n/\J i h') n (A .aX .sub .i64 (A .nat n) 1) ⟨n,C,rfl,qA _,h0⟩ ?_
 intro m g h' I;cbv;obtain⟨i,f,O,H,j⟩:=I;rw[f.ge (A:=A)];cases i with
 |zero=>have t:=B h' j;rw[show decide (1<=0)=false from rfl];cbv;exact t
 |succ i=>
  obtain⟨w,p⟩:=e _ _ j;have N:bg g i:=f.CI;obtain⟨x,hx⟩:=cK xs i;have L:b.isSome=true/\0<=g/\g<(n:Int):=⟨p.bu,N.ix ip⟩;have d:WJ (A .aX .sub .i64 g 1) i:=N.pred ip;rw[show decide (1<=i+1)=true from kS ip];cbv;refine cy w ?_;cbv;refine⟨L,?_⟩;cbv;refine p.load hx N.eq (λcs r=>?_);have K:=Y i x h' g cs j hx N r;obtain⟨D,Q,F,rfl,-⟩:=r;cbv;refine K.mono (λv M hR=>?_);obtain⟨rfl,s⟩:=hR;cbv;rw[E];cbv;refine zqn i _ ip ⟨i,d,rfl,ip,s⟩
theorem NW(e:∀h' bb,h bb=none->Le h h'->h' bb=some (.cells #[.slice b n c] 76 (0,0))->k (.func (.func 350) #[] #[.zP bb]) h'):
 Ct 289 [.slice b n c] h k:=by
 refine cB eZc Tryz.func289 λA f=>?_;cbv;intro bb d u e1;have a:=e d bb u (zqs e1 u) (zqt e1);cbv;exact a
def sY(r:Row)(key:Int):jq:=(r[key.toNat]?).getD ⟨0,0,jx⟩
def gz(T:List bS)(x:cR):List bS:=
 if iC (aU T x.table)=true then
  match T[dE (aU T x.table)]? with
  |some t=>if decide (x.op=2)=true then T.set (dE (aU T x.table)) (bL t x.row).1
   else if(decide (t.S.key>=0)&&decide (t.S.key<(x.row.length:Int)))=true then T.set (dE (aU T x.table)) (bE t (sY x.row t.S.key)).1 else T
  |none=>T
 else T
def ea(T:List bS)(l:List cR):List bS:=l.foldr (λx T=>gz T x) T
def fP(n:Int)(len:Nat):Nat:=min n.toNat len
def mR(T:List bS):Prop:=∀t∈T,t.rows.length<=2^36
theorem Du(t:bS)(r:Row)(h:t.rows.length<=2^36):(bL t r).1.rows.length<=2^36:=by
 grind [bL,Cm]
theorem AG(t:bS)(k:jq)(h:t.rows.length<=2^36):(bE t k).1.rows.length<=2^36:=by
 grind [bE,Fo]
theorem mR.set{T:List bS}(h:mR T){t:bS}(b:t.rows.length<=2^36)(i:Nat):mR (T.set i t):=λx hx=>by
 rcases kZa hx with a|a
 .exact h x a
 grind
theorem OT{T:List bS}(h:mR T)(x:cR):mR (gz T x):=by
 unfold gz;split
 .split
  .rename_i t a;have:=h t (kQR a);split
   .exact h.set (Du _ _ this) _
   split
   .exact h.set (AG _ _ this) _
   exact h
  exact h
 exact h
theorem zD{T:List bS}(h:mR T):∀l,mR (ea T l)
 | []=>h
 |x::r=>OT (zD h r) x
theorem Fe{T:List bS}{l:List cR}{x:cR}(hx:l[i]? =some x):ea T (l.drop i)=gz (ea T (l.drop (i+1))) x:=by obtain⟨h,a⟩:=HH.1 hx;rw[kQP h,a];rfl
theorem _root_.Go.Sx.Kp.dZw{e:Nat}{c:Array Value}{fr:Nat×Nat}(k:Kp [n] h h')(j:h n=some (.cells c e fr))(i:e∉tys):cX tys h h':=λb d f L m a=>
 k b _ a (by
  intro g
  grind)
theorem kO.XB{b d w:Nat}{T:List bS}{W:List (eJ×Bool)}{f:List bZ}(q:kO h c b wb d w T W H f e)(hl:a.length=T.length)(k:Kp [b] h h')(t:∀tys,61∉tys->cX tys h h')(o:dt 61 bT h' b d a)(A:c≠b):kO h' c b wb d w a W H f e:=by obtain⟨v,x,g,y,j,i,z,l,o1,m,u,B,C,n,p,r,s⟩:=q.out;exact⟨v,x,g,y,j,i,z,l,o1,k _ _ m (iu A),u,gg,o,n,p.mono (t _ dl),r.mono (t _ dl),s.mono (t _ dl)⟩
theorem kO.lt{b a w:Nat}{T:List bS}{W:List (eJ×Bool)}{t:List bZ}(q:kO h c b wb a w T W H t e)(hl:∀tys,cX tys h h'):kO h' c b wb a w T W H t e:=by obtain⟨u,v,d,x,g,f,y,i,o,j,k,l,m,n,p,r,s⟩:=q.out;exact⟨u,v,d,x,g,f,y,i,o,hl [148] _ _ _ _ io j,k,l,m.mono (hl _),n,p.mono (hl _),r.mono (hl _),s.mono (hl _)⟩
theorem cX.oset{o:Obj}(d:∀c e fr,h n≠some (.cells c e fr)):cX tys h (bO h n o):=λb c e fr _ a=>by
 grind [cH]
theorem Lz[h:bM A](n:Int)(m:Nat):bg (A .mT (A .imax n 0) (A .nat m)) (fP n m):=⟨by
 rw[h.mT,h.imax,h.nat];grind [fP]⟩
theorem Xh(n:Int)(m:Nat):fP n m<=m:=by unfold fP;omega
theorem Xi{a ct cw:Nat}{T:List bS}{W:List (eJ×Bool)}{Wt:List bZ}(q:kO h c a wb ct cw T W H Wt e)(qj:c≠a)(px:c≠wb)(bl:mR T)(hz:bg z i)(hw:W[i]? =some w)(n:Int)
 (hk:∀h',Kp [a,wb] h h'->kO h' c a wb ct cw (ea T (w.1.log.drop (fP n w.1.log.length))) (W.set i (⟨w.1.s,w.1.log.take (fP n w.1.log.length),w.1.marks⟩,false)) H Wt e->k (.tuple #[]) h'):
 Ct 181 [.zP c,.zI z,.zI n] h k:=by
 obtain⟨A,hA⟩:=Ar.ex;obtain⟨⟨ws,wl,wm⟩,wg⟩:=w;refine q.elim (λn1 n2 b3 n3 c3 b4 n4 c4 o g0 ho g1 g2 g3 g4 g6 g7 _=>?_);have ic:i<W.length:=(HH.1 hw).1;have Kv:(some (⟨wb,0,none⟩:Addr)).isSome=true/\0<=z/\z<(n2:Int):=⟨rfl,hz.ix ip⟩;refine oE A (aj hXt.aw (λs=>s==3)) Tryz.func181 rfl (by kernel_rfl) ?_;cbv;intro p3 h1 Zz e1;have l1:Le h h1:=zqs e1 Zz
 have f3:h1 p3=some (.cells #[.zP c] 134 (0,0)):=zqt e1;have q1:=q.mono l1;have aN:=l1 _ _ g0;have cv:=(g4.sl g3).mono (l1.t [79,161,45,183]);cbv;refine cy f3 ?_;cbv;rw[av A];rw[av A];refine cy aN ?_;cbv;refine⟨Kv,?_⟩;cbv;refine pt cv hw hz.eq (λb1 V c1 aO _ ag=>?_);cbv;refine ag _ _ (Le.refl _) ?_;have sS:=aO.len;have sS:V=wl.length:=sS;have UT:=Lz (A:=A) n V;have aC:=Xh n V;rw[sS]at UT aC;obtain⟨f,aw⟩:∃f,f=fP n wl.length:=⟨_,rfl⟩;rw[<-aw]at UT aC;have jW:0<=A .mT (A .imax n 0) (A .nat V)/\A .mT (A .imax n 0) (A .nat V)<=(V:Int):=by rw[sS];have:=UT.eq;omega
 rw[<-sS]at UT;have IZ:=aO.jX (A:=A) UT ip rfl rfl;have IZ:Sl 161 bD h1 _ (wl.drop f):=IZ;have bj:=cS (A:=A) (n:=V) UT;have bz:=cS (A:=A) (n:=c1) UT;cbv;refine⟨jW,?_⟩;cbv;rw[bj,bz];refine NW (λh2 bb Au l2 fb=>?_);cbv;refine⟨λm l o1 o2 hm hl an aI cm hY=>?_⟩;obtain⟨xs,CK⟩:∃xs,xs=wl.drop f:=⟨_,rfl⟩;rw[<-CK]at IZ;obtain⟨R,M⟩:∃R,R=bO (bO h2 m (.deferred (some []))) l o1:=⟨_,rfl⟩;have Z:Le h2 R:=by rw[M];exact(Le.set hm).trans (Le.set (by rw[cH (Ne.symm an)];exact hl))
 have fl:R l=some o1:=by rw[M];exact ae
 have fm:R m=some (.deferred (some [])):=by rw[M,cH an];exact ae
 have cq:=Z _ _ fb;have cr:=Z _ _ (l2 _ _ f3);have qb:=(q1.mono l2).mono Z;have aD:=IZ.mono ((l2.trans Z).t _);have aB:=l2.trans Z;rw[<-M];obtain⟨cz,nO,-⟩:=g2.out;have bR:=aB _ _ (l1 _ _ nO);have ca:bb≠a:=λe=>gg
 have n3:p3≠a:=λe=>gg
 have nl:l≠a:=λe=>gg
 have nm:m≠a:=λe=>gg
 have dc:l≠c:=λe=>by rw[e,l2 _ _ aN]at hl;cases hl
 have cb:p3≠l:=λe=>gg
 have aZ:∀tys p,61∉tys->Kp [a] R p->cX tys R p:=λtys p ht k=>Kp.dZw k bR ht;obtain⟨J,K⟩:∃J:Nat->ad->Prop,∀i p,J i p=(p l=some o1/\Kp [a] R p/\kO p c a wb ct cw (ea T (xs.drop i)) W H Wt e):=⟨_,λ_ _=>rfl⟩;refine bQQ (n:=V-f) J (λi p P=>by rw[K]at P;exact⟨P.2.1 _ _ cq (iu ca),aD.mono (aZ _ _ dl P.2.1)⟩) ?_ (by rw[K];exact⟨fl,Kp.refl _ _,by rw[wy gg];exact qb⟩) ?_
 .intro j x p zj cs P hx OE r;have Nc:=P;rw[K]at Nc;obtain⟨Su,fS,ao⟩:=Nc;clear P;refine hY [.zI zj,.agg cs.toArray] p _ rfl Su ?_;obtain⟨bx,nx,cx,rfl,qx⟩:=r;obtain⟨xt,xo,xr⟩:=x;have qx:Sl 45 bG p (.slice bx nx cx) xr:=qx;cbv;refine⟨Su,?_⟩;obtain⟨N,e3⟩:∃N,N=bO p l o2:=⟨_,rfl⟩;rw[<-e3];obtain⟨d,Vh⟩:∃d,d=ea T (xs.drop (j+1)):=⟨_,rfl⟩;have br:mR d:=by rw[Vh];exact zD bl _
  have aG:ea T (xs.drop j)=gz d ⟨xt,xo,xr⟩:=by rw[Vh];exact Fe hx
  obtain⟨T0,ax⟩:∃T0,T0=gz d ⟨xt,xo,xr⟩:=⟨_,rfl⟩;have Ef:N l=some o2:=by rw[e3];exact ae
  have aq:∀tys,cX tys p N:=λtys=>by rw[e3];exact cX.oset (λc e fr D=>by rw[Su]at D;cases D;exact aI _ _ _ rfl)
  have fin:∀h',Kp [a] N h'->kO h' c a wb ct cw T0 W H Wt e->h' l=some o2/\J j (bO h' l o1):=λh' k' q'=>by
   have aA:=k' _ _ Ef (iu nl);rw[K];refine⟨aA,ae,λb o G I=>?_,?_⟩
   .by_cases Eh:b=l
    .rw[Eh,fl]at G;cases G;rw[Eh];exact ae
    rw[cH Eh];refine k' _ _ ?_ I;rw[e3,cH Eh];exact fS _ _ G I
   rw[aG,<-ax];exact q'.lt (λtys=>cX.oset (λc e fr D=>by rw[aA]at D;cases D;exact cm _ _ _ rfl))
  rw[<-Vh]at ao;have q3:=ao.lt aq;have JS:=qx.mono (aq _);have aF:N p3=some (.cells #[.zP c] 134 (0,0)):=by rw[e3,cH cb];exact fS _ _ cr (iu n3)
  clear e3 aq ao qx Vh aG hY IZ aD;clear CK;refine cy aF ?_;cbv;refine vV q3 xt (λg zt t S uK ht=>?_);have q4:=q3.mono S;cases t with
  |false=>
   have U:T0=d:=by grind [gz]
   have v:=fin g (S.kp _) gg;cbv;rw[show A .not false=true by rw[hA.not];rfl];cbv;exact v
  |true=>
   have Ap:dE (aU d xt)<d.length:=by have:=jk ht.symm;simpa[aU]using this
   obtain⟨⟨⟨y,E,tk,B⟩,F⟩,PQ⟩:=ay Ap;have U:T0=if decide (xo=2)=true then d.set (dE (aU d xt)) (bL ⟨⟨y,E,tk,B⟩,F⟩ xr).1
    else if(decide (tk>=0)&&decide (tk<(xr.length:Int)))=true then d.set (dE (aU d xt)) (bE ⟨⟨y,E,tk,B⟩,F⟩ (sY xr tk)).1 else d:=by grind [gz]
   have cE:F.length<=2^36:=br ⟨⟨y,E,tk,B⟩,F⟩ (kQR PQ);generalize dE (aU d xt)=ti at *;clear ax ht;refine q4.elim (λu1 u2 y3 v3 w3 y4 v4 w4 oo G0 Ho G1 G2 G3 G4 G6 G7 _=>?_);have GA:(some (⟨a,0,none⟩:Addr)).isSome=true/\0<=zt/\zt<(u1:Int):=⟨rfl,uK.ix ip⟩;have C:=G2.sl G1;have bn:=S _ _ aF;have ua:=JS.mono (S.t _);cbv;rw[show A .not true=false by rw[hA.not];rfl];cbv;refine cy bn ?_;cbv;rw[av A];rw[av A];refine cy G0 ?_;cbv;refine⟨GA,?_⟩;cbv;generalize eu:A .aQ .eql xo 2=u;rw[au A]at eu;cases u with
   |true=>
    rw[if_pos eu]at U;cbv;refine zS C PQ uK.eq (λd1 p1 X d2 p2 Y s1 s2=>?_);cbv;have zT:=s2.len;have zT:p2=F.length:=zT;refine Yv (nm:=y) (key:=tk) (only:=B) s1 s2 ua ip (λh5 b1 n1 k1 b2 n2 k2 T' e' l5 X Y r3=>?_);have bO:(bL ⟨⟨y,E,tk,B⟩,F⟩ xr).1=⟨⟨y,E,tk,B⟩,T'⟩:=by rw[<-r3]
    rw[bO]at U;cbv;refine(G2.mono (l5.t _)).setAt dl Ap uK.eq rfl (x:=⟨⟨y,E,tk,B⟩,T'⟩) ⟨_,_,_,_,_,_,rfl,X,Y⟩ (λO k6 t6 o6=>?_);rw[<-U]at o6;have v:=fin O (((S.trans l5).kp _).trans k6) (kO.XB (q4.mono l5) (by rw[U];simp) k6 t6 o6 qj);cbv;exact v
   |false=>
    rw[if_neg (by rw[eu];simp)]at U;have al:=ua.len;have al:nx=xr.length:=al;generalize eg:A .aQ .geq tk 0=ug;have fg:=eg;rw[cF A]at eg;rw[eg]at U;generalize el:A .aQ .lss tk (A .nat nx)=ul;have aM:=el;rw[aV A,hA.nat,al,show Int.ofNat xr.length=(xr.length:Int)from rfl]at el;rw[el]at U;cbv;refine C.CE PQ uK.eq (o1:=0) (o2:=2) (m:=1) dl (λcs r=>?_);obtain⟨d1,p1,X,d2,p2,Y,rfl,s1,s2⟩:=r;have s1:Sl 202 bJ g (.slice d1 p1 X) E:=s1;have s2:Sl 46 bK g (.slice d2 p2 Y) F:=s2;have zT:=s2.len;have zT:p2=F.length:=zT;cases ug with
    |false=>have v:=fin g (S.kp _) gg;cbv;rw[fg];cbv;exact v
    |true=>
     have gv:tk>=0:=kZr eg;cbv;rw[fg];cbv;refine C.CE PQ uK.eq (o1:=0) (o2:=2) (m:=1) dl (λcs r=>?_);obtain⟨d1,p1,X,d2,p2,Y,rfl,-,-⟩:=r;cbv;cases ul with
     |false=>have v:=fin g (S.kp _) gg;cbv;rw[aM];cbv;exact v
     |true=>
      have fS:tk<(xr.length:Int):=kZr el;have bo:tk.toNat<xr.length:=ip
      have aH:bg tk tk.toNat:=⟨(Int.toNat_of_nonneg gv).symm⟩;obtain⟨⟨vk,vn,vs⟩,hv⟩:=ay bo;have cd:sY xr tk=⟨vk,vn,vs⟩:=by unfold sY;rw[hv];rfl
      have bc:bx.isSome=true/\0<=tk/\tk<(nx:Int):=⟨ua.bu,aH.ix ip⟩;rw[cd]at U;have aW:tk=((tk.toNat:Nat):Int):=aH.eq;generalize tk.toNat=kk at *;cbv;rw[aM];cbv;refine zS C PQ uK.eq (λd1 p1 X d2 p2 Y s1 s2=>?_);have zT:=s2.len;have zT:p2=F.length:=zT;cbv;refine C.CE PQ uK.eq (o1:=0) (o2:=2) (m:=1) dl (λcs r=>?_);obtain⟨d3,cY,r3,d4,cL,r4,rfl,-,-⟩:=r;cbv;refine⟨bc,?_⟩;cbv;refine ua.load hv aW (λcs r=>?_);have r:cs=[.zI vk,.zI vn,.string vs]:=r;subst r;cbv;refine Ro (nm:=y) (key:=tk) (only:=B) s1 s2 ip ⟨vk,vn,vs⟩ (λh5 b1 n1 k1 b2 n2 k2 b3 n3 k3 T' R' e' l5 X Y cG r3=>?_);have bO:(bE ⟨⟨y,E,tk,B⟩,F⟩ ⟨vk,vn,vs⟩).1=⟨⟨y,E,tk,B⟩,T'⟩:=by rw[<-r3]
      have U:T0=d.set ti (bE ⟨⟨y,E,tk,B⟩,F⟩ ⟨vk,vn,vs⟩).1:=U;rw[bO]at U;cbv;refine(G2.mono (l5.t _)).setAt dl Ap uK.eq rfl (x:=⟨⟨y,E,tk,B⟩,T'⟩) ⟨_,_,_,_,_,_,rfl,X,Y⟩ (λO k6 t6 o6=>?_);rw[<-U]at o6;have v:=fin O (((S.trans l5).kp _).trans k6) (kO.XB (q4.mono l5) (by rw[U];simp) k6 t6 o6 qj);cbv;exact v
 intro N P;rw[K]at P;obtain⟨Ef,Eg,cn⟩:=P;refine⟨Ef,λo3 DG=>?_⟩;obtain⟨g,e4⟩:∃g,g=bO N l o3:=⟨_,rfl⟩;rw[<-e4];have ch:∀tys,cX tys N g:=λtys=>by rw[e4];exact cX.oset (λc e fr D=>by rw[Ef]at D;cases D;exact aI _ _ _ rfl)
 have q4:=cn.lt ch;rw[kQQ,CK]at q4;have aL:g m=some (.deferred (some [])):=by rw[e4,cH an];exact Eg _ _ fm (iu nm)
 have bH:∀b o,h b=some o->b∉[a,wb]->g b=some o:=λb o G I=>by
  have Eh:b≠l:=λe=>by rw[e]at G;rw[l2 _ _ (l1 _ _ G)]at hl;cases hl
  rw[e4,cH Eh];exact Eg _ _ (aB _ _ (l1 _ _ G)) (by simp at I |-;exact I.1)
 refine q4.elim (λu1 u2 y3 v3 w3 y4 v4 w4 oo G0 Ho G1 G2 G3 G4 G6 G7 _=>?_);cbv;refine pt (G4.sl G3) hw hz.eq (λgM Q fW ak _ bk=>?_);have L:=ak.len;have L:Q=wl.length:=L;have ZN:=Lz (A:=A) n Q;rw[L,<-aw]at ZN;have ZN:bg (A .mT (A .imax n 0) (A .nat Q)) f:=by rw[L];exact ZN
 have dd:=ak.bound.2;have bd:0<=A .mT (A .imax n 0) (A .nat Q)/\A .mT (A .imax n 0) (A .nat Q)<=(fW:Int):=by have:=ZN.eq;omega
 have OL:=ak.Ip (A:=A) (i:=f) ip;have gP:=dJ (A:=A) ZN;cbv;refine bk _ _ (Le.refl _) ?_;cbv;refine⟨bd,?_⟩;cbv;rw[gP];have ab:Sl 161 bD g _ (wl.take f):=OL;have ab:Sl 161 bD g (.slice (A .cut gM 0 (A .nat fW) 3) f fW) (wl.take f):=ab;refine G4.LY dl hw hz.eq rfl (off:=1) (by simp[cu]) (x':=(⟨ws,wl.take f,wm⟩,false)) (λcs r=>?_) (λh5 k5 t5 o5=>?_)
 .obtain⟨x1,y1,z1,x2,y2,z2,rfl,j1,j2,j3⟩:=r;exact⟨_,_,_,_,_,_,rfl,ab,j2,λhf=>by cases hf⟩
 have bV:∀b o,g b=some o->b≠wb->h5 b=some o:=λb o lG gQ=>k5 b o lG (iu gQ);have bY:m≠wb:=λe=>by
  obtain⟨de,aE,-⟩:=G4.out;rw[<-e,aL]at aE;cases aE
 have aK:=bV _ _ aL bY;have q5:kO h5 c a wb ct cw (ea T (wl.drop f)) (W.set i (⟨ws,wl.take f,wm⟩,false)) H Wt e:=by refine⟨u1,u2,y3,v3,w3,y4,v4,w4,oo,bV _ _ G0 px,Ho,G1,G2.mono (t5 _ dl),by rw[kJE];exact G3,o5,G6.mono (t5 _ dl),G7.mono (t5 _ dl)⟩
 obtain⟨O,e6⟩:∃O,O=bO h5 m (.deferred none):=⟨_,rfl⟩;have q6:kO O c a wb ct cw (ea T (wl.drop f)) (W.set i (⟨ws,wl.take f,wm⟩,false)) H Wt e:=q5.lt (λtys=>by rw[e6];exact cX.oset (λc e fr D=>by rw[aK]at D;cases D));have k6:Kp [a,wb] h O:=λb o G I=>by
  have cp:b≠m:=λe=>by rw[e]at G;rw[l2 _ _ (l1 _ _ G)]at hm;cases hm
  rw[e6,cH cp];exact bV _ _ (bH b o G I) (by simp at I;exact I.2)
 rw[aw]at q6;have v:=hk O k6 q6;rw[e6]at v;cbv;exact⟨aK,v⟩
def Js(T:List bS)(W:List (eJ×Bool))(s:Int):List bS:=
 if iC (dR W s)=true then match W[dE (dR W s)]? with
  |some w=>ea T w.1.log
  |none=>T
 else T
theorem Lq{W:List (eJ×Bool)}{w':eJ×Bool}(a:W[i]? =some w)(h:w'.1.s=w.1.s)(s:Int):dR (W.set i w') s=dR W s:=by
 unfold dR;rw[kJD];apply kZq;intro j
 grind
theorem Vv{a:Type}{W:List a}{x:a}:(W.set i x).eraseIdx i=W.eraseIdx i:=by exact List.eraseIdx_set_eq
theorem aXk{j r u:Nat}{T:List bS}{W:List (eJ×Bool)}{l:List bZ}(q:kO h c j wb r u T W H l e)(N:c≠j)(x:c≠wb)(Q:mR T)(s:Int)(G:H.length<=2^38)(v:l.length<=2^38)
 (n:∀h',Kp [c,j,wb] h h'->kO h' c j wb r u (Js T W s) (Aa W s) (bX H s) (bX l s) e->k (.tuple #[]) h'):Ct 75 [.zP c,.zI s] h k:=by
 obtain⟨A,P⟩:=Ar.ex;obtain⟨d,V⟩:∃d,d=Js T W s:=⟨_,rfl⟩;obtain⟨g,f⟩:∃g,g=Aa W s:=⟨_,rfl⟩;rw[<-V,<-f]at n;refine oE A (aj iQt.aw iQt.bz) Tryz.func75 rfl (by kernel_rfl) ?_;cbv;refine rO q s (λO z t p C L=>?_);have D:=q.mono p;cases t with
 |false=>
  have a:d=T:=by rw[V];unfold Js;grind
  cbv;refine aQz D x s G v (λy o b=>?_);rw[<-f,<-a]at b;have m:=n y ((p.kp _).trans (o.sub io)) b;cbv;exact m
 |true=>
  have Z:dE (dR W s)<W.length:=by have:=jk L.symm;simpa[dR]using this
  obtain⟨w,B⟩:=ay Z;have a:d=ea T w.1.log:=by grind [Js]
  have J:g=W.eraseIdx (dE (dR W s)):=by rw[f];unfold Aa;grind
  obtain⟨i,K⟩:∃i,i=dE (dR W s):=⟨_,rfl⟩;rw[<-K]at C B J;clear V f;cbv;refine Xi D N x Q C B 0 (λy o b=>?_);have h0:fP 0 w.1.log.length=0:=by unfold fP;simp
  rw[h0,kQQ,<-a]at b;cbv;refine aQz b x s G v (λF M E=>?_);have I:Aa (W.set i (⟨w.1.s,w.1.log.take 0,w.1.marks⟩,false)) s=g:=by
   grind [Aa,Lq,Vv]
  rw[I]at E;have m:=n F (((p.kp _).trans (o.sub io)).trans (M.sub io)) E;cbv;exact m
def Wf(ws:List eJ):List (eJ×Bool):=ws.map λw=>(w,true)
def tU(ws:List eJ)(s:Int):List eJ:=if iC (cf ws s)=true then ws.eraseIdx (dE (cf ws s))else ws
def tV(T:List bS)(ws:List eJ)(s:Int):List bS:=
 if iC (cf ws s)=true then match ws[dE (cf ws s)]? with
  |some w=>ea T w.log
  |none=>T
 else T
def jo(d:DB)(s:Int):DB:=⟨tV d.ao d.ai s,tU d.ai s,bX d.holds s,bX d.waits s⟩
def kC:Nat->DB->bZ->DB×Int
 |0,d,_=>(d,16)
 |f+1,d,hd=>
  if bW d.holds hd=true then(⟨d.ao,d.ai,cT d.holds hd,cW d.holds d.waits hd⟩,0)
  else if(dg (cN (cT d.holds hd) (cW d.holds d.waits hd)) hd.s).2=true then
   if decide ((dg (cN (cT d.holds hd) (cW d.holds d.waits hd)) hd.s).1=hd.s)=true then(jo ⟨d.ao,d.ai,cT d.holds hd,cW d.holds d.waits hd⟩ (dg (cN (cT d.holds hd) (cW d.holds d.waits hd)) hd.s).1,17)
   else kC f (jo ⟨d.ao,d.ai,cT d.holds hd,cW d.holds d.waits hd⟩ (dg (cN (cT d.holds hd) (cW d.holds d.waits hd)) hd.s).1) hd
  else(⟨d.ao,d.ai,cT d.holds hd,cW d.holds d.waits hd⟩,16)
def cC(d:DB)(hd:bZ):DB×Int:=if FO d hd=true then kC (d.holds.length+1) d hd else(d,2)
theorem pH(ws:List eJ)(s:Int):dR (Wf ws) s=cf ws s:=by simp[dR,cf,Wf]
theorem KB(ws:List eJ)(s:Int):Aa (Wf ws) s=Wf (tU ws s):=by
 unfold Aa tU;rw[pH];split
 .unfold Wf;rw[nM,nM];simp[wL,kZV]
 rfl
theorem NX(T:List bS)(ws:List eJ)(s:Int):Js T (Wf ws) s=tV T ws s:=by
 unfold Js tV
 grind [pH,Wf,dE,cf]
theorem Jr(E:List (Int×Int)):∀(l:List Int) (st:List Int×List Int),(∀k∈l,k∈E.map (·.2))->(∀k∈st.1,k∈E.map (·.2))->∀k∈(l.foldl dV st).1,k∈E.map (·.2)
 | [],st,_,h=>h
 |x::r,st,b,h=>by
  rw[kJF];refine Jr E r _ (λk a=>b k (kQH _ a)) (λk a=>?_)
  grind [dV]
theorem aXf(E:List (Int×Int)):∀(n:Nat) (st:List Int×List Int),(∀k∈st.1,k∈E.map (·.2))->∀k∈bQL E n st,k∈E.map (·.2)
 |0,st,h=>h
 |n+1,(seen,[]),h=>h
 |n+1,(seen,a::r),h=>by
  unfold bQL;refine aXf E n _ (Jr E _ _ (λk b=>?_) h)
  grind [dv]
theorem uF{E:List (Int×Int)}{k:Int}(h:k∈over E s):k∈E.map (·.2):=aXf E _ _ (λ_ h=>by cases h) k h
theorem qZ{W:List bZ}{k:Int}(h:k∈(cN H W).map (·.2)):∃x∈H,x.s=k:=by
 grind [cN,jh,hx]
theorem aZB{k:Int}(h:∃x∈H,x.s=k):(bX H k).length<H.length:=by
 obtain⟨x,hx,c⟩:=h;unfold bX;rcases kKf (H.filter λh=>decide (h.s≠k)).length H.length with a|a
 .exact a
 have b:=cg.1 (Nat.le_antisymm (Dg _ _) a) x hx
 grind
theorem vQ{W:List bZ}(h:(dg (cN H W) s).2=true):(bX H (dg (cN H W) s).1).length<H.length:=by
 have v:=(og (cN H W) s).out;rcases v with⟨a,-⟩|⟨-,b,-,c,-⟩
 .grind
 refine aZB (qZ (W:=W) ?_)
 grind [uF]
theorem uQ{T:List bS}(h:mR T)(ws:List eJ)(s:Int):mR (tV T ws s):=by
 grind [tV,zD]
theorem Dn{W:List bZ}:(cW H W hd).length<=(bX W hd.s).length+1:=by unfold cW;split<;>simp
theorem Cg{W:List bZ}:(bX (cW H W hd) hd.s).length<=(bX W hd.s).length:=by
 grind [bX,cW]
theorem Cf(W:List bZ)(a b:Int):bX (bX W a) b=bX (bX W b) a:=by
 unfold bX;rw[wS,wS]
 grind
theorem Km{r R T:Nat}(q:kO h c r wb R T d.ao (Wf d.ai) d.holds d.waits e)(hd:bZ)(qj:c≠r)(px:c≠wb)(aA:mR d.ao)
 (hH:d.holds.length<2^18) (aw:d.waits.length<2^18) {D:DB×Int} (hD:cC d hd=D) 
 (hk:∀h',Kp [c,r,wb] h h'->kO h' c r wb R T D.1.ao (Wf D.1.ai) D.1.holds D.1.waits e->k (.zI D.2) h'):
 Ct 115 [.zP c,.zI hd.s,.string hd.table,.bool hd.x] h k:=by
 obtain⟨A,hA⟩:=Ar.ex;obtain⟨a,b,hx⟩:=hd;obtain⟨L0,ar⟩:∃L,L=(bX d.waits a).length:=⟨_,rfl⟩;have aF:L0<2^18:=by have:=gS d.waits a;omega
 have gE:A .not true=false:=by rw[hA.not];rfl
 have sA:A .not false=true:=by rw[hA.not];rfl
 refine kh bXs A Tryz.func115 ?_;cbv;intro p4 h1 Z e1;cbv;intro p5 h2 V e2;cbv;intro p6 h3 ag e3;cbv;intro p7 h4 ab e4;have l1:Le h h1:=zqs e1 Z
 have l2:Le h1 h2:=zqs e2 V
 have l3:Le h2 h3:=zqs e3 ag
 have l4:Le h3 h4:=zqs e4 ab
 have E:h4 p4=some (.cells #[.zP c] 134 (0,0)):=((l2.trans l3).trans l4) _ _ (zqt e1);have g5:h4 p5=some (.cells #[.zI a] 3 (0,0)):=(l3.trans l4) _ _ (zqt e2);have g6:h4 p6=some (.cells #[.string b] 9 (0,0)):=l4 _ _ (zqt e3);have g7:h4 p7=some (.cells #[.bool hx] 4 (0,0)):=zqt e4;have P:=((l1.trans l2).trans l3).trans l4;have q4:=q.mono P;have ll:∀p,h p=none->p∉[c,r,wb]:=λp hp hm=>by
  obtain⟨n1,n2,b3,n3,c3,b4,n4,c4,o,g0,-,-,g2,-,E,-⟩:=q.out;obtain⟨x1,g2,-⟩:=g2.out;obtain⟨x2,E,-⟩:=E.out
  grind
 have n4:=ll p4 Z;have n5:=ll p5 (l1.none V);have n6:=ll p6 ((l1.trans l2).none ag);have n7:=ll p7 (((l1.trans l2).trans l3).none ab);have IG:∀ {hh:ad} (l:Le h hh),FO d ⟨a,b,hx⟩=false->k (.zI 2) hh:=λ{hh} l yG=>by
  have Wz:D=(d,2):=by grind [cC]
  have:=hk hh (l.kp _) (by rw[Wz];exact q.mono l)
  grind
 cbv;refine cy E ?_;cbv;refine cy g5 ?_;cbv;refine rO q4 a (λh5 z1 t1 l5 ld Sj=>?_);rw[pH]at Sj;have Y:=P.trans l5;cases t1 with
 |false=>have z:=IG Y (by unfold FO;grind);cbv;rw[sA];cbv;exact z
 |true=>
  cbv;rw[gE];cbv;refine cy (l5 _ _ E) ?_;cbv;refine cy (l5 _ _ g6) ?_;cbv;refine vV (q4.mono l5) b (λh6 z2 t2 l6 mf Bh=>?_);have Ao:=Y.trans l6;have N:=l5.trans l6;cases t2 with
  |false=>have z:=IG Ao (by unfold FO;grind);cbv;rw[sA];cbv;exact z
  |true=>
   have ax:kC (d.holds.length+1) d ⟨a,b,hx⟩=D:=by
    grind [cC,FO,hx]
   have q6:=q4.mono N;have f4:=N _ _ E;have f5:=N _ _ g5;have f6:=N _ _ g6;have f7:=N _ _ g7;clear hD IG E g5 g6 g7 e1 e2 e3 e4 Sj Bh;obtain⟨I,gX⟩:∃I:Nat->ad->Prop,∀m h',I m h'=∃w:DB,w.holds.length<m/\w.holds.length<2^18/\w.waits.length<=2^18/\(bX w.waits a).length<=L0/\mR w.ao/\kC m w ⟨a,b,hx⟩=D/\Kp [c,r,wb] h6 h'/\kO h' c r wb R T w.ao (Wf w.ai) w.holds w.waits e:=⟨_,λ_ _=>rfl⟩;cbv;rw[gE];cbv;refine ba.gz (G:=Unit) (λ_=>[]) (λ_=>[]) (λn g h'=>I n h') (d.holds.length+1) () (by grind [Kp.refl]) ?_
   intro m g h' hI;rw[gX]at hI;cbv;obtain⟨⟨dT,x,i,S⟩,hm,lG,gQ,yL,O,j,Q,hq⟩:=hI;have hq:kO h' c r wb R T dT (Wf x) i S e:=hq;have lG:i.length<2^18:=lG;have gQ:S.length<=2^18:=gQ;have yL:(bX S a).length<=L0:=yL;have hm:i.length<m:=hm;obtain⟨f,rfl⟩:∃f,m=f+1:=⟨m-1,ip⟩;have k4:=Q _ _ f4 n4;have k5:=Q _ _ f5 n5;have k6:=Q _ _ f6 n6;have k7:=Q _ _ f7 n7;have nZ:=BN (H:=i) (hd:=⟨a,b,hx⟩);have lN:=Dn (H:=i) (W:=S) (hd:=⟨a,b,hx⟩);have lN:(cW i S ⟨a,b,hx⟩).length<=(bX S a).length+1:=lN;have Ef:=Cg (H:=i) (W:=S) (hd:=⟨a,b,hx⟩);have Ef:(bX (cW i S ⟨a,b,hx⟩) a).length<=(bX S a).length:=Ef;have aq:bW i ⟨a,b,hx⟩=false->cT i ⟨a,b,hx⟩=i:=λhf=>by unfold cT;rw[hf];rfl
   have X:=vQ (H:=cT i ⟨a,b,hx⟩) (W:=cW i S ⟨a,b,hx⟩) (s:=a);unfold kC at j;have j:(if bW i ⟨a,b,hx⟩=true then((⟨dT,x,cT i ⟨a,b,hx⟩,cW i S ⟨a,b,hx⟩⟩,0):DB×Int)
    else if(dg (cN (cT i ⟨a,b,hx⟩) (cW i S ⟨a,b,hx⟩)) a).2=true then
     if decide ((dg (cN (cT i ⟨a,b,hx⟩) (cW i S ⟨a,b,hx⟩)) a).1=a)=true then(jo ⟨dT,x,cT i ⟨a,b,hx⟩,cW i S ⟨a,b,hx⟩⟩ (dg (cN (cT i ⟨a,b,hx⟩) (cW i S ⟨a,b,hx⟩)) a).1,17)
     else kC f (jo ⟨dT,x,cT i ⟨a,b,hx⟩,cW i S ⟨a,b,hx⟩⟩ (dg (cN (cT i ⟨a,b,hx⟩) (cW i S ⟨a,b,hx⟩)) a).1) ⟨a,b,hx⟩
    else(⟨dT,x,cT i ⟨a,b,hx⟩,cW i S ⟨a,b,hx⟩⟩,16))=D:=j
   refine(So (hd:=⟨a,b,hx⟩) hq k4 k5 k6 k7 ip ip).mono (λv h7 hR=>?_);obtain⟨ak,t,rfl,et,q7⟩:=hR;have K:Kp [c,r,wb] h h7:=((Ao.kp _).trans Q).trans (ak.sub io);have F:Kp [c,r,wb] h6 h7:=Q.trans (ak.sub io);have aK:=et;rw[<-et]at j;generalize cT i ⟨a,b,hx⟩=J at *;generalize cW i S ⟨a,b,hx⟩=C at *;cases t with
   |true=>have j:((⟨dT,x,J,C⟩,0):DB×Int)=D:=j;subst j;have z:=hk h7 K q7;cbv;rw[gE];cbv;exact z
   |false=>
    have aI:=aq et.symm;refine q7.elim (λu1 u2 y3 v3 w3 y4 v4 w4 oo G0 Ho G1 G2 G3 G4 Q6 Q7 _=>?_);have aB:=Q6.len;have aE:=Q7.len;have j4:=F _ _ f4 n4;have j5:=F _ _ f5 n5;cbv;rw[sA];cbv;refine cy j4 ?_;cbv;rw[av A];rw[av A];refine cy G0 ?_;cbv;refine cy j5 ?_;cbv;refine(Ig Q6 Q7 ip ip a).mono (λv h8 hR=>?_);obtain⟨M,y,tv,rfl,Ea⟩:=hR;obtain⟨Zh,U⟩:=Ea.eq;rw[<-Zh,<-U]at j;rw[<-U,<-Zh]at X;cases tv with
    |false=>have j:((⟨dT,x,J,C⟩,16):DB×Int)=D:=j;subst j;have z:=hk h8 (K.trans (M.kp _)) (q7.mono M);cbv;rw[sA];cbv;exact z
    |true=>
     have X:=X rfl;have j:(if decide (y=a)=true then((jo ⟨dT,x,J,C⟩ y,17):DB×Int)else kC f (jo ⟨dT,x,J,C⟩ y) ⟨a,b,hx⟩)=D:=j;cbv;rw[gE];cbv;refine cy (M _ _ j4) ?_;cbv;refine aXk (q7.mono M) qj px O y ip ip (λh9 k9 q9=>?_);rw[NX,KB]at q9;have ao:=(K.trans (M.kp _)).trans k9;have an:=(F.trans (M.kp _)).trans k9;have i5:=an _ _ f5 n5;obtain⟨B,sB⟩:∃B,B=jo ⟨dT,x,J,C⟩ y:=⟨_,rfl⟩;have al:kO h9 c r wb R T B.ao (Wf B.ai) B.holds B.waits e:=by rw[sB];exact q9
     rw[<-sB]at j;generalize eu:A .aQ .eql y a=u;have fu:=eu;rw[au A]at eu;rw[eu]at j;cbv;refine cy i5 ?_;cbv;rw[fu];cases u with
     |true=>have j:((B,17):DB×Int)=D:=j;subst j;have z:=hk h9 ao al;cbv;exact z
     |false=>
      have j:kC f B ⟨a,b,hx⟩=D:=j;have kL:I f h9:=by
       have OH:=gS C y;have aC:B.holds=bX J y:=by rw[sB];rfl
       have aD:B.waits=bX C y:=by rw[sB];rfl
       have aG:mR B.ao:=by rw[sB];exact uQ O _ _
       grind [bX,Cf,gS]
      cbv;refine zqn f () ip kL
set_option maxHeartbeats 4000000
structure sW(n:Nat)(d:DB):Prop where
 ao:d.ao.length<=2^30
 gi:d.ai.Pairwise (λa b=>a.s<b.s)
 mX:∀w∈d.ai,0<=w.s/\w.s<8
 rows:mR d.ao
 holds:d.holds.length<=n
 waits:d.waits.length<=n
 cXm:∀x∈d.holds,0<=x.s/\x.s<8
theorem sW.le(o:sW n d)(h:n<=m):sW m d:=⟨o.ao,o.gi,o.mX,o.rows,kXj o.holds h,kXj o.waits h,o.cXm⟩
theorem zH:∀ {l:List eJ} {a:Int},l.Pairwise (λa b=>a.s<b.s)->(∀w∈l,a<=w.s/\w.s<8)->(l.length:Int)<=max 0 (8-a)
 | [],a,_,_=>by simp;omega
 |x::r,a,s,c=>by
  have d:=c x io;have Z:∀w∈r,x.s<w.s:=λw h=>kZS s h;have:=zH (a:=x.s+1) (List.Pairwise.of_cons s) (λw h=>⟨gg,(c w (kQH _ h)).2⟩)
  grind
theorem sW.fKV(o:sW n d):d.ai.length<=8:=by have:=zH o.gi o.mX;omega
theorem sW.small(o:sW n d)(a:n<2^18):Small d:=by have:=o.fKV;have:=o.ao;have:=o.holds;have:=o.waits;exact⟨ip,ip,λt h=>by have:=o.rows t h;omega,ip,ip⟩
theorem wrap_zero{x:Int}(a:-2^64<x)(b:x<2^64)(h:IntKind.i64.wrap x=0):x=0:=by
 have s:IntKind.i64.signed=true:=rfl;simp only[IntKind.wrap,IntKind.bits,s]at h
 grind
theorem aZF(T:List bS)(x:cR):(gz T x).map (·.S)=T.map (·.S):=by
 have p:∀t r,(bL t r).1.S=t.S:=λt r=>by
  unfold bL;repeat' split
  all_goals rfl
 have b:∀t k,(bE t k).1.S=t.S:=λt k=>by
  unfold bE;split<;>rfl
 have key:∀(i:Nat) (t t':bS),T[i]? =some t->t'.S=t.S->(T.set i t').map (·.S)=T.map (·.S):=λi t t' a h=>by
  rw[kJD,h];apply kZq;intro j
  grind
 grind [gz]
theorem pI(T:List bS):∀l,(ea T l).map (·.S)=T.map (·.S)
 | []=>rfl
 |x::r=>(aZF _ _).trans (pI T r)
theorem EN(T:List bS)(ws:List eJ)(s:Int):(tV T ws s).map (·.S)=T.map (·.S):=by
 grind [tV,pI]
theorem Ub{T:List bS}(h:a.map (·.S)=T.map (·.S))(nm:ByteArray):aU a nm=aU T nm:=by
 have e:∀T:List bS,aU T nm=(T.map (·.S)).map (λs=>dy s.name nm):=λT=>by simp[aU,Function.comp_def]
 rw[e,e,h]
theorem aXw{T:List bS}(h:a.map (·.S)=T.map (·.S)):a.length=T.length:=by
 have:=congrArg List.length h
 grind
theorem bJu(l:List Int)(p:Nat)(c:p<l.length)(h0:l.getD p 0=0)(a:∀i,i<p->l.getD i 0<0)(b:∀i,p<i->i<l.length->l.getD i 0>0):dE l=p/\iC l=true:=by
 have h:dE l=p:=yy l p a 0 l.length (λk h d=>by
  grind) (kXH _) (kKc c)
 grind [iC]
theorem EU{w:eJ}(h:ws[i]? =some w):(cf ws s).getD i 0=IntKind.i64.wrap (w.s-s):=by
 grind [cf]
theorem JA(s:ws.Pairwise (λa b=>a.s<b.s))(r:∀w∈ws,0<=w.s/\w.s<8){w:eJ}(d:ws[i]? =some w):dE (cf ws w.s)=i/\iC (cf ws w.s)=true:=by
 have e:=(HH.1 d).1;have f:=r w (kQR d);have hl:(cf ws w.s).length=ws.length:=by simp[cf]
 have get:∀j,j<ws.length->∃x,ws[j]? =some x/\(cf ws w.s).getD j 0=x.s-w.s/\(j<i->x.s<w.s)/\(i<j->w.s<x.s):=λj c=>by
  obtain⟨x,hx⟩:=ay c;have Q:=r x (kQR hx);refine⟨x,hx,?_,λh=>?_,λh=>?_⟩
  .rw[EU hx,IntWalk.i64_in _ ip]
  .have:=kJJ.1 s j i c e h
   grind
  have:=kJJ.1 s i j e c h
  grind
 grind [bJu,hx]
theorem xL(r:∀w∈ws,0<=w.s/\w.s<8)(H:-2^63<=s/\s<2^63)(h:iC (cf ws s)=true):∃w,ws[dE (cf ws s)]? =some w/\w.s=s:=by
 have h':=kZr h;obtain⟨c,a⟩:=h';have hl:dE (cf ws s)<ws.length:=by simpa[cf]using c
 obtain⟨w,b⟩:=ay hl;have G:=r w (kQR b);rw[EU b]at a;have:=wrap_zero ip ip a
 grind
theorem kP(d:ws.Pairwise (λa b=>a.s<b.s))(r:∀w∈ws,0<=w.s/\w.s<8)(H:-2^63<=s/\s<2^63):iC (cf ws s)=true↔∃w∈ws,w.s=s:=by
 constructor
 .intro h
  grind [xL]
 rintro⟨w,f,rfl⟩;obtain⟨i,c,e⟩:=kXF f;exact(JA d r (i:=i) (by rw[kZG c,e])).2
theorem tS(ws:List eJ)(s:Int):(tU ws s).Sublist ws:=by
 grind [tU]
theorem Vw(s:ws.Pairwise (λa b=>a.s<b.s))(r:∀w∈ws,0<=w.s/\w.s<8){v:Int}(d:-2^63<=v/\v<2^63){w:eJ}(c:w∈ws)(V:w.s≠v):w∈tU ws v:=by
 unfold tU;split
 .rename_i h;obtain⟨x,hx,e⟩:=xL r d h;obtain⟨j,f,W⟩:=kXF c;rw[kZR]
  grind
 exact c
theorem Xa{W:List bZ}(h:(dg (cN H W) s).2=true):∃x∈H,x.s=(dg (cN H W) s).1:=by
 have v:=(og (cN H W) s).out;rcases v with⟨a,-⟩|⟨-,b,-,c,-⟩
 .grind
 refine qZ (W:=W) ?_
 grind [uF]
structure aXR(n:Nat)(d:DB)(hd:bZ)(D:DB×Int):Prop where
 S:D.1.ao.map (·.S)=d.ao.map (·.S)
 ok:sW (n+1) D.1
 own:D.2=0->∀w∈d.ai,w.s=hd.s->w∈D.1.ai
 sub:D.1.ai.Sublist d.ai
def cKj(d:DB):Prop:=∀x∈d.holds,0<=x.s/\x.s<8
theorem Hg(h:∀x∈H,0<=x.s/\x.s<8)(s:0<=hd.s/\hd.s<8):∀x∈cT H hd,0<=x.s/\x.s<8:=λx hx=>by
 grind [cT,hx]
theorem MW(n:Nat)(hd:bZ)(s:0<=hd.s/\hd.s<8):∀(f:Nat) (d:DB),d.holds.length<f->d.ao.length<=2^30->d.ai.Pairwise (λa b=>a.s<b.s)->(∀w∈d.ai,0<=w.s/\w.s<8)->mR d.ao->d.holds.length<=n->(bX d.waits hd.s).length<=n->cKj d->
 aXR n d hd (kC f d hd)
 |0,d,t,_,_,_,_,_,_,_=>ip
 |f+1,d,t,j,c,g,l,y,z,i=>by
  have A:=BN (H:=d.holds) (hd:=hd);have C:=Dn (H:=d.holds) (W:=d.waits) (hd:=hd);have D:=Cg (H:=d.holds) (W:=d.waits) (hd:=hd);unfold kC;by_cases q:bW d.holds hd=true
  .rw[if_pos q];exact⟨rfl,⟨j,c,g,l,gg,gg,Hg i s⟩,λ_ w h _=>h,List.Sublist.refl _⟩
  rw[if_neg q];have o:cT d.holds hd=d.holds:=by unfold cT;grind
  by_cases E:(dg (cN (cT d.holds hd) (cW d.holds d.waits hd)) hd.s).2=true
  .rw[if_pos E];have O:=Xa E;have X:=vQ E;have U:-2^63<=(dg (cN (cT d.holds hd) (cW d.holds d.waits hd)) hd.s).1/\(dg (cN (cT d.holds hd) (cW d.holds d.waits hd)) hd.s).1<2^63:=by obtain⟨x,hx,r⟩:=O;rw[o]at hx;rw[<-r];have:=i x hx;omega
   generalize (dg (cN (cT d.holds hd) (cW d.holds d.waits hd)) hd.s).1=v at *;have u:=gS (cW d.holds d.waits hd) v;have I:(bX (bX (cW d.holds d.waits hd) v) hd.s).length<=n:=by
    grind [Cf,gS,bX,cW]
   have K:(jo ⟨d.ao,d.ai,cT d.holds hd,cW d.holds d.waits hd⟩ v).ao.map (·.S)=d.ao.map (·.S):=EN _ _ _;have p:(jo ⟨d.ao,d.ai,cT d.holds hd,cW d.holds d.waits hd⟩ v).holds.length<d.holds.length:=by show(bX (cT d.holds hd) v).length<_;grind
   have k:(jo ⟨d.ao,d.ai,cT d.holds hd,cW d.holds d.waits hd⟩ v).ai.Sublist d.ai:=tS _ _;by_cases J:v=hd.s
   .rw[if_pos (kS J)];exact⟨K,⟨by rw[aXw K];exact j,c.sublist k,λw h=>g w (k.subset h),uQ l _ _,kXj (kKc p) ip,kXj u ip,λx hx=>Hg i s x (kZp.1 hx).1⟩,(λe=>by cases e),k⟩
   rw[if_neg (iu J)];have m:=MW n hd s f (jo ⟨d.ao,d.ai,cT d.holds hd,cW d.holds d.waits hd⟩ v) ip (by rw[aXw K];exact j) (c.sublist k) (λw h=>g w (k.subset h)) (uQ l _ _) ip I
    (λx hx=>i x (by
     have hx:x∈bX (cT d.holds hd) v:=hx;rw[o]at hx;exact(kZp.1 hx).1))
   refine⟨m.S.trans K,m.ok,λe w h B=>m.own e w ?_ B,m.sub.trans k⟩;exact Vw c g U h gg
  rw[if_neg E];exact⟨rfl,⟨j,c,g,l,gg,gg,Hg i s⟩,λ_ w h _=>h,List.Sublist.refl _⟩
theorem oS(o:sW n d)(hd:bZ)(h:-2^63<=hd.s/\hd.s<2^63):aXR n d hd (cC d hd):=by
 unfold cC;by_cases U:FO d hd=true
 .rw[if_pos U];unfold FO at U;rw[kZj]at U;obtain⟨w,a,b⟩:=(kP o.gi o.mX h).1 U.1;have:=o.mX w a;exact MW n hd ip _ d ip o.ao o.gi o.mX o.rows o.holds (kXj (gS _ _) o.waits) o.cXm
 rw[if_neg U];exact⟨rfl,o.le ip,(λe=>by cases e),List.Sublist.refl _⟩
theorem Bo(o:sW n d)(s:-2^63<=hd.s/\hd.s<2^63)(h0:(cC d hd).2=0):
 iC (aU (cC d hd).1.ao hd.table)=true/\iC (cf (cC d hd).1.ai hd.s)=true:=by
 have h:=oS o hd s;have U:FO d hd=true:=by
  grind [FO,cC]
 unfold FO at U;rw[kZj]at U;refine⟨by rw[Ub h.S];exact U.2,?_⟩;obtain⟨w,a,e⟩:=(kP o.gi o.mX s).1 U.1;exact(kP h.ok.gi h.ok.mX s).2 ⟨w,h.own h0 w a e,e⟩
end Go.S
