import Derived.Test.YtifjeceolckgaaaGreatEC
set_option linter.all false
set_option maxRecDepth 100000
set_option maxHeartbeats 8000000
namespace Go.S
open Go.Sx Go.Proofs
variable {A:Ar}{only:Bool}{d:DB}{e key s z:Int}{W:List (fJ×Bool)}{tys:List Nat}{rows:List Row}{cols:List cK}{H:List cg}{a:List fJ}{c i m n p w:Nat}{b:Option Addr}{k:Value->ad->Prop}{h h':ad}{hd:cg}
theorem Li{xs:List (fJ×Bool)}{b cap:Nat}(o:fX 55 cX h b cap xs)(g:n=xs.length){w:Int}(j:aS z i)(a:aS w (i+1))(O:i<n)
 (t:∀h' m,m=n-1->Kp [b] h h'->(∀tys,55∉tys->bR tys h h')->fX 55 cX h' b cap (xs.eraseIdx i)->k (.slice (some ⟨b,0,none⟩) m cap) h'):
 Ct 114 [.slice (some ⟨b,0,none⟩) n cap,.int .i64 z,.int .i64 w] h k:=by
 obtain⟨A,c⟩:=Ar.ex;have u:=o.le;have R:=o.bd;have N:=j.eq;have P:=a.eq;have C:A .nat n=(n:Int):=by rw[c.nat];rfl
 have r:A .aI .eql z w=false:=by rw[aA A];exact mQv (by omega)
 have q:Sl 55 cX h (.slice (some ⟨b,0,none⟩) n cap) xs:=o.sl g;have F:0<=A .nat n/\A .nat n<=(cap:Int)/\0<=w/\w<=A .nat n/\0<=z/\z<=w:=by rw[C];omega
 have v:0<=z/\z<=(cap:Int):=by omega
 have G:0<=w/\w<=(n:Int):=by omega
 have T:∀m,m=n-1->0<=A .nat n/\A .nat n<=(cap:Int)/\0<=A .nat m/\A .nat m<=A .nat n:=λm f=>by
  have L:A .nat m=(m:Int):=by rw[c.nat];rfl
  rw[C,L];omega
 have B:=q.uW (A:=A) a (by omega) rfl rfl;have Y:=fh (A:=A) j;have Q:=gA (A:=A) (n:=n) a;have Z:=gA (A:=A) (n:=cap) a;refine mQF cJb A Tryz.func114 ?_;cbv;refine⟨F,?_⟩;cbv;rw[r];cbv;refine⟨v,?_⟩;cbv;refine⟨G,?_⟩;cbv;rw[Da (A:=A),Y,Q];refine o.Re (by decide) (i:=i) (by omega) B (by omega) (by omega) rfl (λM m f x I o1=>?_);have H:m=n-1:=by omega
 have o2:=o1.shrink (n-1);have e:(xs.take i++xs.drop (i+1)++xs.drop (i+(n-(i+1)))).take (n-1)=xs.eraseIdx i:=by rw[g];exact erase_eq (by omega)
 rw[e]at o2;clear o1 e f;have D:(xs.eraseIdx i).length=n-1:=by rw[mKv (by omega)];omega
 have T:=T m H;have K:A .su (A .nat n) (A .nat m)=1:=by rw[gA (A:=A) (aS.nat m)];omega
 cbv;refine⟨T,?_⟩;cbv;rw[CZ (A:=A) (aS.nat m) (by omega),K];refine o2.eQY (by decide) rfl rfl (p:=m) (by omega) (by omega) (λs y J E=>?_);have l:=t s m H (x.trans y) (λtys d=>(I tys d).trans (J tys d)) E;cbv;exact l
theorem sO{b:Nat}{T:List cW}{a:List cg}(q:lA h c m n b w T W H a e)(s:Int)
 (i:∀h' z t,Le h h'->aS z (di (dQ W s))->t=jG (dQ W s)->k (.tuple #[.int .i64 z,.bool t]) h'):Ct 39 [.pointer (some ⟨c,0,none⟩),.int .i64 s] h k:=
 (Ay q s).mono (λv h' hR=>by
  obtain⟨l,z,t,j,g⟩:=hR;obtain⟨d,f⟩:=g.at_;rw[j];exact i h' z t l d f)
theorem On{b:Nat}{T:List cW}{a:List cg}(q:lA h c m n b w T W H a e)(name:ByteArray)
 (i:∀h' z t,Le h h'->aS z (di (aQ T name))->t=jG (aQ T name)->k (.tuple #[.int .i64 z,.bool t]) h'):Ct 99 [.pointer (some ⟨c,0,none⟩),.string name] h k:=
 (vu q name).mono (λv h' hR=>by
  obtain⟨l,z,t,j,g⟩:=hR;obtain⟨d,f⟩:=g.at_;rw[j];exact i h' z t l d f)
theorem dZj{nm:ByteArray}{r:Row}{s o:Option Addr}{u t:Nat}(A:Sl 155 bI h (.slice s u t) cols)(z:Sl 84 aD h (.slice o m p) rows)(q:Sl 86 bq h (.slice b n c) r)(x:m<=2^37)
 (w:∀h' a i f d j g T e,Le h h'->Sl 155 bI h' (.slice a i f) cols->Sl 84 aD h' (.slice d j g) T->(⟨⟨⟨nm,cols,key,only⟩,T⟩,e⟩:cW×Int)=bK ⟨⟨nm,cols,key,only⟩,rows⟩ r->k (.tuple #[.agg #[.string nm,.slice a i f,.int .i64 key,.bool only,.slice d j g],.int .i64 e]) h'):
 Ct 143 [.agg #[.string nm,.slice s u t,.int .i64 key,.bool only,.slice o m p],.slice b n c] h k:=
 (cJx (nm:=nm) (key:=key) (only:=only) A z q x).mono (λv h' hR=>by
  obtain⟨l,a,i,f,d,j,g,e,T,y,B,C,D⟩:=hR;rw[y];exact w h' a i f d j g T e l B C D)
theorem bJw{nm:ByteArray}{s o:Option Addr}{r q:Nat}(y:Sl 155 bI h (.slice s r q) cols)(x:Sl 84 aD h (.slice o m p) rows)(u:m<=2^37)(kv:cO)
 (t:∀h' b n d a i f c j g T R e,Le h h'->Sl 155 bI h' (.slice b n d) cols->Sl 84 aD h' (.slice a i f) T->Sl 86 bq h' (.slice c j g) R->(⟨⟨⟨nm,cols,key,only⟩,T⟩,R,e⟩:cW×Row×Int)=bH ⟨⟨nm,cols,key,only⟩,rows⟩ kv->k (.tuple #[.agg #[.string nm,.slice b n d,.int .i64 key,.bool only,.slice a i f],.slice c j g,.int .i64 e]) h'):
 Ct 144 [.agg #[.string nm,.slice s r q,.int .i64 key,.bool only,.slice o m p],.agg #[.int .i64 kv.k,.int .i64 kv.n,.string kv.s]] h k:=
 (aXy (nm:=nm) (key:=key) (only:=only) y x u kv).mono (λv h' hR=>by
  obtain⟨l,b,n,d,a,i,f,c,j,g,e,T,R,w,z,A,B,C⟩:=hR;rw[w];exact t h' b n d a i f c j g T R e l z A B C)
theorem CP{W:List cg}{a:Option Addr}{e d:Nat}(q:Sl 201 bG h (.slice b n c) H)(f:Sl 201 bG h (.slice a e d) W)(s:Int)(G:H.length<=2^38)(m:W.length<=2^38)
 (g:∀h' b n c a e d,Le h h'->Sl 201 bG h' (.slice b n c) (bX H s)->Sl 201 bG h' (.slice a e d) (bX W s)->k (.agg #[.slice b n c,.slice a e d]) h'):Ct 115 [.agg #[.slice b n c,.slice a e d],.int .i64 s] h k:=
 (cXB q f (by rw[q.len];exact G) (by rw[f.len];exact m) s).mono (λv h' hR=>by
  obtain⟨l,b,n,c,a,e,d,i,r,j⟩:=hR;rw[i];exact g h' b n c a e d l r j)
theorem lA.aq{d:ad}{t:Nat}{T:List cW}{u:List cg}{I s:Nat}{f g:Option Addr}{k l j:Nat}{o:Int}
 (v:h c=some (.cells #[.slice (some ⟨m,0,none⟩) n t,.slice (some ⟨p,0,none⟩) I w,.slice f k i,.slice g l j,.int .u32 o,.int .i32 0,.int .u32 0,.int .i64 e] 130 (0,0)))
 (E:(o=0/\e=0)\/(o=1/\e≠0)) (x:n=T.length) (y:fX 51 ef h m t T) (z:Sl 201 bG h (.slice f k i) H) (A:Sl 201 bG h (.slice g l j) u) (C:s=W.length)
 (G:∀tys,55∉tys->bR tys h d) (F:d c=h c) (B:fX 55 cX d p w W)
 (q:h'=bU d c (.cells #[.slice (some ⟨m,0,none⟩) n t,.slice (some ⟨p,0,none⟩) s w,.slice f k i,.slice g l j,.int .u32 o,.int .i32 0,.int .u32 0,.int .i64 e] 130 (0,0))):
 Kp [c] d h'/\lA h' c m p t w T W H u e:=by
 have X:=F.trans v;have lt:∀tys,130∉tys->bR tys d h':=λtys D=>by rw[q];exact bR.set X D
 have r:∀tys,55∉tys->130∉tys->bR tys h h':=λtys a b=>(G tys a).trans (lt tys b);refine⟨by rw[q];exact Kp.set (by simp),n,s,f,k,i,g,l,j,o,by rw[q];exact ae,E,x,y.mono (r _ (by decide) (by decide)),C,B.mono (lt _ (by decide)),z.mono (r _ (by decide) (by decide)),A.mono (r _ (by decide) (by decide))⟩
def Bg(W:List (fJ×Bool))(s:Int):List (fJ×Bool):=if jG (dQ W s)=true then W.eraseIdx (di (dQ W s))else W
theorem bQE{P M N:Nat}{T:List cW}{R:List cg}(q:lA h c P w M N T W H R e)(tZ:c≠w)(s:Int)(lG:H.length<=2^38)(mY:R.length<=2^38)
 (hk:∀h',Kp [c,w] h h'->lA h' c P w M N T (Bg W s) (bX H s) (bX R s) e->k (.tuple #[]) h'):gZt 45 [.pointer (some ⟨c,0,none⟩),.int .i64 s] h k:=by
 obtain⟨A,hA⟩:=Ar.ex;obtain⟨V,Y⟩:∃V,V=Bg W s:=⟨_,rfl⟩;rw[<-Y]at hk;have fin:∀(b:ad),Kp [c,w] h b->lA b c P w M N T V H R e->∀(j n:Nat) (p:Option Addr) (I u:Nat) (r:Option Addr) (J v:Nat) (o:Int),b c=some (.cells #[.slice (some ⟨P,0,none⟩) j M,.slice (some ⟨w,0,none⟩) n N,.slice p I u,.slice r J v,.int .u32 o,.int .i32 0,.int .u32 0,.int .i64 e] 130 (0,0))->
  ((o=0/\e=0)\/(o=1/\e≠0))->j=T.length->fX 51 ef b P M T->n=V.length->fX 55 cX b w N V->
  ∀(d:ad) (K:Option Addr) (F f:Nat) (L:Option Addr) (G D:Nat),Le b d->Sl 201 bG d (.slice K F f) (bX H s)->Sl 201 bG d (.slice L G D) (bX R s)->
  ∀a,a=bU d c (.cells #[.slice (some ⟨P,0,none⟩) j M,.slice (some ⟨w,0,none⟩) n N,.slice K F f,.slice L G D,.int .u32 o,.int .i32 0,.int .u32 0,.int .i64 e] 130 (0,0))->k (.tuple #[]) a:=
  λb k1 _ j n p I u r J v o g C x y B l d K F f L G D E Z r4 a O=>by
   have hl:=lA.HF (E _ _ g) C x (y.mono (E.t _)) B (l.mono (E.t _)) Z r4 O;exact hk a ((k1.trans (E.kp _)).trans (hl.1.sub (by simp))) hl.2
 refine zg A (ax jKE.aK jKE.bF) Tryz.func45 rfl (by kernel_rfl) ?_;cbv;refine sO q s (λb z t l1 hz ht=>?_);have q1:=q.mono l1;cases t with
 |false=>
  have Q:V=W:=by rw[Y];unfold Bg;rw[<-ht];rfl
  clear Y;subst Q;refine q1.elim (λj n p I u r J v o g C x y B l U X _=>?_);have fin:=fin b (l1.kp _) q1 j n p I u r J v o g C x y B l;cbv;rw[ai A];rw[ai A];refine mQw g ?_;cbv;refine CP U X s lG mY (λd K F f L G D E Z r4=>?_);cbv;rw[ai A];rw[ai A];refine ja (E _ _ g) (by simp) (λa O=>?_);have af:=fin d K F f L G D E Z r4 a O;cbv;exact af
 |true=>
  have Q:V=W.eraseIdx (di (dQ W s)):=by rw[Y];unfold Bg;rw[<-ht];rfl
  have aP:di (dQ W s)<W.length:=by have:=lr ht.symm;simpa[dQ]using this
  generalize di (dQ W s)=i at *;clear Y;refine q1.elim (λj n p I u r J v o g C x y B l U X _=>?_);have sM:=l.bd;have jV:=hz.succ (A:=A);have fZ:i<n:=by omega
  have ag:V.length=n-1:=by rw[Q,mKv aP];omega
  cbv;rw[ai A];rw[ai A];refine mQw g ?_;cbv;refine Li l B hz jV fZ (λd m hm k2 t2 o2=>?_);have S:d c=b c:=(k2 _ _ g (by simpa using tZ)).trans g.symm;rw[<-Q]at o2;have ay:=λa hh=>lA.aq (h':=a) g C x y U X (hm.trans ag.symm) t2 S o2 hh;have ab:=S.trans g;cbv;rw[ai A];rw[ai A];refine ja ab (by simp) (λa O=>?_);obtain⟨f,q3⟩:=ay a O;have Px:Kp [c,w] h a:=((l1.kp _).trans (k2.sub (by simp))).trans (f.sub (by simp));clear ay O;refine q3.elim (λj n p I u r J v o g C x y B l U X _=>?_);have fin:=fin a Px q3 j n p I u r J v o g C x y B l;cbv;rw[ai A];rw[ai A];refine mQw g ?_;cbv;refine CP U X s lG mY (λh4 K F f L G D l4 Z r4=>?_);cbv;rw[ai A];rw[ai A];refine ja (l4 _ _ g) (by simp) (λh5 e5=>?_);have af:=fin h4 K F f L G D l4 Z r4 h5 e5;cbv;exact af
structure aQH(z:Int)(i:Nat):Prop where
 eq:z=(i:Int)-1
theorem aQH.HO(h:aQH z (i+1)):aS z i:=⟨by have:=h.eq;omega⟩
theorem aQH.ge[a:bM A](h:aQH z i):A .aI .geq z 0=decide (1<=i):=by have:=h.eq;rw[cf A,decide_eq_decide];omega
theorem _root_.Go.Sx.aS.pred[a:bM A](h:aS z i)(b:i<2^62):aQH (A .bB .sub .i64 z 1) i:=⟨by
 have:=h.eq;rw[a.bB];simp only[bB];rw[IntWalk.i64_in _ (by omega)];omega⟩
abbrev Yd(l:Nat)(args:List Value)(h:ad)(R:Value->ad->Prop):Prop:=cZH (λ_=>Tryz.prog) l args h R
theorem cZw{xs:List dV}{e l:Nat}(J:Nat->ad->Prop)(o:∀i a,J i a->a e=some (.cells #[.slice b n c] 52 (0,0))/\Sl 137 dI a (.slice b n c) xs)
 (Y:∀i x a z cs,J (i+1) a->xs[i]? =some x->aS z i->dI.R a cs x->Yd l [.int .i64 z,.agg cs.toArray] a (λv h'=>v=.bool true/\J i h'))  (h0:J n h) 
 (D:∀h',J 0 h'->k (.tuple #[]) h'):Ct 226 [.func (.yield l) #[] #[],.pointer (some ⟨e,0,none⟩)] h k:=by
 obtain⟨A,C⟩:=Ar.ex;obtain⟨w,r⟩:=o n h h0;have q:=r.len;have O:=r.bound.1;have P:A .not true=false:=by rw[C.not];rfl
 have E:aQH (A .bB .sub .i64 (A .nat n) 1) n:=(aS.nat n).pred (by omega);refine mQF gQC A Tryz.func226 ?_;cbv;refine mQw w ?_;cbv;refine aX.go (G:=Int) (λg=>[(3,.v (.int .i64 g))]) (λ_=>[]) (λm g h'=>∃i:Nat,aQH g i/\m=i/\i<=n/\J i h') n (A .bB .sub .i64 (A .nat n) 1) (by constructor<;>cbv) ⟨n,E,rfl,mQD _,h0⟩ ?_
 intro m g h' I;cbv;obtain⟨i,p,M,Z,j⟩:=I;rw[p.ge (A:=A)];cases i with
 |zero=>have t:=D h' j;rw[show decide (1<=0)=false from rfl];cbv;exact t
 |succ i=>
  obtain⟨B,s⟩:=o _ _ j;have Q:aS g i:=p.HO;obtain⟨x,hx⟩:=mQA xs i;have u:b.isSome=true/\0<=g/\g<(n:Int):=⟨s.aT,Q.ix (by omega)⟩;have f:aQH (A .bB .sub .i64 g 1) i:=Q.pred (by omega);rw[show decide (1<=i+1)=true from mQu (by omega)];cbv;refine mQw B ?_;cbv;refine⟨u,?_⟩;cbv;refine s.load hx Q.eq (λcs y=>?_);have d:=Y i x h' g cs j hx Q y;obtain⟨F,N,H,rfl,-⟩:=y;cbv;refine d.mono (λv L hR=>?_);obtain⟨rfl,K⟩:=hR;cbv;rw[P];cbv;refine⟨i,_,by omega,by constructor<;>cbv,i,f,rfl,by omega,K⟩
theorem Ra(g:∀h' a,h a=none->Le h h'->h' a=some (.cells #[.slice b n c] 52 (0,0))->k (.func (.func 226) #[] #[.pointer (some ⟨a,0,none⟩)]) h'):
 Ct 142 [.slice b n c] h k:=by
 refine mQx lZw Tryz.func142 λA i=>?_;cbv;intro a d Q e;have f:=g d a Q (by rw[e];exact Le.set Q) ((congrFun e a).trans ae);cbv;exact f
def xi(r:Row)(key:Int):cO:=(r[key.toNat]?).getD ⟨0,0,jb⟩
def gC(T:List cW)(x:dV):List cW:=
 if jG (aQ T x.table)=true then
  match T[di (aQ T x.table)]? with
  |some t=>if decide (x.op=2)=true then T.set (di (aQ T x.table)) (bK t x.row).1
   else if(decide (t.S.key>=0)&&decide (t.S.key<(x.row.length:Int)))=true then T.set (di (aQ T x.table)) (bH t (xi x.row t.S.key)).1 else T
  |none=>T
 else T
def eV(T:List cW)(l:List dV):List cW:=l.foldr (λx T=>gC T x) T
def fN(n:Int)(len:Nat):Nat:=min n.toNat len
def mV(T:List cW):Prop:=∀t∈T,t.rows.length<=2^36
theorem EK(t:cW)(r:Row)(h:t.rows.length<=2^36):(bK t r).1.rows.length<=2^36:=by
 unfold bK;split
 .exact h
 split
 .exact h
 split
 .exact h
 rename_i a;have a:¬((t.rows.length:Int)>=200):=by simpa using a
 simp[AE];omega
theorem BD(t:cW)(k:cO)(h:t.rows.length<=2^36):(bH t k).1.rows.length<=2^36:=by
 unfold bH;split
 .simp[LF];omega
 exact h
theorem mV.set{T:List cW}(h:mV T){t:cW}(b:t.rows.length<=2^36)(i:Nat):mV (T.set i t):=λx hx=>by
 rcases mXz hx with a|a
 .exact h x a
 rw[a];exact b
theorem Sa{T:List cW}(h:mV T)(x:dV):mV (gC T x):=by
 unfold gC;split
 .split
  .rename_i t a;have:=h t (mQz a);split
   .exact h.set (EK _ _ this) _
   split
   .exact h.set (BD _ _ this) _
   exact h
  exact h
 exact h
theorem AD{T:List cW}(h:mV T):∀l,mV (eV T l)
 | []=>h
 |x::r=>Sa (AD h r) x
theorem GB{T:List cW}{l:List dV}{x:dV}(hx:l[i]? =some x):eV T (l.drop i)=gC (eV T (l.drop (i+1))) x:=by obtain⟨h,a⟩:=mQB.1 hx;rw[mQJ h,a];rfl
theorem _root_.Go.Sx.Kp.ES{e:Nat}{c:Array Value}{fr:Nat×Nat}(k:Kp [n] h h')(g:h n=some (.cells c e fr))(f:e∉tys):bR tys h h':=λb d e' N m a=>
 k b _ a (by
  intro j;simp at j;rw[j,g]at a;cases a;exact f m)
theorem lA.aXA{b g d:Nat}{T a:List cW}{f:List cg}(q:lA h c b g d w T W H f e)(x:a.length=T.length)(k:Kp [b] h h')(t:∀tys,51∉tys->bR tys h h')(o:fX 51 ef h' b d a)(F:c≠b):lA h' c b g d w a W H f e:=by obtain⟨z,A,i,B,l,j,C,m,o1,n,y,p,D,r,s,u,v⟩:=q.out;exact⟨z,A,i,B,l,j,C,m,o1,k _ _ n (by simpa using F),y,by rw[x];exact p,o,r,s.mono (t _ (by decide)),u.mono (t _ (by decide)),v.mono (t _ (by decide))⟩
theorem lA.lt{b d a:Nat}{T:List cW}{t:List cg}(q:lA h c b d a w T W H t e)(l:∀tys,bR tys h h'):lA h' c b d a w T W H t e:=by obtain⟨x,y,f,z,i,g,A,j,o,k,m,n,p,r,s,u,v⟩:=q.out;exact⟨x,y,f,z,i,g,A,j,o,l [130] _ _ _ _ (by simp) k,m,n,p.mono (l _),r,s.mono (l _),u.mono (l _),v.mono (l _)⟩
theorem bR.oset{o:Obj}(d:∀c e fr,h n≠some (.cells c e fr)):bR tys h (bU h n o):=λb c e fr _ a=>by
 rw[aO (λe'=>d c e fr (by rw[<-e'];exact a))];exact a
theorem Oe[h:bM A](n:Int)(m:Nat):aS (A .pM (A .imax n 0) (A .nat m)) (fN n m):=⟨by
 rw[h.pM,h.imax,h.nat];unfold fN;simp only[mQV];omega⟩
theorem aXf(n:Int)(m:Nat):fN n m<=m:=by unfold fN;omega
theorem aXg{a r ct cw:Nat}{T:List cW}{Wt:List cg}(q:lA h c a r ct cw T W H Wt e)(wF:c≠a)(tZ:c≠r)(cb:mV T)(hz:aS z i){w:fJ×Bool}(hw:W[i]? =some w)(n:Int)
 (hk:∀h',Kp [a,r] h h'->lA h' c a r ct cw (eV T (w.1.log.drop (fN n w.1.log.length))) (W.set i (⟨w.1.s,w.1.log.take (fN n w.1.log.length),w.1.marks⟩,false)) H Wt e->k (.tuple #[]) h'):
 Ct 63 [.pointer (some ⟨c,0,none⟩),.int .i64 z,.int .i64 n] h k:=by
 obtain⟨A,hA⟩:=Ar.ex;obtain⟨⟨ws,E,wm⟩,wg⟩:=w;refine q.elim (λn1 n2 b3 n3 c3 b4 n4 c4 o g0 ho g1 g2 g3 g4 g6 g7 _=>?_);have ke:i<W.length:=(mQB.1 hw).1;have MU:(some (⟨r,0,none⟩:Addr)).isSome=true/\0<=z/\z<(n2:Int):=⟨rfl,hz.ix (by omega)⟩;refine oZ A (ax jKq.aK (λs=>s==3)) Tryz.func63 rfl (by kernel_rfl) ?_;cbv;intro p3 h1 ak e1;have M:Le h h1:=by rw[e1];exact Le.set ak
 have f3:h1 p3=some (.cells #[.pointer (some ⟨c,0,none⟩)] 112 (0,0)):=(congrFun e1 p3).trans ae;have q1:=q.mono M;have bf:=M _ _ g0;have cj:=(g4.sl g3).mono (M.t [55,137,86,150]);cbv;refine mQw f3 ?_;cbv;rw[ai A];rw[ai A];refine mQw bf ?_;cbv;refine⟨MU,?_⟩;cbv;refine qj cj hw hz.eq (λb1 m1 c1 bc _ aj=>?_);cbv;refine aj _ _ (Le.refl _) ?_;have Am:=bc.len;have Am:m1=E.length:=Am;have Qa:=Oe (A:=A) n m1;have aY:=aXf n m1;rw[Am]at Qa aY;obtain⟨f,aw⟩:∃f,f=fN n E.length:=⟨_,rfl⟩;rw[<-aw]at Qa aY;have jo:0<=A .pM (A .imax n 0) (A .nat m1)/\A .pM (A .imax n 0) (A .nat m1)<=(m1:Int):=by rw[Am];have:=Qa.eq;omega
 rw[<-Am]at Qa;have Bc:=bc.uW (A:=A) Qa (by omega) rfl rfl;have Bc:Sl 137 dI h1 _ (E.drop f):=Bc;have br:=gA (A:=A) (n:=m1) Qa;have cr:=gA (A:=A) (n:=c1) Qa;cbv;refine⟨jo,?_⟩;cbv;rw[br,cr];refine Ra (λh2 bb aV N fb=>?_);cbv;refine⟨λm l o1 o2 hm hl ar aH ck hY=>?_⟩;obtain⟨xs,Cp⟩:∃xs,xs=E.drop f:=⟨_,rfl⟩;rw[<-Cp]at Bc;obtain⟨hb,Y⟩:∃hb,hb=bU (bU h2 m (.deferred (some []))) l o1:=⟨_,rfl⟩;have Q:Le h2 hb:=by rw[Y];exact(Le.set hm).trans (Le.set (by rw[aO (Ne.symm ar)];exact hl))
 have fl:hb l=some o1:=by rw[Y];exact ae
 have fm:hb m=some (.deferred (some [])):=by rw[Y,aO ar];exact ae
 have cA:=Q _ _ fb;have cB:=Q _ _ (N _ _ f3);have qb:=(q1.mono N).mono Q;have aZ:=Bc.mono ((N.trans Q).t _);have aK:=N.trans Q;rw[<-Y];obtain⟨dc,wB,-⟩:=g2.out;have cn:=aK _ _ (M _ _ wB);have cz:bb≠a:=λe=>by rw[e,M _ _ wB]at aV;cases aV
 have n3:p3≠a:=λe=>by rw[e,wB]at ak;cases ak
 have nl:l≠a:=λe=>by rw[e,N _ _ (M _ _ wB)]at hl;cases hl
 have nm:m≠a:=λe=>by rw[e,N _ _ (M _ _ wB)]at hm;cases hm
 have cJ:l≠c:=λe=>by rw[e,N _ _ bf]at hl;cases hl
 have cv:p3≠l:=λe=>by rw[<-e,N _ _ f3]at hl;cases hl
 have aP:∀tys p,51∉tys->Kp [a] hb p->bR tys hb p:=λtys p ht k=>Kp.ES k cn ht;obtain⟨J,FN⟩:∃J:Nat->ad->Prop,∀i p,J i p=(p l=some o1/\Kp [a] hb p/\lA p c a r ct cw (eV T (xs.drop i)) W H Wt e):=⟨_,λ_ _=>rfl⟩;refine cZw (n:=m1-f) J (λi p hj=>by rw[FN]at hj;exact⟨hj.2.1 _ _ cA (by simpa using cz),aZ.mono (aP _ _ (by decide) hj.2.1)⟩) ?_ (by rw[FN];exact⟨fl,Kp.refl _ _,by rw[mXB (by rw[<-Bc.len];exact mQD _)];exact qb⟩) ?_
 .intro j x p zj cs hj hx Rz y;have KP:=hj;rw[FN]at KP;obtain⟨az,vm,Ts⟩:=KP;clear hj;refine hY [.int .i64 zj,.agg cs.toArray] p _ rfl az ?_;obtain⟨bx,nx,cx,rfl,qx⟩:=y;obtain⟨xt,xo,v⟩:=x;have qx:Sl 86 bq p (.slice bx nx cx) v:=qx;cbv;refine⟨az,?_⟩;obtain⟨h3,e3⟩:∃h3,h3=bU p l o2:=⟨_,rfl⟩;rw[<-e3];obtain⟨d,R⟩:∃d,d=eV T (xs.drop (j+1)):=⟨_,rfl⟩;have cq:mV d:=by rw[R];exact AD cb _
  have bn:eV T (xs.drop j)=gC d ⟨xt,xo,v⟩:=by rw[R];exact GB hx
  obtain⟨T0,S⟩:∃T0,T0=gC d ⟨xt,xo,v⟩:=⟨_,rfl⟩;have DE:h3 l=some o2:=by rw[e3];exact ae
  have Mn:∀tys,bR tys p h3:=λtys=>by rw[e3];exact bR.oset (λc e fr G=>by rw[az]at G;cases G;exact aH _ _ _ rfl)
  have fin:∀h',Kp [a] h3 h'->lA h' c a r ct cw T0 W H Wt e->h' l=some o2/\J j (bU h' l o1):=λh' k' q'=>by
   have TI:=k' _ _ DE (by simpa using nl);rw[FN];refine⟨TI,ae,λb o V O=>?_,?_⟩
   .by_cases Ap:b=l
    .rw[Ap,fl]at V;cases V;rw[Ap];exact ae
    rw[aO Ap];refine k' _ _ ?_ O;rw[e3,aO Ap];exact vm _ _ V O
   rw[bn,<-S];exact q'.lt (λtys=>bR.oset (λc e fr G=>by rw[TI]at G;cases G;exact ck _ _ _ rfl))
  rw[<-R]at Ts;have q3:=Ts.lt Mn;have bF:=qx.mono (Mn _);have aW:h3 p3=some (.cells #[.pointer (some ⟨c,0,none⟩)] 112 (0,0)):=by rw[e3,aO cv];exact vm _ _ cB (by simpa using n3)
  clear e3 Mn Ts qx R bn hY Bc aZ;clear Cp;refine mQw aW ?_;cbv;refine On q3 xt (λg zt t l4 wQ ht=>?_);have q4:=q3.mono l4;cases t with
  |false=>
   have U:T0=d:=by rw[S];unfold gC;rw[<-ht];rfl
   have B:=fin g (l4.kp _) (by rw[U];exact q4);cbv;rw[show A .not false=true by rw[hA.not];rfl];cbv;exact B
  |true=>
   have ab:di (aQ d xt)<d.length:=by have:=lr ht.symm;simpa[aQ]using this
   obtain⟨⟨⟨C,I,tk,D⟩,L⟩,Tm⟩:=aE ab;have U:T0=if decide (xo=2)=true then d.set (di (aQ d xt)) (bK ⟨⟨C,I,tk,D⟩,L⟩ v).1
    else if(decide (tk>=0)&&decide (tk<(v.length:Int)))=true then d.set (di (aQ d xt)) (bH ⟨⟨C,I,tk,D⟩,L⟩ (xi v tk)).1 else d:=by rw[S];unfold gC;rw[<-ht,Tm];rfl
   have cN:L.length<=2^36:=cq ⟨⟨C,I,tk,D⟩,L⟩ (mQz Tm);generalize di (aQ d xt)=ti at *;clear S ht;refine q4.elim (λu1 u2 y3 v3 w3 y4 v4 w4 oo G0 Ho G1 G2 G3 G4 G6 G7 _=>?_);have Ii:(some (⟨a,0,none⟩:Addr)).isSome=true/\0<=zt/\zt<(u1:Int):=⟨rfl,wQ.ix (by omega)⟩;have F:=G2.sl G1;have cc:=l4 _ _ aW;have X:=bF.mono (l4.t _);cbv;rw[show A .not true=false by rw[hA.not];rfl];cbv;refine mQw cc ?_;cbv;rw[ai A];rw[ai A];refine mQw G0 ?_;cbv;refine⟨Ii,?_⟩;cbv;generalize eu:A .aI .eql xo 2=u;rw[aA A]at eu;cases u with
   |true=>
    rw[if_pos eu]at U;cbv;refine xU F Tm wQ.eq (λd1 p1 r1 d2 p2 r2 s1 s2=>?_);cbv;have Gk:=s2.len;have Gk:p2=L.length:=Gk;refine dZj (nm:=C) (key:=tk) (only:=D) s1 s2 X (by omega) (λh5 b1 n1 k1 b2 n2 k2 T' e' l5 r1 r2 r3=>?_);have bU:(bK ⟨⟨C,I,tk,D⟩,L⟩ v).1=⟨⟨C,I,tk,D⟩,T'⟩:=by rw[<-r3]
    rw[bU]at U;cbv;refine(G2.mono (l5.t _)).setAt (by decide) ab wQ.eq rfl (x:=⟨⟨C,I,tk,D⟩,T'⟩) ⟨_,_,_,_,_,_,rfl,r1,r2⟩ (λh6 k6 t6 o6=>?_);rw[<-U]at o6;have B:=fin h6 (((l4.trans l5).kp _).trans k6) (lA.aXA (q4.mono l5) (by rw[U];simp) k6 t6 o6 wF);cbv;exact B
   |false=>
    rw[if_neg (by rw[eu];simp)]at U;have al:=X.len;have al:nx=v.length:=al;generalize eg:A .aI .geq tk 0=ug;have fg:=eg;rw[cf A]at eg;rw[eg]at U;generalize el:A .aI .lss tk (A .nat nx)=ul;have bk:=el;rw[bm A,hA.nat,al,show Int.ofNat v.length=(v.length:Int)from rfl]at el;rw[el]at U;cbv;refine F.Ee Tm wQ.eq (o1:=0) (o2:=2) (m:=1) (by decide) (λcs y=>?_);obtain⟨d1,p1,r1,d2,p2,r2,rfl,s1,s2⟩:=y;have s1:Sl 155 bI g (.slice d1 p1 r1) I:=s1;have s2:Sl 84 aD g (.slice d2 p2 r2) L:=s2;have Gk:=s2.len;have Gk:p2=L.length:=Gk;cases ug with
    |false=>have B:=fin g (l4.kp _) (by rw[U];exact q4);cbv;rw[fg];cbv;exact B
    |true=>
     have Qe:tk>=0:=mQL eg;cbv;rw[fg];cbv;refine F.Ee Tm wQ.eq (o1:=0) (o2:=2) (m:=1) (by decide) (λcs y=>?_);obtain⟨d1,p1,r1,d2,p2,r2,rfl,-,-⟩:=y;cbv;cases ul with
     |false=>have B:=fin g (l4.kp _) (by rw[U];exact q4);cbv;rw[bk];cbv;exact B
     |true=>
      have vm:tk<(v.length:Int):=mQL el;have cp:tk.toNat<v.length:=by omega
      have bd:aS tk tk.toNat:=⟨(Int.toNat_of_nonneg Qe).symm⟩;obtain⟨⟨vk,vn,vs⟩,hv⟩:=aE cp;have cu:xi v tk=⟨vk,vn,vs⟩:=by unfold xi;rw[hv];rfl
      have Qm:bx.isSome=true/\0<=tk/\tk<(nx:Int):=⟨X.aT,bd.ix (by omega)⟩;rw[cu]at U;have bo:tk=((tk.toNat:Nat):Int):=bd.eq;generalize tk.toNat=kk at *;cbv;rw[bk];cbv;refine xU F Tm wQ.eq (λd1 p1 r1 d2 p2 r2 s1 s2=>?_);have Gk:=s2.len;have Gk:p2=L.length:=Gk;cbv;refine F.Ee Tm wQ.eq (o1:=0) (o2:=2) (m:=1) (by decide) (λcs y=>?_);obtain⟨d3,cE,r3,d4,cZ,r4,rfl,-,-⟩:=y;cbv;refine⟨Qm,?_⟩;cbv;refine X.load hv bo (λcs y=>?_);have y:cs=[.int .i64 vk,.int .i64 vn,.string vs]:=y;subst y;cbv;refine bJw (nm:=C) (key:=tk) (only:=D) s1 s2 (by omega) ⟨vk,vn,vs⟩ (λh5 b1 n1 k1 b2 n2 k2 b3 n3 k3 T' R' e' l5 r1 r2 cU r3=>?_);have bU:(bH ⟨⟨C,I,tk,D⟩,L⟩ ⟨vk,vn,vs⟩).1=⟨⟨C,I,tk,D⟩,T'⟩:=by rw[<-r3]
      have U:T0=d.set ti (bH ⟨⟨C,I,tk,D⟩,L⟩ ⟨vk,vn,vs⟩).1:=U;rw[bU]at U;cbv;refine(G2.mono (l5.t _)).setAt (by decide) ab wQ.eq rfl (x:=⟨⟨C,I,tk,D⟩,T'⟩) ⟨_,_,_,_,_,_,rfl,r1,r2⟩ (λh6 k6 t6 o6=>?_);rw[<-U]at o6;have B:=fin h6 (((l4.trans l5).kp _).trans k6) (lA.aXA (q4.mono l5) (by rw[U];simp) k6 t6 o6 wF);cbv;exact B
 intro h3 hj;rw[FN]at hj;obtain⟨DE,Ia,bt⟩:=hj;refine⟨DE,λo3 NI=>?_⟩;obtain⟨g,e4⟩:∃g,g=bU h3 l o3:=⟨_,rfl⟩;rw[<-e4];have cl:∀tys,bR tys h3 g:=λtys=>by rw[e4];exact bR.oset (λc e fr G=>by rw[DE]at G;cases G;exact aH _ _ _ rfl)
 have q4:=bt.lt cl;rw[mKu,Cp]at q4;have bj:g m=some (.deferred (some [])):=by rw[e4,aO ar];exact Ia _ _ fm (by simpa using nm)
 have cm:∀b o,h b=some o->b∉[a,r]->g b=some o:=λb o V O=>by
  have Ap:b≠l:=λe=>by rw[e]at V;rw[N _ _ (M _ _ V)]at hl;cases hl
  rw[e4,aO Ap];exact Ia _ _ (aK _ _ (M _ _ V)) (by simp at O |-;exact O.1)
 refine q4.elim (λu1 u2 y3 v3 w3 y4 v4 w4 oo G0 Ho G1 G2 G3 G4 G6 G7 _=>?_);cbv;refine qj (G4.sl G3) hw hz.eq (λbz Z ag au _ ca=>?_);have P:=au.len;have P:Z=E.length:=P;have K:=Oe (A:=A) n Z;rw[P,<-aw]at K;have K:aS (A .pM (A .imax n 0) (A .nat Z)) f:=by rw[P];exact K
 have cD:=au.bound.2;have TY:0<=A .pM (A .imax n 0) (A .nat Z)/\A .pM (A .imax n 0) (A .nat Z)<=(ag:Int):=by have:=K.eq;omega
 have ND:=au.Om (A:=A) (i:=f) (by omega);have jX:=fh (A:=A) K;cbv;refine ca _ _ (Le.refl _) ?_;cbv;refine⟨TY,?_⟩;cbv;rw[jX];have an:Sl 137 dI g _ (E.take f):=ND;have an:Sl 137 dI g (.slice (A .cut bz 0 (A .nat ag) 3) f ag) (E.take f):=an;refine G4.LS (by decide) hw hz.eq rfl (off:=1) (by simp[cX]) (x':=(⟨ws,E.take f,wm⟩,false)) (λcs y=>?_) (λh5 k5 t5 o5=>?_)
 .obtain⟨x1,y1,z1,x2,y2,z2,rfl,j1,j2,j3⟩:=y;exact⟨_,_,_,_,_,_,rfl,an,j2,λhf=>by cases hf⟩
 have ch:∀b o,g b=some o->b≠r->h5 b=some o:=λb o lY jq=>k5 b o lY (by simpa using jq);have cy:m≠r:=λe=>by
  obtain⟨db,ba,-⟩:=G4.out;rw[<-e,bj]at ba;cases ba
 have bg:=ch _ _ bj cy;have q5:lA h5 c a r ct cw (eV T (E.drop f)) (W.set i (⟨ws,E.take f,wm⟩,false)) H Wt e:=by refine⟨u1,u2,y3,v3,w3,y4,v4,w4,oo,ch _ _ G0 tZ,Ho,G1,G2.mono (t5 _ (by decide)),by rw[mXv];exact G3,o5,G6.mono (t5 _ (by decide)),G7.mono (t5 _ (by decide))⟩
 obtain⟨h6,e6⟩:∃h6,h6=bU h5 m (.deferred none):=⟨_,rfl⟩;have q6:lA h6 c a r ct cw (eV T (E.drop f)) (W.set i (⟨ws,E.take f,wm⟩,false)) H Wt e:=q5.lt (λtys=>by rw[e6];exact bR.oset (λc e fr G=>by rw[bg]at G;cases G));have k6:Kp [a,r] h h6:=λb o V O=>by
  have bw:b≠m:=λe=>by rw[e]at V;rw[N _ _ (M _ _ V)]at hm;cases hm
  rw[e6,aO bw];exact ch _ _ (cm b o V O) (by simp at O;exact O.2)
 rw[aw]at q6;have B:=hk h6 k6 q6;rw[e6]at B;cbv;exact⟨bg,B⟩
def Ls(T:List cW)(W:List (fJ×Bool))(s:Int):List cW:=
 if jG (dQ W s)=true then match W[di (dQ W s)]? with
  |some w=>eV T w.1.log
  |none=>T
 else T
theorem NU{w w':fJ×Bool}(h:W[i]? =some w)(b:w'.1.s=w.1.s)(s:Int):dQ (W.set i w') s=dQ W s:=by
 unfold dQ;rw[mZc];apply mXM;intro j;rw[mXR];split
 .rename_i e;subst e;split
  .rw[mXe,h];simp[b]
  rename_i a;have:=(mQB.1 h).1;simp at a;omega
 rfl
theorem Zs{a:Type}{W:List a}{x:a}:(W.set i x).eraseIdx i=W.eraseIdx i:=by exact List.eraseIdx_set_eq
theorem bXB{y B:Nat}{T:List cW}{o:List cg}(q:lA h c m n y B T W H o e)(M:c≠m)(x:c≠n)(Z:mV T)(s:Int)(G:H.length<=2^38)(Y:o.length<=2^38)
 (r:∀h',Kp [c,m,n] h h'->lA h' c m n y B (Ls T W s) (Bg W s) (bX H s) (bX o s) e->k (.tuple #[]) h'):Ct 61 [.pointer (some ⟨c,0,none⟩),.int .i64 s] h k:=by
 obtain⟨A,O⟩:=Ar.ex;obtain⟨d,Q⟩:∃d,d=Ls T W s:=⟨_,rfl⟩;obtain⟨f,g⟩:∃f,f=Bg W s:=⟨_,rfl⟩;rw[<-Q,<-g]at r;refine oZ A (ax hQd.aK hQd.bF) Tryz.func61 rfl (by kernel_rfl) ?_;cbv;refine sO q s (λN z t v E a=>?_);have F:=q.mono v;cases t with
 |false=>
  have R:d=T:=by rw[Q];unfold Ls;rw[<-a];rfl
  cbv;refine bQE F x s G Y (λC u b=>?_);rw[<-g,<-R]at b;have p:=r C ((v.kp _).trans (u.sub (by simp))) b;cbv;exact p
 |true=>
  have P:di (dQ W s)<W.length:=by have:=lr a.symm;simpa[dQ]using this
  obtain⟨w,l⟩:=aE P;have R:d=eV T w.1.log:=by rw[Q];unfold Ls;rw[<-a,l];rfl
  have j:f=W.eraseIdx (di (dQ W s)):=by rw[g];unfold Bg;rw[<-a];rfl
  obtain⟨i,D⟩:∃i,i=di (dQ W s):=⟨_,rfl⟩;rw[<-D]at E l j;clear Q g;cbv;refine aXg F M x Z E l 0 (λC u b=>?_);have h0:fN 0 w.1.log.length=0:=by unfold fN;simp
  rw[h0,mKu,<-R]at b;cbv;refine bQE b x s G Y (λJ L I=>?_);have K:Bg (W.set i (⟨w.1.s,w.1.log.take 0,w.1.marks⟩,false)) s=f:=by unfold Bg;rw[NU l (by rfl),<-a,<-D,j];rw[if_pos rfl,Zs]
  rw[K]at I;have p:=r J (((v.kp _).trans (u.sub (by simp))).trans (L.sub (by simp))) I;cbv;exact p
def Wf(ws:List fJ):List (fJ×Bool):=ws.map λw=>(w,true)
def zS(ws:List fJ)(s:Int):List fJ:=if jG (bQ ws s)=true then ws.eraseIdx (di (bQ ws s))else ws
def tH(T:List cW)(ws:List fJ)(s:Int):List cW:=
 if jG (bQ ws s)=true then match ws[di (bQ ws s)]? with
  |some w=>eV T w.log
  |none=>T
 else T
def kh(d:DB)(s:Int):DB:=⟨tH d.az d.aq s,zS d.aq s,bX d.holds s,bX d.waits s⟩
def jK:Nat->DB->cg->DB×Int
 |0,d,_=>(d,16)
 |f+1,d,hd=>
  if bP d.holds hd=true then(⟨d.az,d.aq,cV d.holds hd,df d.holds d.waits hd⟩,0)
  else if(dG (da (cV d.holds hd) (df d.holds d.waits hd)) hd.s).2=true then
   if decide ((dG (da (cV d.holds hd) (df d.holds d.waits hd)) hd.s).1=hd.s)=true then(kh ⟨d.az,d.aq,cV d.holds hd,df d.holds d.waits hd⟩ (dG (da (cV d.holds hd) (df d.holds d.waits hd)) hd.s).1,17)
   else jK f (kh ⟨d.az,d.aq,cV d.holds hd,df d.holds d.waits hd⟩ (dG (da (cV d.holds hd) (df d.holds d.waits hd)) hd.s).1) hd
  else(⟨d.az,d.aq,cV d.holds hd,df d.holds d.waits hd⟩,16)
def aL(d:DB)(hd:cg):DB×Int:=if Hw d hd=true then jK (d.holds.length+1) d hd else(d,2)
theorem qO(w:List fJ)(s:Int):dQ (Wf w) s=bQ w s:=by simp[dQ,bQ,Wf]
theorem Ni(w:List fJ)(s:Int):Bg (Wf w) s=Wf (zS w s):=by
 unfold Bg zS;rw[qO];split
 .unfold Wf;rw[mJg,mJg];simp[mKE,mKD]
 rfl
theorem Rb(T:List cW)(w:List fJ)(s:Int):Ls T (Wf w) s=tH T w s:=by
 unfold Ls tH;rw[qO];split
 .unfold Wf;rw[mXe];cases w[di (bQ w s)]? <;>rfl
 rfl
theorem Lr(E:List (Int×Int)):∀(l:List Int) (st:List Int×List Int),(∀k∈l,k∈E.map (·.2))->(∀k∈st.1,k∈E.map (·.2))->∀k∈(l.foldl dU st).1,k∈E.map (·.2)
 | [],st,_,a=>a
 |x::r,st,b,a=>by
  rw[mKn];refine Lr E r _ (λk h=>b k (mXm _ h)) (λk h=>?_);unfold dU at h;split at h
  .exact a k h
  rcases mQE.1 h with h|h
  .exact a k h
  simp at h;rw[h];exact b x (by simp)
theorem bXs(E:List (Int×Int)):∀(n:Nat) (st:List Int×List Int),(∀k∈st.1,k∈E.map (·.2))->∀k∈cZr E n st,k∈E.map (·.2)
 |0,st,h=>h
 |n+1,(seen,[]),h=>h
 |n+1,(seen,a::r),h=>by
  unfold cZr;refine bXs E n _ (Lr E _ _ (λk b=>?_) h);unfold dm at b;obtain⟨p,c,rfl⟩:=mQW.1 b;exact mQW.2 ⟨p,(mXQ.1 c).1,rfl⟩
theorem yK{E:List (Int×Int)}{k:Int}(h:k∈over E s):k∈E.map (·.2):=bXs E _ _ (λ_ h=>by cases h) k h
theorem vP{W:List cg}{k:Int}(h:k∈(da H W).map (·.2)):∃x∈H,x.s=k:=by obtain⟨p,a,rfl⟩:=mQW.1 h;unfold da at a;obtain⟨w,b,a⟩:=List.mem_flatMap.1 a;unfold jF at a;obtain⟨x,hx,rfl⟩:=mQW.1 a;exact⟨x,(mXQ.1 hx).1,rfl⟩
theorem bJk{k:Int}(h:∃x∈H,x.s=k):(bX H k).length<H.length:=by
 obtain⟨x,hx,c⟩:=h;unfold bX;rcases mXi (H.filter λh=>decide (h.s≠k)).length H.length with a|a
 .exact a
 have b:=mKH.1 (Nat.le_antisymm (mZd _ _) a) x hx;simp[c]at b
theorem wY{W:List cg}(h:(dG (da H W) s).2=true):(bX H (dG (da H W) s).1).length<H.length:=by
 have v:=(rA (da H W) s).out;rcases v with⟨b,-⟩|⟨-,c,-,a,-⟩
 .rw[h]at b;cases b
 refine bJk (vP (W:=W) ?_);rcases a with a| ⟨a,-⟩
 .rw[a];exact yK c
 exact yK a
theorem vQ{T:List cW}(h:mV T)(w:List fJ)(s:Int):mV (tH T w s):=by
 unfold tH;split
 .split
  .exact AD h _
  exact h
 exact h
theorem EF{W:List cg}:(df H W hd).length<=(bX W hd.s).length+1:=by unfold df;split<;>simp
theorem DJ{W:List cg}:(bX (df H W hd) hd.s).length<=(bX W hd.s).length:=by
 have h:bX (bX W hd.s) hd.s=bX W hd.s:=by unfold bX;rw[mJh];simp
 unfold df;split
 .rw[h];exact mQD _
 have:bX (bX W hd.s++[hd]) hd.s=bX W hd.s:=by
  have a:bX (bX W hd.s++[hd]) hd.s=bX (bX W hd.s) hd.s++bX [hd] hd.s:=by unfold bX;rw[mZq]
  rw[a,h];simp[bX]
 rw[this];exact mQD _
theorem DI(W:List cg)(a b:Int):bX (bX W a) b=bX (bX W b) a:=by unfold bX;rw[mJh,mJh];congr 1;funext x;rw[Bool.and_comm]
theorem MO{x ct cw:Nat}(q:lA h c w x ct cw d.az (Wf d.aq) d.holds d.waits e)(hd:cg)(wF:c≠w)(tZ:c≠x)(aV:mV d.az)
 (hH:d.holds.length<2^18) (aK:d.waits.length<2^18) {D:DB×Int} (hD:aL d hd=D) 
 (hk:∀h',Kp [c,w,x] h h'->lA h' c w x ct cw D.1.az (Wf D.1.aq) D.1.holds D.1.waits e->k (.int .i64 D.2) h'):
 Ct 231 [.pointer (some ⟨c,0,none⟩),.int .i64 hd.s,.string hd.table,.bool hd.x] h k:=by
 obtain⟨A,hA⟩:=Ar.ex;obtain⟨a,b,hx⟩:=hd;obtain⟨L0,aP⟩:∃L,L=(bX d.waits a).length:=⟨_,rfl⟩;have bj:L0<2^18:=by have:=gZ d.waits a;omega
 have kP:A .not true=false:=by rw[hA.not];rfl
 have tF:A .not false=true:=by rw[hA.not];rfl
 refine mQF lZj A Tryz.func231 ?_;cbv;intro p4 h1 Y e1;cbv;intro p5 h2 aj e2;cbv;intro p6 h3 au e3;cbv;intro p7 h4 ar e4;have l1:Le h h1:=by rw[e1];exact Le.set Y
 have l2:Le h1 h2:=by rw[e2];exact Le.set aj
 have l3:Le h2 h3:=by rw[e3];exact Le.set au
 have l4:Le h3 h4:=by rw[e4];exact Le.set ar
 have J:h4 p4=some (.cells #[.pointer (some ⟨c,0,none⟩)] 112 (0,0)):=((l2.trans l3).trans l4) _ _ ((congrFun e1 p4).trans ae);have g5:h4 p5=some (.cells #[.int .i64 a] 3 (0,0)):=(l3.trans l4) _ _ ((congrFun e2 p5).trans ae);have g6:h4 p6=some (.cells #[.string b] 9 (0,0)):=l4 _ _ ((congrFun e3 p6).trans ae);have g7:h4 p7=some (.cells #[.bool hx] 4 (0,0)):=(congrFun e4 p7).trans ae;have rY:=((l1.trans l2).trans l3).trans l4;have q4:=q.mono rY;have qF:∀p,h p=none->p∉[c,w,x]:=λp P hm=>by
  obtain⟨n1,n2,b3,n3,c3,b4,n4,c4,o,g0,-,-,g2,-,J,-⟩:=q.out;obtain⟨x1,g2,-⟩:=g2.out;obtain⟨x2,J,-⟩:=J.out;simp at hm;rcases hm with rfl|rfl|rfl
  .rw[g0]at P;cases P
  .rw[g2]at P;cases P
  rw[J]at P;cases P
 have n4:=qF p4 Y;have n5:=qF p5 (l1.none aj);have n6:=qF p6 ((l1.trans l2).none au);have n7:=qF p7 (((l1.trans l2).trans l3).none ar);have Ks:∀ {hh:ad} (l:Le h hh),Hw d ⟨a,b,hx⟩=false->k (.int .i64 2) hh:=λ{hh} l zR=>by
  have DG:D=(d,2):=by rw[<-hD];unfold aL;rw[zR];rfl
  have:=hk hh (l.kp _) (by rw[DG];exact q.mono l);rw[DG]at this;exact this
 cbv;refine mQw J ?_;cbv;refine mQw g5 ?_;cbv;refine sO q4 a (λh5 z1 t1 l5 jV S=>?_);rw[qO]at S;have ab:=rY.trans l5;cases t1 with
 |false=>have F:=Ks ab (by unfold Hw;rw[<-S];rfl);cbv;rw[tF];cbv;exact F
 |true=>
  cbv;rw[kP];cbv;refine mQw (l5 _ _ J) ?_;cbv;refine mQw (l5 _ _ g6) ?_;cbv;refine On (q4.mono l5) b (λh6 z2 t2 l6 dL RB=>?_);have al:=ab.trans l6;have U:=l5.trans l6;cases t2 with
  |false=>have F:=Ks al (by unfold Hw;rw[<-S,<-RB];rfl);cbv;rw[tF];cbv;exact F
  |true=>
   have MY:jK (d.holds.length+1) d ⟨a,b,hx⟩=D:=by rw[<-hD];unfold aL;rw[show Hw d ⟨a,b,hx⟩=true by unfold Hw;rw[<-S,<-RB];rfl];rfl
   have q6:=q4.mono U;have f4:=U _ _ J;have f5:=U _ _ g5;have f6:=U _ _ g6;have f7:=U _ _ g7;clear hD Ks J g5 g6 g7 e1 e2 e3 e4 S RB;obtain⟨I,aY⟩:∃I:Nat->ad->Prop,∀m h',I m h'=∃y:DB,y.holds.length<m/\y.holds.length<2^18/\y.waits.length<=2^18/\(bX y.waits a).length<=L0/\mV y.az/\jK m y ⟨a,b,hx⟩=D/\Kp [c,w,x] h6 h'/\lA h' c w x ct cw y.az (Wf y.aq) y.holds y.waits e:=⟨_,λ_ _=>rfl⟩;cbv;rw[kP];cbv;refine aX.go (G:=Unit) (λ_=>[]) (λ_=>[]) (λn g h'=>I n h') (d.holds.length+1) () (by constructor<;>cbv) (by rw[aY];exact⟨d,by omega,hH,mZp aK,by rw[aP];exact mQD _,aV,MY,Kp.refl _ _,q6⟩) ?_
   intro m g h' hI;rw[aY]at hI;cbv;obtain⟨⟨T,C,i,j⟩,hm,lY,jq,ry,ak,X,Z,hq⟩:=hI;have hq:lA h' c w x ct cw T (Wf C) i j e:=hq;have lY:i.length<2^18:=lY;have jq:j.length<=2^18:=jq;have ry:(bX j a).length<=L0:=ry;have hm:i.length<m:=hm;obtain⟨f,rfl⟩:∃f,m=f+1:=⟨m-1,by omega⟩;have k4:=Z _ _ f4 n4;have k5:=Z _ _ f5 n5;have k6:=Z _ _ f6 n6;have k7:=Z _ _ f7 n7;have wE:=Dq (H:=i) (hd:=⟨a,b,hx⟩);have pz:=EF (H:=i) (W:=j) (hd:=⟨a,b,hx⟩);have pz:(df i j ⟨a,b,hx⟩).length<=(bX j a).length+1:=pz;have DE:=DJ (H:=i) (W:=j) (hd:=⟨a,b,hx⟩);have DE:(bX (df i j ⟨a,b,hx⟩) a).length<=(bX j a).length:=DE;have bc:bP i ⟨a,b,hx⟩=false->cV i ⟨a,b,hx⟩=i:=λhf=>by unfold cV;rw[hf];rfl
   have Q:=wY (H:=cV i ⟨a,b,hx⟩) (W:=df i j ⟨a,b,hx⟩) (s:=a);unfold jK at X;have X:(if bP i ⟨a,b,hx⟩=true then((⟨T,C,cV i ⟨a,b,hx⟩,df i j ⟨a,b,hx⟩⟩,0):DB×Int)
    else if(dG (da (cV i ⟨a,b,hx⟩) (df i j ⟨a,b,hx⟩)) a).2=true then
     if decide ((dG (da (cV i ⟨a,b,hx⟩) (df i j ⟨a,b,hx⟩)) a).1=a)=true then(kh ⟨T,C,cV i ⟨a,b,hx⟩,df i j ⟨a,b,hx⟩⟩ (dG (da (cV i ⟨a,b,hx⟩) (df i j ⟨a,b,hx⟩)) a).1,17)
     else jK f (kh ⟨T,C,cV i ⟨a,b,hx⟩,df i j ⟨a,b,hx⟩⟩ (dG (da (cV i ⟨a,b,hx⟩) (df i j ⟨a,b,hx⟩)) a).1) ⟨a,b,hx⟩
    else(⟨T,C,cV i ⟨a,b,hx⟩,df i j ⟨a,b,hx⟩⟩,16))=D:=X
   refine(Wi (hd:=⟨a,b,hx⟩) hq k4 k5 k6 k7 (by omega) (by omega)).mono (λv h7 hR=>?_);obtain⟨aw,t,rfl,et,q7⟩:=hR;have K:Kp [c,w,x] h h7:=((al.kp _).trans Z).trans (aw.sub (by simp));have M:Kp [c,w,x] h6 h7:=Z.trans (aw.sub (by simp));have bg:=et;rw[<-et]at X;generalize cV i ⟨a,b,hx⟩=O at *;generalize df i j ⟨a,b,hx⟩=E at *;cases t with
   |true=>have X:((⟨T,C,O,E⟩,0):DB×Int)=D:=X;subst X;have F:=hk h7 K q7;cbv;rw[kP];cbv;exact F
   |false=>
    have bb:=bc et.symm;refine q7.elim (λu1 u2 y3 v3 w3 y4 v4 w4 oo G0 Ho G1 G2 G3 G4 Q6 Q7 _=>?_);have bd:=Q6.len;have bf:=Q7.len;have j4:=M _ _ f4 n4;have j5:=M _ _ f5 n5;cbv;rw[tF];cbv;refine mQw j4 ?_;cbv;rw[ai A];rw[ai A];refine mQw G0 ?_;cbv;refine mQw j5 ?_;cbv;refine(JO Q6 Q7 (by omega) (by omega) a).mono (λv h8 hR=>?_);obtain⟨R,z,tv,rfl,FB⟩:=hR;obtain⟨V,an⟩:=FB.eq;rw[<-V,<-an]at X;rw[<-an,<-V]at Q;cases tv with
    |false=>have X:((⟨T,C,O,E⟩,16):DB×Int)=D:=X;subst X;have F:=hk h8 (K.trans (R.kp _)) (q7.mono R);cbv;rw[tF];cbv;exact F
    |true=>
     have Q:=Q rfl;have X:(if decide (z=a)=true then((kh ⟨T,C,O,E⟩ z,17):DB×Int)else jK f (kh ⟨T,C,O,E⟩ z) ⟨a,b,hx⟩)=D:=X;cbv;rw[kP];cbv;refine mQw (R _ _ j4) ?_;cbv;refine bXB (q7.mono R) wF tZ ak z (by omega) (by omega) (λh9 k9 q9=>?_);rw[Rb,Ni]at q9;have ba:=(K.trans (R.kp _)).trans k9;have ay:=(M.trans (R.kp _)).trans k9;have i5:=ay _ _ f5 n5;obtain⟨B,r⟩:∃B,B=kh ⟨T,C,O,E⟩ z:=⟨_,rfl⟩;have ag:lA h9 c w x ct cw B.az (Wf B.aq) B.holds B.waits e:=by rw[r];exact q9
     rw[<-r]at X;generalize eu:A .aI .eql z a=u;have fu:=eu;rw[aA A]at eu;rw[eu]at X;cbv;refine mQw i5 ?_;cbv;rw[fu];cases u with
     |true=>have X:((B,17):DB×Int)=D:=X;subst X;have F:=hk h9 ba ag;cbv;exact F
     |false=>
      have X:jK f B ⟨a,b,hx⟩=D:=X;have cD:I f h9:=by
       have EU:=gZ E z;have N:B.holds=bX O z:=by rw[r];rfl
       have az:B.waits=bX E z:=by rw[r];rfl
       have aZ:mV B.az:=by rw[r];exact vQ ak _ _
       have vj:(bX (bX E z) a).length<=L0:=by rw[DI];have:=gZ (bX E a) z;omega
       rw[aY];rw[bb]at Q N;exact⟨B,by rw[N];omega,by rw[N];omega,by rw[az];omega,by rw[az];exact vj,aZ,X,ay,ag⟩
      cbv;refine⟨f,(),by omega,by constructor<;>cbv,cD⟩
set_option maxHeartbeats 4000000
structure ue(n:Nat)(d:DB):Prop where
 az:d.az.length<=2^30
 jC:d.aq.Pairwise (λa b=>a.s<b.s)
 pH:∀w∈d.aq,0<=w.s/\w.s<8
 rows:mV d.az
 holds:d.holds.length<=n
 waits:d.waits.length<=n
 dJT:∀x∈d.holds,0<=x.s/\x.s<8
theorem ue.le(o:ue n d)(h:n<=m):ue m d:=⟨o.az,o.jC,o.pH,o.rows,mXT o.holds h,mXT o.waits h,o.dJT⟩
theorem AI:∀ {l:List fJ} {a:Int},l.Pairwise (λa b=>a.s<b.s)->(∀w∈l,a<=w.s/\w.s<8)->(l.length:Int)<=max 0 (8-a)
 | [],a,_,_=>by simp;omega
 |x::r,a,s,c=>by
  have d:=c x (by simp);have P:∀w∈r,x.s<w.s:=λw h=>mKt s h;have:=AI (a:=x.s+1) (List.Pairwise.of_cons s) (λw h=>⟨by have:=P w h;omega,(c w (mXm _ h)).2⟩);simp only[mQM];omega
theorem ue.hZc(o:ue n d):d.aq.length<=8:=by have:=AI o.jC o.pH;omega
theorem ue.small(o:ue n d)(a:n<2^18):Small d:=by have:=o.hZc;have:=o.az;have:=o.holds;have:=o.waits;exact⟨by omega,by omega,λt h=>by have:=o.rows t h;omega,by omega,by omega⟩
theorem wrap_zero{x:Int}(a:-2^64<x)(b:x<2^64)(h:IntKind.i64.wrap x=0):x=0:=by have s:IntKind.i64.signed=true:=rfl;simp only[IntKind.wrap,IntKind.bits,s]at h;simp at h;split at h<;>omega
theorem bJq(T:List cW)(x:dV):(gC T x).map (·.S)=T.map (·.S):=by
 have p:∀t r,(bK t r).1.S=t.S:=λt r=>by
  unfold bK;repeat' split
  all_goals rfl
 have b:∀t k,(bH t k).1.S=t.S:=λt k=>by
  unfold bH;split<;>rfl
 have key:∀(i:Nat) (t a:cW),T[i]? =some t->a.S=t.S->(T.set i a).map (·.S)=T.map (·.S):=λi t a h S=>by
  rw[mZc,S];apply mXM;intro j;rw[mXR];split
  .rename_i e;subst e;split
   .rw[mXe,h];rfl
   rename_i c;rw[mXX (by omega)]
  rfl
 unfold gC;split
 .split
  .rename_i t h;split
   .exact key _ _ _ h (p _ _)
   split
   .exact key _ _ _ h (b _ _)
   rfl
  rfl
 rfl
theorem BB(T:List cW):∀l,(eV T l).map (·.S)=T.map (·.S)
 | []=>rfl
 |x::r=>(bJq _ _).trans (BB T r)
theorem Nw(T:List cW)(w:List fJ)(s:Int):(tH T w s).map (·.S)=T.map (·.S):=by
 unfold tH;split
 .split
  .exact BB _ _
  rfl
 rfl
theorem XE{T a:List cW}(h:a.map (·.S)=T.map (·.S))(nm:ByteArray):aQ a nm=aQ T nm:=by
 have e:∀T:List cW,aQ T nm=(T.map (·.S)).map (λs=>eC s.name nm):=λT=>by simp[aQ,Function.comp_def]
 rw[e,e,h]
theorem bXW{T a:List cW}(h:a.map (·.S)=T.map (·.S)):a.length=T.length:=by have:=congrArg List.length h;simpa using this
theorem dQq(l:List Int)(p:Nat)(b:p<l.length)(h0:l.getD p 0=0)(P:∀i,i<p->l.getD i 0<0)(R:∀i,p<i->i<l.length->l.getD i 0>0):di l=p/\jG l=true:=by
 have h:di l=p:=Dn l p P 0 l.length (λk h c=>by
  rcases mXi p k with a|a
  .have:=R k a c;omega
  have:k=p:=by omega
  rw[this,h0];omega) (mQC _) (mZp b)
 exact⟨h,by unfold jG;rw[h];exact mQu ⟨b,h0⟩⟩
theorem Gs{w:fJ}(h:a[i]? =some w):(bQ a s).getD i 0=IntKind.i64.wrap (w.s-s):=by rw[mXE];unfold bQ;rw[mXe,h];rfl
theorem UM{s:List fJ}(g:s.Pairwise (λa b=>a.s<b.s))(r:∀w∈s,0<=w.s/\w.s<8){w:fJ}(e:s[i]? =some w):di (bQ s w.s)=i/\jG (bQ s w.s)=true:=by
 have k:=(mQB.1 e).1;have m:=r w (mQz e);have l:(bQ s w.s).length=s.length:=by simp[bQ]
 have get:∀j,j<s.length->∃x,s[j]? =some x/\(bQ s w.s).getD j 0=x.s-w.s/\(j<i->x.s<w.s)/\(i<j->w.s<x.s):=λj c=>by
  obtain⟨x,hx⟩:=aE c;have Z:=r x (mQz hx);refine⟨x,hx,?_,λh=>?_,λh=>?_⟩
  .rw[Gs hx,IntWalk.i64_in _ (by omega)]
  .have:=mQZ.1 g j i c k h;rw[(mQB.1 hx).2,(mQB.1 e).2]at this;exact this
  have:=mQZ.1 g i j k c h;rw[(mQB.1 hx).2,(mQB.1 e).2]at this;exact this
 refine dQq _ i (by rw[l];exact k) ?_ (λj c=>?_) (λj c K=>?_)
 .obtain⟨x,hx,d,-,-⟩:=get i k;rw[e]at hx;cases hx;rw[d];omega
 .obtain⟨x,hx,d,f,-⟩:=get j (by omega);have:=f c;rw[d];omega
 obtain⟨x,hx,d,-,f⟩:=get j (by rw[<-l];exact K);have:=f c;rw[d];omega
theorem yD(r:∀w∈a,0<=w.s/\w.s<8)(j:-2^63<=s/\s<2^63)(h:jG (bQ a s)=true):∃w,a[di (bQ a s)]? =some w/\w.s=s:=by
 have h':=mQL h;obtain⟨d,c⟩:=h';have l:di (bQ a s)<a.length:=by simpa[bQ]using d
 obtain⟨w,b⟩:=aE l;have e:=r w (mQz b);rw[Gs b]at c;have:=wrap_zero (by omega) (by omega) c;exact⟨w,b,by omega⟩
theorem lR{c:List fJ}(g:c.Pairwise (λa b=>a.s<b.s))(r:∀w∈c,0<=w.s/\w.s<8)(j:-2^63<=s/\s<2^63):jG (bQ c s)=true↔∃w∈c,w.s=s:=by
 constructor
 .intro h;obtain⟨w,d,e⟩:=yD r j h;exact⟨w,mQz d,e⟩
 rintro⟨w,d,rfl⟩;obtain⟨i,f,e⟩:=mZl d;exact(UM g r (i:=i) (by rw[mXP f,e])).2
theorem rV(w:List fJ)(s:Int):(zS w s).Sublist w:=by
 unfold zS;split
 .exact mKs _ _
 exact List.Sublist.refl _
theorem Zt{s:List fJ}(k:s.Pairwise (λa b=>a.s<b.s))(r:∀w∈s,0<=w.s/\w.s<8){v:Int}(i:-2^63<=v/\v<2^63){w:fJ}(d:w∈s)(f:w.s≠v):w∈zS s v:=by
 unfold zS;split
 .rename_i h;obtain⟨x,hx,g⟩:=yD r i h;obtain⟨j,c,Z⟩:=mZl d;rw[nQK];refine⟨j,c,λe=>?_,Z⟩;rw[<-e,mXP c,Z]at hx;cases hx;exact f g
 exact d
theorem aQT{W:List cg}(h:(dG (da H W) s).2=true):∃x∈H,x.s=(dG (da H W) s).1:=by
 have v:=(rA (da H W) s).out;rcases v with⟨b,-⟩|⟨-,c,-,a,-⟩
 .rw[h]at b;cases b
 refine vP (W:=W) ?_;rcases a with a| ⟨a,-⟩
 .rw[a];exact yK c
 exact yK a
structure bZd(n:Nat)(d:DB)(hd:cg)(D:DB×Int):Prop where
 S:D.1.az.map (·.S)=d.az.map (·.S)
 ok:ue (n+1) D.1
 own:D.2=0->∀w∈d.aq,w.s=hd.s->w∈D.1.aq
 sub:D.1.aq.Sublist d.aq
def eXD(d:DB):Prop:=∀x∈d.holds,0<=x.s/\x.s<8
theorem IT(h:∀x∈H,0<=x.s/\x.s<8)(s:0<=hd.s/\hd.s<8):∀x∈cV H hd,0<=x.s/\x.s<8:=λx hx=>by
 unfold cV at hx;repeat' split at hx
 .exact h x hx
 .rcases mXz hx with a|a
  .exact h x a
  rw[a];exact s
 .rcases mQE.1 hx with a|a
  .exact h x a
  simp at a;rw[a];exact s
 exact h x hx
theorem PQ(n:Nat)(hd:cg)(s:0<=hd.s/\hd.s<8):∀(f:Nat) (d:DB),d.holds.length<f->d.az.length<=2^30->d.aq.Pairwise (λa b=>a.s<b.s)->(∀w∈d.aq,0<=w.s/\w.s<8)->mV d.az->d.holds.length<=n->(bX d.waits hd.s).length<=n->eXD d->
 bZd n d hd (jK f d hd)
 |0,d,u,_,_,_,_,_,_,_=>by omega
 |f+1,d,u,l,i,j,m,z,B,k=>by
  have C:=Dq (H:=d.holds) (hd:=hd);have D:=EF (H:=d.holds) (W:=d.waits) (hd:=hd);have E:=DJ (H:=d.holds) (W:=d.waits) (hd:=hd);unfold jK;by_cases O:bP d.holds hd=true
  .rw[if_pos O];exact⟨rfl,⟨l,i,j,m,by show(cV _ _).length<=_;omega,by show(df _ _ _).length<=_;omega,IT k s⟩,λ_ w h _=>h,List.Sublist.refl _⟩
  rw[if_neg O];have p:cV d.holds hd=d.holds:=by unfold cV;rw[if_neg O]
  by_cases F:(dG (da (cV d.holds hd) (df d.holds d.waits hd)) hd.s).2=true
  .rw[if_pos F];have Z:=aQT F;have Q:=wY F;have J:-2^63<=(dG (da (cV d.holds hd) (df d.holds d.waits hd)) hd.s).1/\(dG (da (cV d.holds hd) (df d.holds d.waits hd)) hd.s).1<2^63:=by obtain⟨x,hx,t⟩:=Z;rw[p]at hx;rw[<-t];have:=k x hx;omega
   generalize (dG (da (cV d.holds hd) (df d.holds d.waits hd)) hd.s).1=v at *;have r:=gZ (df d.holds d.waits hd) v;have y:(bX (bX (df d.holds d.waits hd) v) hd.s).length<=n:=by rw[DI];have:=gZ (bX (df d.holds d.waits hd) hd.s) v;omega
   have g:(kh ⟨d.az,d.aq,cV d.holds hd,df d.holds d.waits hd⟩ v).az.map (·.S)=d.az.map (·.S):=Nw _ _ _;have A:(kh ⟨d.az,d.aq,cV d.holds hd,df d.holds d.waits hd⟩ v).holds.length<d.holds.length:=by show(bX (cV d.holds hd) v).length<_;rw[p]at Q |-;exact Q
   have M:(kh ⟨d.az,d.aq,cV d.holds hd,df d.holds d.waits hd⟩ v).aq.Sublist d.aq:=rV _ _;by_cases c:v=hd.s
   .rw[if_pos (mQu c)];exact⟨g,⟨by rw[bXW g];exact l,i.sublist M,λw h=>j w (M.subset h),vQ m _ _,mXT (mZp A) (by omega),mXT r (by omega),λx hx=>IT k s x (mXQ.1 hx).1⟩,(λe=>by cases e),M⟩
   rw[if_neg (by simpa using c)];have o:=PQ n hd s f (kh ⟨d.az,d.aq,cV d.holds hd,df d.holds d.waits hd⟩ v) (by omega) (by rw[bXW g];exact l) (i.sublist M) (λw h=>j w (M.subset h)) (vQ m _ _) (by omega) y
    (λx hx=>k x (by
     have hx:x∈bX (cV d.holds hd) v:=hx;rw[p]at hx;exact(mXQ.1 hx).1))
   refine⟨o.S.trans g,o.ok,λe w h q=>o.own e w ?_ q,o.sub.trans M⟩;exact Zt i j J h (by rw[q];exact λe=>c e.symm)
  rw[if_neg F];exact⟨rfl,⟨l,i,j,m,by show(cV _ _).length<=_;omega,by show(df _ _ _).length<=_;omega,IT k s⟩,λ_ w h _=>h,List.Sublist.refl _⟩
theorem xZ(o:ue n d)(hd:cg)(h:-2^63<=hd.s/\hd.s<2^63):bZd n d hd (aL d hd):=by
 unfold aL;by_cases y:Hw d hd=true
 .rw[if_pos y];unfold Hw at y;rw[mQQ]at y;obtain⟨w,a,b⟩:=(lR o.jC o.pH h).1 y.1;have:=o.pH w a;exact PQ n hd (by omega) _ d (by omega) o.az o.jC o.pH o.rows o.holds (mXT (gZ _ _) o.waits) o.dJT
 rw[if_neg y];exact⟨rfl,o.le (by omega),(λe=>by cases e),List.Sublist.refl _⟩
theorem HW(o:ue n d)(s:-2^63<=hd.s/\hd.s<2^63)(h0:(aL d hd).2=0):
 jG (aQ (aL d hd).1.az hd.table)=true/\jG (bQ (aL d hd).1.aq hd.s)=true:=by
 have k:=xZ o hd s;have y:Hw d hd=true:=by
  cases h:Hw d hd with
  |true=>rfl
  |false=>unfold aL at h0;rw[h]at h0;cases h0
 unfold Hw at y;rw[mQQ]at y;refine⟨by rw[XE k.S];exact y.2,?_⟩;obtain⟨w,a,e⟩:=(lR o.jC o.pH s).1 y.1;exact(lR k.ok.jC k.ok.pH s).2 ⟨w,k.own h0 w a e,e⟩
end Go.S
