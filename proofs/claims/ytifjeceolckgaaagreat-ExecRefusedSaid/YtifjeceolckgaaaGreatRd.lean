import Derived.Test.YtifjeceolckgaaaGreatSxB
import Derived.Laws.LoneSync
import Derived.Lib.Bytealg
import Derived.Maps.RangeRun
import Derived.Laws.RangeString
set_option linter.all false
namespace Go.Sx
def Le(h h':ad):Prop:=∀b o,h b=some o->h' b=some o
theorem Le.refl(h:ad):Le h h:=λ_ _ x=>x
theorem Le.trans{a b c:ad}(x:Le a b)(y:Le b c):Le a c:=λk o q=>y k o (x k o q)
theorem Le.set{h:ad}{n:Nat}{o:Obj}(c:h n=none):Le h (bU h n o):=λb q a=>by
 unfold bU;split
 .rename_i e;rw[e,c]at a;cases a
 exact a
theorem ae{h:ad}{n:Nat}{o:Obj}:bU h n o n=some o:=by unfold bU;rw[if_pos rfl]
theorem aO{h:ad}{n b:Nat}{o:Obj}(a:b≠n):bU h n o b=h b:=by unfold bU;rw[if_neg a]
theorem oW{h:ad}{n:Nat}{o o':Obj}:bU (bU h n o) n o'=bU h n o':=by funext b;unfold bU;split<;>rfl
def bR(tys:List Nat)(h h':ad):Prop:=∀b c e fr,e∈tys->h b=some (.cells c e fr)->h' b=some (.cells c e fr)
theorem Le.t{h h':ad}(x:Le h h')(tys:List Nat):bR tys h h':=λb c e fr _ q=>x b _ q
theorem bR.refl(tys:List Nat)(h:ad):bR tys h h:=λ_ _ _ _ _ x=>x
theorem bR.trans{tys:List Nat}{a b c:ad}(x:bR tys a b)(y:bR tys b c):bR tys a c:=λk d e fr m q=>y k d e fr m (x k d e fr m q)
theorem bR.set{tys:List Nat}{h:ad}{n e:Nat}{c:Array Value}{fr:Nat×Nat}{o:Obj}(g:h n=some (.cells c e fr))(f:e∉tys):bR tys h (bU h n o):=λb d e' N m a=>by
 unfold bU;split
 .rename_i q;rw[q,g]at a;cases a;exact absurd m f
 exact a
theorem bR.sub{tys J:List Nat}{h h':ad}(x:bR tys h h')(s:∀t∈J,t∈tys:=by decide):bR J h h':=λb c e fr m q=>x b c e fr (s e m) q
structure Sh(α:Type)where
 n:Nat
 R:ad->List Value->α->Prop
 len:∀ {h cs x},R h cs x->cs.length=n
 one:∀ {h cs x},R h cs x->oS cs=true
 tys:List Nat
 mono:∀ {h h' cs x},bR tys h h'->R h cs x->R h' cs x
def Rows{α:Type}(s:Sh α)(h:ad)(c:List Value)(off:Nat)(xs:List α):Prop:=
 off+xs.length*s.n<=c.length/\∀i x,xs[i]? =some x->s.R h ((c.drop (off+i*s.n)).take s.n) x
theorem Rows.mono{a:Type}{s:Sh a}{h h':ad}{c:List Value}{off:Nat}{xs:List a}(l:bR s.tys h h')(r:Rows s h c off xs):Rows s h' c off xs:=
 ⟨r.1,λi x hx=>s.mono l (r.2 i x hx)⟩
structure Sl{α:Type}(e:Nat)(s:Sh α)(h:ad)(v:Value)(xs:List α):Prop where
 out:∃b cap,v=.slice b xs.length cap/\xs.length<=cap/\xs.length<=2^40/\
  (xs=[]\/∃oB off c fr,b=some ⟨oB,off,none⟩/\h oB=some (.cells c e fr)/\Rows s h c.toList off xs)
theorem Sl.mono{d:Type}{e:Nat}{s:Sh d}{h h':ad}{v:Value}{xs:List d}(l:bR (e::s.tys) h h')(q:Sl e s h v xs):Sl e s h' v xs:=by
 obtain⟨b,cap,j,k,m,a⟩:=q.out;refine⟨b,cap,j,k,m,?_⟩;rcases a with a| ⟨oB,off,c,fr,g,f,i⟩
 .exact .inl a
 exact .inr ⟨oB,off,c,fr,g,l _ _ _ _ (by simp) f,i.mono (l.sub λt n=>by simp[n])⟩
def mW{α:Type}(e:Nat)(s:Sh α):Sh (List α)where
 n:=1
 R h cs xs:=∃v,cs=[v]/\Sl e s h v xs
 len:=by rintro h cs x ⟨v,rfl,-⟩;rfl
 one:=by rintro h cs x ⟨v,rfl,q⟩;obtain⟨b,cap,rfl,-⟩:=q.out;rfl
 tys:=e::s.tys
 mono:=by rintro h h' cs x hl ⟨v,rfl,q⟩;exact⟨v,rfl,q.mono hl⟩
theorem pI{a:Type}{s:Sh a}{h:ad}{c:Array Value}{e:Nat}{fr:Nat×Nat}{oB off:Nat}{xs:List a}(b:h oB=some (.cells c e fr))(r:Rows s h c.toList off xs){i:Nat}{x:a}
 (hx:xs[i]? =some x):Sw h ⟨oB,off+i*s.n,none⟩ s.n ((c.toList.drop (off+i*s.n)).take s.n):=by
 refine⟨rfl,s.len (r.2 i x hx),c,e,fr,b,λj d=>?_⟩;rw[mXl,if_pos d,mXr];simp
theorem Sl.load{a:Type}{A:Ar}[bM A]{e:Nat}{s:Sh a}{h:ad}{b:Option Addr}{len cap:Nat}{xs:List a}(q:Sl e s h (.slice b len cap) xs){i:Nat}{x:a}(hx:xs[i]? =some x){n:Int}(m:n=(i:Int))
 {k:List Value->Prop} (l:∀cs,s.R h cs x->k cs):Bn h (A.mS b n s.n) s.n k:=by
 obtain⟨o,u,f,p,r,j⟩:=q.out;cases f;rcases j with rfl| ⟨oB,off,c,fr,rfl,d,g⟩
 .simp at hx
 subst m;refine⟨_,?_,l _ (g.2 i x hx)⟩;rw[A.yq];simp only[mS,mXW,mXH,dF];exact pI d g hx
theorem Sl.len{a:Type}{e:Nat}{s:Sh a}{h:ad}{b:Option Addr}{len cap:Nat}{xs:List a}(q:Sl e s h (.slice b len cap) xs):len=xs.length:=by obtain⟨d,j,c,-⟩:=q.out;cases c;rfl
theorem Sl.aT{a:Type}{e:Nat}{s:Sh a}{h:ad}{b:Option Addr}{len cap:Nat}{xs:List a}(q:Sl e s h (.slice b len cap) xs)(l:0<len:=by omega):b.isSome=true:=by
 obtain⟨g,u,d,i,j,f⟩:=q.out;cases d;rcases f with rfl| ⟨oB,off,c,fr,rfl,-⟩
 .simp at l
 rfl
theorem Sl.bound{a:Type}{e:Nat}{s:Sh a}{h:ad}{b:Option Addr}{len cap:Nat}{xs:List a}(q:Sl e s h (.slice b len cap) xs):len<=2^40/\len<=cap:=by obtain⟨g,j,c,d,f,-⟩:=q.out;cases c;exact⟨f,d⟩
theorem Sl.rX{f:Type}{e:Nat}{s:Sh f}{h:ad}{b:Option Addr}{len cap:Nat}{xs:List f}(q:Sl e s h (.slice b len cap) xs):
 ∃cs,dXU h b (len*s.n) cs/\cs.length=len*s.n/\oS cs=true/\∀h',bR s.tys h h'->∀p rest,Rows s h' (p++cs++rest) p.length xs:=by
 obtain⟨w,C,l,z,A,n⟩:=q.out;cases l;rcases n with rfl| ⟨oB,off,c,fr,rfl,k,g⟩
 .exact⟨[],.inl ⟨by simp,rfl⟩,by simp,rfl,λh' _ p rest=>⟨by simp,λi x hx=>by simp at hx⟩⟩
 refine⟨(c.toList.drop off).take (xs.length*s.n),.inr ⟨_,rfl,rfl,?_,c,e,fr,k,λj d=>?_⟩,?_,?_,λh' u p rest=>⟨?_,λi x hx=>?_⟩⟩
 .have:=g.1;simp at this |-;omega
 .rw[mXl,if_pos d,mXr];simp
 .have:=g.1;simp at this |-;omega
 ·-- oS
  have key:∀m,m<=xs.length->oS ((c.toList.drop off).take (m*s.n))=true:=λm=>by
   induction m with
   |zero=>intro _;simp[oS]
   |succ m v=>
    intro B;have hx:xs[m]? =some xs[m]:=by simp[show m<xs.length by omega]
    have a:=s.one (g.2 m _ hx);have o:(c.toList.drop off).take ((m+1)*s.n)=(c.toList.drop off).take (m*s.n)++(c.toList.drop (off+m*s.n)).take s.n:=by rw[mXG,List.take_add,mZB]
    rw[o];exact EP (v (by omega)) a
  exact key _ (mQD _)
 .have:=g.1;simp at this |-;omega
 have a:=g.2 i x hx;have t:i<xs.length:=(mQB.1 hx).1;have r:=g.1;have y:i*s.n+s.n<=xs.length*s.n:=by rw[<-mXG];exact mXu _ t
 have:((p++(c.toList.drop off).take (xs.length*s.n)++rest).drop (p.length+i*s.n)).take s.n=(c.toList.drop (off+i*s.n)).take s.n:=by
  apply mXM;intro j;simp only[mXl];split
  .rename_i d;rw[mXr,mXk,mXJ (by omega),mZw (by simp at r |-;omega),mXl,if_pos (by omega),mXr,mXr];congr 1;omega
  rfl
 rw[this];exact s.mono u a
theorem Sl.fresh{a:Type}{e:Nat}{s:Sh a}{h:ad}{n:Nat}{c:List Value}{xs:List a}{cap:Nat}(b:h n=some (.cells c.toArray e (0,0)))(r:Rows s h c 0 xs)(l:xs.length<=2^40)(d:xs.length<=cap):
 Sl e s h (.slice (some ⟨n,0,none⟩) xs.length cap) xs:=
 ⟨some ⟨n,0,none⟩,cap,rfl,d,l,.inr ⟨n,0,c.toArray,(0,0),rfl,b,by simpa using r⟩⟩
theorem Sl.nil{a:Type}{e:Nat}{s:Sh a}{h:ad}{b:Option Addr}{cap:Nat}:Sl e s h (.slice b 0 cap) ([]:List a):=
 ⟨b,cap,rfl,by simp,by simp,.inl rfl⟩
theorem bh{t:Bool}{x y:Unit->Prop}(h:t=true->x ())(a:t=false->y ()):ZR t x y:=by
 cases t
 .exact a rfl
 exact h rfl
structure fX{α:Type}(e:Nat)(s:Sh α)(h:ad)(nb cap:Nat)(xs:List α):Prop where
 out:∃c,h nb=some (.cells (List.toArray c) e (0,0))/\Rows s h c 0 xs/\c.length=cap*s.n
 le:xs.length<=cap
 bd:xs.length<=2^40
theorem fX.sl{a:Type}{e:Nat}{s:Sh a}{h:ad}{b cap:Nat}{xs:List a}(o:fX e s h b cap xs){n:Nat}(g:n=xs.length):Sl e s h (.slice (some ⟨b,0,none⟩) n cap) xs:=by obtain⟨c,d,f,-⟩:=o.out;subst g;exact Sl.fresh d f o.bd o.le
theorem fX.mono{a:Type}{e:Nat}{s:Sh a}{h h':ad}{n cap:Nat}{xs:List a}(l:bR (e::s.tys) h h')(o:fX e s h n cap xs):fX e s h' n cap xs:=by obtain⟨c,b,d,f⟩:=o.out;exact⟨⟨c,l _ _ _ _ (by simp) b,d.mono (l.sub λt g=>by simp[g]),f⟩,o.le,o.bd⟩
theorem dz{m:Type}{e:Nat}{s:Sh m}{h:ad}{x:Option Addr}{n o:Nat}{xs:List m}(q:Sl e s h (.slice x n o) xs)(z:e∉s.tys){b0:Option Addr}{i bytes:Nat}(X:i=s.n)(R:bytes<=128)
 {k:Value->ad->Prop} (Q:n=0->k (.slice b0 0 0) h)
 (v:∀b cap h',h b=none->0<n->Le h h'->fX e s h' b cap xs->k (.slice (some ⟨b,0,none⟩) n cap) h'):iU h b0 0 0 x n i bytes e k:=by
 subst X;obtain⟨cs,r,f,t,u⟩:=q.rX;have g:=q.len;obtain⟨Y,C⟩:=q.bound;refine⟨cs,r,t,λA=>?_,λB=>?_⟩
 .have j:n=0:=by omega
  have y:cs=[]:=mXd (by rw[f,j];simp);subst j;exact .inl ⟨y,Q rfl⟩
 refine⟨?_,?_,[],.inl ⟨by simp,rfl⟩,λb c h' rest a w p d=>?_⟩
 .have I:(2:Nat)^40=1099511627776:=rfl;have Z:(2:Nat)^48=281474976710656:=rfl;have:2*(0+n)*bytes<=2*(0+n)*128:=nQf _ R;omega
 .have I:(2:Nat)^40=1099511627776:=rfl;have Z:(2:Nat)^48=281474976710656:=rfl;omega
 have l:Le h h':=by rw[d];exact Le.set a
 have:=v b c h' a (by omega) l ⟨⟨cs++rest,?_,?_,?_⟩,by omega,by omega⟩
 .simpa using this
 .rw[d,ae];simp
 .have:=u h' (l.t _) [] rest;simpa using this
 simp only[mQy,f,p];rw[<-mXO];congr 1;omega
def xC:Env->List (Nat×SV)->Env
 |env,[]=>env
 |env,(t,x)::r=>xC (env.set t x) r
def aQt:Env->List Nat->Env
 |env,[]=>env
 |env,t::r=>aQt (env.set t .u) r
theorem aX.go{G:Type}{w:List Nat}{o:(Ex->Env->Loc->ad->Prop)->Env->Loc->ad->Prop}{K:Ex->Env->Loc->ad->Prop}{env:Env}{L:Loc}{h:ad}
 (v:G->List (Nat×SV)) (l:G->Loc) (I:Nat->G->ad->Prop) (s:Nat) (i:G)
 (x:Wk env L (xC (aQt env w) (v i)) (l i)) (r:I s i h)
 (step:∀n g h',I n g h'->o (λe d b k=>match e with
  | .normal=>∃m a,m<n/\Wk d b (xC (aQt env w) (v a)) (l a)/\I m a k
  |e=>K e d b k) (xC (aQt env w) (v g)) (l g) h'):aX w o K env L h:=
 ⟨λn U f c=>∃g,U=xC (aQt env w) (v g)/\f=l g/\I n g c,s,⟨_,_,x,i,rfl,rfl,r⟩,λn U f c ⟨g,t,u,r⟩=>by
  subst t u;have:=step n g c r;have key:(λ(e:Ex) (d:Env) (b:Loc) (k:ad)=>match e with
   | .normal=>∃m a,m<n/\Wk d b (xC (aQt env w) (v a)) (l a)/\I m a k
   |e=>K e d b k)=(λe d b h'=>match e with
   | .normal=>∃m U f,m<n/\Wk d b U f/\∃g,U=xC (aQt env w) (v g)/\f=l g/\I m g h'
   |e=>K e d b h'):=by
   funext e d b k;cases e with
   |normal=>
    apply propext;constructor
    .rintro⟨m,a,c,p,q⟩;exact⟨m,_,_,c,p,a,rfl,rfl,q⟩
    rintro⟨m,_,_,c,p,a,rfl,rfl,q⟩;exact⟨m,a,c,p,q⟩
   |exit j=>rfl
   |ret=>rfl
  rw[key]at this;exact this⟩
def Kp(bs:List Nat)(h h':ad):Prop:=∀b o,h b=some o->b∉bs->h' b=some o
theorem Kp.refl(bs:List Nat)(h:ad):Kp bs h h:=λ_ _ x _=>x
theorem Kp.trans{bs:List Nat}{a b c:ad}(x:Kp bs a b)(y:Kp bs b c):Kp bs a c:=λk o q h=>y k o (x k o q h) h
theorem Le.kp{h h':ad}(x:Le h h')(bs:List Nat):Kp bs h h':=λb o q _=>x b o q
theorem Kp.set{bs:List Nat}{h:ad}{n:Nat}{o:Obj}(c:n∈bs):Kp bs h (bU h n o):=λb q a k=>by
 rw[aO (λe=>k (by rw[e];exact c))];exact a
theorem Kp.sub{bs j:List Nat}{h h':ad}(x:Kp bs h h')(s:∀b∈bs,b∈j:=by decide):Kp j h h':=λb o q k=>x b o q (λe=>k (s b e))
theorem Le.dJ{h a c:ad}{bs:List Nat}(x:Le h a)(n:∀b∈bs,h b=none)(y:Kp bs a c):Le h c:=λb o q=>y b o (x b o q) (λe=>by rw[n b e]at q;cases q)
theorem Le.none{h h':ad}(x:Le h h'){b:Nat}(q:h' b=none):h b=none:=by
 cases a:h b with
 |none=>rfl
 |some o=>rw[x b o a]at q;cases q
theorem Hk{a:Type}{s:Sh a}{h:ad}{c:List Value}:Rows s h c 0 []:=⟨by simp,λi x hx=>by simp at hx⟩
theorem nJ{j:Type}{e:Nat}{s:Sh j}{h:ad}{l:Nat}{A:Ar}[bM A]{bytes:Nat}{z:List Value}{k:Value->ad->Prop}(i:z.length=s.n)(m:l<=2^40)(f:bytes<=128)
 (g:∀n h',h n=none->Le h h'->fX e s h' n l []->k (.slice (some ⟨n,0,none⟩) l l) h'):
 Aw h e (A .nat l) (A .nat l) bytes z k:=by
 have I:(2:Nat)^40=1099511627776:=rfl;have b:(2:Int)^48=281474976710656:=rfl;rw[bM.nat (A:=A)];refine⟨by simp only[mQV];omega,⟨by rw[b];simp only[mQV];omega,?_⟩,λn h' c a=>?_⟩
 .rw[b];simp only[mQV];have:bytes*l<=128*l:=mXu _ f;have d:((bytes*l:Nat):Int)<=((128*l:Nat):Int):=nQe.2 this;simp only[mJN]at d;omega
 simp only[mQV,mXH]at a |-;refine g n h' c (by rw[a];exact Le.set c) ⟨⟨kx l z,by rw[a,ae],Hk,?_⟩,by simp,by simp⟩;rw[gG,i]
theorem rF:∀(s:List Value) (c:List Value) (o j:Nat),o+s.length<=c.length->(jS c o s)[j]? =if o<=j/\j<o+s.length then s[j-o]? else c[j]?
 | [],c,o,j,_=>by simp[jS];omega
 |v::r,c,o,j,l=>by
  simp only[mQM]at l;unfold jS;rw[rF r (c.set o v) (o+1) j (by simp;omega)];by_cases h:o+1<=j/\j<o+1+r.length
  .rw[if_pos h,if_pos ⟨by omega,by simp;omega⟩];rw[show j-o=(j-(o+1))+1 by omega];simp
  rw[if_neg h];by_cases a:o=j
  .subst a;rw[if_pos ⟨mQD _,by simp⟩];simp[mZi (show o<c.length by omega)]
  rw[mJm a,if_neg (by simp;omega)]
theorem Ha{v c:List Value}{o n:Nat}(l:o+v.length<=c.length)(a:n=v.length):((jS c o v).drop o).take n=v:=by
 subst a;apply mXM;intro j;rw[mXl];split
 .rename_i h;rw[mXr,rF v c o _ l,if_pos ⟨by omega,by omega⟩];congr 1;omega
 rename_i h;rw[mXX (by omega)]
theorem vy{v c:List Value}{o p n:Nat}(h:o+v.length<=c.length)(hd:p+n<=o\/o+v.length<=p):((jS c o v).drop p).take n=(c.drop p).take n:=by
 apply mXM;intro j;rw[mXl,mXl];split
 .rename_i a;rw[mXr,mXr,rF v c o _ h,if_neg (by omega)]
 rfl
theorem fX.store{m:Type}{A:Ar}[bM A]{e:Nat}{s:Sh m}{h:ad}{d cap:Nat}{xs:List m}(o:fX e s h d cap xs)(w:e∉s.tys){i:Nat}(G:i<=xs.length)(v:i<cap)(F:cap<=2^40){n:Int}(C:n=(i:Int)){z:Nat}(D:z=s.n)
 {cs:List Value} {x:m} (hx:s.R h cs x) {k:ad->Prop}
 (B:∀h',Kp [d] h h'->(∀tys,e∉tys->bR tys h h')->fX e s h' d cap (if i<xs.length then xs.set i x else xs++[x])->k h'):Rn h (A.mS (some ⟨d,0,none⟩) n z) cs k:=by
 subst C D;obtain⟨c,q,u,g⟩:=o.out;have l:=s.len hx;have b:=o.le;have Y:i*s.n+s.n<=c.length:=by rw[g,<-mXG];exact mXu _ v
 rw[A.yq];simp only[mS,mXW,mXH,dF,mXj];refine⟨c.toArray,e,(0,0),rfl,q,by simp;omega,by simp,λh' f=>?_⟩;have t:∀tys,e∉tys->bR tys h h':=λtys p=>by rw[f];exact bR.set q p
 refine B h' (by rw[f];exact Kp.set (by simp)) t ⟨⟨jS c (i*s.n) cs,by rw[f];simp[ae],?_,by rw[fD,g]⟩,?_,?_⟩
 .have r:=t s.tys w;have Z:∀j y,(if i<xs.length then xs.set i x else xs++[x])[j]? =some y->(j=i/\y=x)\/(j≠i/\xs[j]? =some y):=λj y a=>by
   split at a
   .rename_i P;by_cases T:j=i
    .subst T;rw[mZi P]at a;exact .inl ⟨rfl,(Option.some.inj a).symm⟩
    rw[mJm (Ne.symm T)]at a;exact .inr ⟨T,a⟩
   rename_i N;have:i=xs.length:=by omega
   by_cases T:j=i
   .subst T;rw[mXJ (by omega),this]at a;simp at a;exact .inl ⟨rfl,a.symm⟩
   rw[mZh]at a;split at a
   .exact .inr ⟨T,a⟩
   rename_i E;rw[mZu]at a;split at a
   .omega
   cases a
  refine⟨?_,λj y a=>?_⟩
  .rw[fD,g];simp only[mXj];refine mXu _ ?_;split
   .simp;exact b
   simp;omega
  simp only[mXj];rcases Z j y a with⟨rfl,rfl⟩|⟨p,X⟩
  .rw[Ha (by omega) l.symm];exact s.mono r hx
  have E:j<xs.length:=(mQB.1 X).1;rw[vy (by omega)]
  .have:=u.2 j y X;simp only[mXj]at this;exact s.mono r this
  rcases mXi j i with P|N
  .left;rw[<-mXG];exact mXu _ P
  right;rw[l,<-mXG];exact mXu _ (by omega)
 .split
  .simp;exact b
  simp;omega
 split
 .simp;exact o.bd
 simp;omega
theorem Sl.form{a:Type}{e:Nat}{s:Sh a}{h:ad}{v:Value}{xs:List a}(q:Sl e s h v xs):∃b l c,v=.slice b l c:=by obtain⟨b,cap,d,-⟩:=q.out;exact⟨b,_,cap,d⟩
structure aS(z:Int)(i:Nat):Prop where
 eq:z=(i:Int)
theorem aS.ix{z:Int}{i len:Nat}(a:aS z i)(h:i<len):0<=z/\z<(len:Int):=by have:=a.eq;omega
theorem aS.lt{A:Ar}[h:bM A]{z:Int}{i len:Nat}(a:aS z i)(c:A .aI .lss z (A .nat len)=true):i<len:=by have:=a.eq;simp only[h.nat,h.aI,aI,mQR,mQV]at c;omega
theorem aS.ge{A:Ar}[h:bM A]{z:Int}{i len:Nat}(a:aS z i)(c:A .aI .lss z (A .nat len)=false):len<=i:=by have:=a.eq;simp only[h.nat,h.aI,aI,decide_eq_false_iff_not,mQV]at c;omega
theorem aS.succ{A:Ar}[h:bM A]{z:Int}{i:Nat}(a:aS z i)(b:i<2^62:=by omega):aS (A .bB .add .i64 z 1) (i+1):=by constructor;have:=a.eq;rw[h.bB];simp only[bB];rw[IntWalk.i64_in _ (by omega)];omega
theorem mQA{a:Type}(xs:List a)(i:Nat)(h:i<xs.length:=by omega):∃x,xs[i]? =some x:=⟨xs[i],by simp[h]⟩
theorem aE{a:Type}{xs:List a}{i:Nat}(h:i<xs.length):∃x,xs[i]? =some x:=⟨xs[i],by simp[h]⟩
variable {P:Program}
theorem fW.ext{f:FuncId}{args:List Value}{h:ad}{k:Value->ad->Prop}
 (r:∀w,Fo h w->∃v w' h',(callFunc f args.toArray).run P w=.ok (.value v) w'/\k v h'/\bW h w h' w'):fW (λ_=>P) (λ_=>Iu f args) h k:=
 ⟨λw d=>by
  obtain⟨v,w',h',a,b,c⟩:=r w d;refine⟨v,w',h',?_,b,c⟩;simp only[Iu];rw[mQY,a];rfl⟩
structure pV(P:Program)(f:FuncId)(fn:Func):Prop where
 hf:P.funcs[f]? =some fn
 Cu:(fn.name== "runtime.NumGoroutine")=false
 hb:fn.body.isNone=true
 hn:Extern.findNext fn=none
structure vr(h:ad)(a:Addr)(v:Value):Prop where
 out:a.spot=none/\∃c e,h a.block=some (.cells c e (0,0))/\c[a.off]? =some v
theorem vr.cell{h:ad}{a:Addr}{v:Value}(c:vr h a v){w:World}(g:Fo h w):w.cell? a=some v/\w.frozen? a=false:=by
 obtain⟨d,c,e,b,f⟩:=c.out;have b:=g _ _ b;constructor
 .simp[World.cell?,b,d,f]
 simp[World.frozen?,b]
theorem vr.set{h:ad}{a:Addr}{v:Value}(q:vr h a v)(x:Value){k:ad->Prop}(j:∀c e h',h a.block=some (.cells c e (0,0))->h'=bU h a.block (.cells (c.setIfInBounds a.off x) e (0,0))->k h'){w:World}(f:Fo h w):
 ∃h',k h'/\bW h w h' (w.setCell a x):=by
 obtain⟨g,c,e,d,l⟩:=q.out;refine⟨_,j c e _ d rfl,?_⟩;refine bW.set f d ?_ ?_ ?_ ?_
 .simp[World.setCell,mJO,f _ _ d,g]
 .intro b i;simp[World.setCell,mJO,Ne.symm i]
 .simp[World.setCell]
 exact⟨rfl,rfl,rfl⟩
theorem zE{f:FuncId}{fn:Func}(o:pV P f fn)(m:Mark)(e:Extern.find fn=some (λ_=>do mark m;pure Extern.Race.none_)){h:ad}{k:Value->ad->Prop}(a:k (.tuple #[]) h):
 fW (λ_=>P) (λ_=>Iu f []) h k:=
 fW.ext λw b=>⟨_,w,h,run_call_mark0 o.hf o.Cu o.hb o.hn m e w,a,bW.refl b⟩
theorem Is{f:FuncId}{fn:Func}(o:pV P f fn)(m:Addr->Mark)(e:Extern.find fn=some (Extern.Race.marked m)){a:Addr}{h:ad}{k:Value->ad->Prop}(b:k (.tuple #[]) h):
 fW (λ_=>P) (λ_=>Iu f [.pointer (some a)]) h k:=
 fW.ext λw c=>⟨_,w,h,run_call_marked o.hf o.Cu o.hb o.hn m e a w,b,bW.refl c⟩
theorem bQz{f:FuncId}{fn:Func}(o:pV P f fn){j:IntKind}(e:Extern.find fn=some (Extern.Atomic.loadT (.int j))){a:Addr}{h:ad}{x:Int}(c:vr h a (.int j x)){k:Value->ad->Prop}(d:k (.int j x) h):
 fW (λ_=>P) (λ_=>Iu f [.pointer (some a)]) h k:=
 fW.ext λw b=>⟨_,w,h,run_call_load o.hf o.Cu o.hb o.hn j e (c.cell b).1,d,bW.refl b⟩
theorem cXI{f:FuncId}{fn:Func}(o:pV P f fn){j:IntKind}(l:Extern.find fn=some (Extern.Atomic.casT (.int j))){a:Addr}{h:ad}{x y:Int}(b:vr h a (.int j x)){k:Value->ad->Prop}
 (m:∀c e h',h a.block=some (.cells c e (0,0))->h'=bU h a.block (.cells (c.setIfInBounds a.off (.int j y)) e (0,0))->k (.bool true) h'):
 fW (λ_=>P) (λ_=>Iu f [.pointer (some a),.int j x,.int j y]) h k:=
 fW.ext λw d=>by
  obtain⟨h',g,i⟩:=b.set (.int j y) (k:=k (.bool true)) m d;exact⟨_,_,h',run_call_cas_hit o.hf o.Cu o.hb o.hn j l (b.cell d).1 (b.cell d).2,g,i⟩
theorem Zq{f:FuncId}{fn:Func}(o:pV P f fn)(l:Extern.find fn=some Extern.Atomic.storeT){a:Addr}{h:ad}{v:Value}{j:IntKind}{y:Int}(b:vr h a v){k:Value->ad->Prop}
 (m:∀c e h',h a.block=some (.cells c e (0,0))->h'=bU h a.block (.cells (c.setIfInBounds a.off (.int j y)) e (0,0))->k (.tuple #[]) h'):
 fW (λ_=>P) (λ_=>Iu f [.pointer (some a),.int j y]) h k:=
 fW.ext λw d=>by
  obtain⟨h',g,i⟩:=b.set (.int j y) (k:=k (.tuple #[])) m d;exact⟨_,_,h',run_call_store o.hf o.Cu o.hb o.hn l (b.cell d).1 (b.cell d).2,g,i⟩
theorem WG{f:FuncId}{fn:Func}(o:pV P f fn){j:IntKind}(l:Extern.find fn=some (Extern.Atomic.update (Op.intArith .add) j true)){a:Addr}{h:ad}{x y:Int}(b:vr h a (.int j x)){k:Value->ad->Prop}
 (m:∀c e h',h a.block=some (.cells c e (0,0))->h'=bU h a.block (.cells (c.setIfInBounds a.off (.int j (j.wrap (x+y)))) e (0,0))->k (.int j (j.wrap (x+y))) h'):
 fW (λ_=>P) (λ_=>Iu f [.pointer (some a),.int j y]) h k:=
 fW.ext λw d=>by
  obtain⟨h',g,i⟩:=b.set (.int j (j.wrap (x+y))) (k:=k (.int j (j.wrap (x+y)))) m d;exact⟨_,_,h',run_call_add o.hf o.Cu o.hb o.hn j l (b.cell d).1 (b.cell d).2 (by simp[Op.intArith]),g,i⟩
theorem cXH{f:FuncId}{fn:Func}(o:pV P f fn)(e:Extern.find fn=some Extern.BytealgCompare.compare){a b:ByteArray}{h:ad}{k:Value->ad->Prop}
 (c:k (.int .i64 (Lib.compareBytes a.data.toList b.data.toList)) h):fW (λ_=>P) (λ_=>Iu f [.string a,.string b]) h k:=
 fW.ext λw d=>by
  refine⟨_,w,h,?_,c,bW.refl d⟩;rw[run_callFunc_extern o.hf o.Cu o.hb o.hn e];rw[show [Value.string a,Value.string b].toArray= #[.string a,.string b]from rfl,Lib.run_compareString];rfl
theorem Hc{s d t:TypeId}(f:P.underlying s=some (.pointer t))(hd:P.underlying d=some .unsafePointer)(m:(P.info? t).map (λi=>decide (i.size=0))=some false)
 {a:Addr} {v:Value} {h:ad} (c:vr h a v) {k:Value->ad->Prop} (e:k (.pointer (some a)) h):fW (λ_=>P) (λ_=>Go.convert s d (.pointer (some a))) h k:=
 ⟨λw b=>⟨_,w,h,run_convert_to_unsafe f hd m (c.cell b).1,e,bW.refl b⟩⟩
theorem aS.bKH{A:Ar}[h:bM A]{z w:Int}{i j:Nat}(c:aS z i)(b:aS w j)(g:i<2^61)(k:j<2^61):
 aS (A .conv .i64 (A .bB .shr .u64 (A .conv .u64 (A .bB .add .i64 z w)) 1)) ((i+j) / 2):=by
 constructor;have d:=c.eq;have f:=b.eq;simp only[h.conv,h.bB,bB];rw[IntWalk.i64_in (z+w) (by omega)];have e:IntKind.u64.wrap (z+w)=((i+j:Nat):Int):=by
  have:z+w=((i+j:Nat):Int):=by omega
  rw[this];simp only[IntKind.wrap,IntKind.bits];simp;omega
 rw[e];have a:(2:Int)^(min (1:Int).toNat IntKind.u64.bits)=2:=by decide
 rw[a,nQS _ (by omega)];rw[IntWalk.i64_in _ (by omega)];omega
theorem aS.iJ{A:Ar}[h:bM A]{z w:Int}{i j:Nat}(b:aS z i)(a:aS w j):A .aI .lss z w=decide (i<j):=by have c:=b.eq;have d:=a.eq;simp only[h.aI,aI];rw[decide_eq_decide];omega
def uc(l:List Int)(i j:Nat):Nat:=
 if i<j then
  if l.getD ((i+j) / 2) 0<0 then uc l ((i+j) / 2+1) j else uc l i ((i+j) / 2)
 else i
 termination_by j-i
 decreasing_by all_goals omega
theorem Nt(l:List Int)(i j:Nat)(h:i<=j):uc l i j<=j/\i<=uc l i j:=by
 fun_induction uc l i j with
 |case1 i j b c a=>have:=a (by omega);omega
 |case2 i j b c a=>have:=a (by omega);omega
 |case3 i j b=>omega
theorem Dn(l:List Int)(p:Nat)(P:∀k,k<p->l.getD k 0<0)(i j:Nat)(N:∀k,p<=k->k<j->¬l.getD k 0<0)(e:i<=p)(f:p<=j):uc l i j=p:=by
 fun_induction uc l i j with
 |case1 i j c a b=>
  refine b N ?_ f;rcases mXi ((i+j) / 2) p with h|h
  .omega
  exact absurd a (N _ h (by omega))
 |case2 i j c a b=>
  refine b (λk d g=>N k d (by omega)) e ?_;rcases mXi ((i+j) / 2) p with h|h
  .exact absurd (P _ h) a
  omega
 |case3 i j c=>omega
theorem aB{h:ad}{b o n e:Nat}{c cs:List Value}{fr:Nat×Nat}{k:List Value->Prop}(g:h b=some (.cells (List.toArray c) e fr))(a:(c.drop o).take n=cs)(j:cs.length=n)(f:k cs):Bn h ⟨b,o,none⟩ n k:=by refine⟨cs,⟨rfl,j,_,_,_,g,λi d=>?_⟩,f⟩;rw[<-a,mXl,if_pos d,mXr];simp
theorem mQw{h:ad}{b o n e:Nat}{c cs:List Value}{fr:Nat×Nat}{k:List Value->Prop}(g:h b=some (.cells (List.toArray c) e fr))(d:k cs)(a:(c.drop o).take n=cs:=by exact rfl)(f:cs.length=n:=by exact rfl):Bn h ⟨b,o,none⟩ n k:=aB g a f d
theorem ja{h:ad}{b o e:Nat}{c cs:List Value}{k:ad->Prop}(g:h b=some (.cells (List.toArray c) e (0,0)))(n:o+cs.length<=c.length)(a:∀h',h'=bU h b (.cells (List.toArray (jS c o cs)) e (0,0))->k h'):Rn h ⟨b,o,none⟩ cs k:=
 ⟨_,_,_,rfl,g,by simpa using n,by simp,λh' e=>a h' (by simpa using e)⟩
open Go.MapKept
variable {P:Program}
structure Mp(h:ad)(m:Nat)(d:TypeDesc)(l:List (Value×Value)):Prop where
 out:∃es clock,h m=some (.map es clock)/\es.toList.map (λe=>(e.key,e.val))=l/\Stamped es clock/\∀x∈es.toList,IsKey d x.key
theorem Mp.new{h:ad}{m:Nat}{d:TypeDesc}(g:h m=some (.map #[] 0)):Mp h m d []:=⟨#[],0,g,rfl,stamped_empty 0,by simp⟩
theorem Mp.kp{h h':ad}{m:Nat}{d:TypeDesc}{l:List (Value×Value)}{bs:List Nat}(q:Mp h m d l)(k:Kp bs h h')(i:m∉bs):Mp h' m d l:=by obtain⟨e,c,g,a,b,f⟩:=q.out;exact⟨e,c,k _ _ g i,a,b,f⟩
theorem bR.HB{tys:List Nat}{h:ad}{n:Nat}{e:Array MapEntry}{c:Nat}{o:Obj}(f:h n=some (.map e c)):bR tys h (bU h n o):=λb d e' N m a=>by
 unfold bU;split
 .rename_i q;rw[q,f]at a;cases a
 exact a
theorem bW.HB{h:ad}{w:World}(d:Fo h w){n:Nat}{e:Array MapEntry}{c:Nat}{o:Obj}(b:h n=some (.map e c)):bW h w (bU h n o) { w with heap:=w.heap.setIfInBounds n o }:=by have a:=heap_set (o':=o) (d _ _ b);exact bW.set d b a.1 a.2 (by simp) ⟨rfl,rfl,rfl⟩
theorem vz{r t u:TypeId}{d:TypeDesc}(z:P.underlying r=some (.map t u))(hd:P.underlying t=some d){h:ad}{m:Nat}{l:List (Value×Value)}(q:Mp h m d l){key v:Value}(a:IsKey d key)(F:∀p∈l,p.1≠key)
 {k:Value->ad->Prop} (K:∀h',Mp h' m d (l++[(key,v)])->Kp [m] h h'->(∀tys,bR tys h h')->k undef h'):
 fW (λ_=>P) (λ_=>do Instr.mapUpdate r (.map (some m)) key v;pure undef) h k:=
 ⟨λw o=>by
  obtain⟨s,c,g,f,y,i⟩:=q.out;have n:=o _ _ g;have b:∀x∈s.toList,x.key≠key:=λx hx=>by
   have:(x.key,x.val)∈l:=by rw[<-f];exact mQW.2 ⟨x,hx,rfl⟩
   exact F _ this
  rcases findNow_spec a s.toList 0 i with⟨f1,_⟩|⟨j,e,f1,f2,f3⟩
  .refine⟨undef,_,_,?_,K _ ⟨s.push { key:=key,val:=v,born:=c },c+1,ae,?_,stamped_push y b,?_⟩ (Kp.set (by simp)) (λtys=>bR.HB g),bW.HB o g⟩
   .simp[Instr.mapUpdate,run_underlying z,Go.MapKept.run_getObj_map n,run_checkKey hd a,run_findKey hd f1,Go.MapKept.run_setObj_map _ n,Result.andThen]
   .simp[f]
   intro x hx;simp only[Array.toList_push,mQE,mQH]at hx;rcases hx with hx|rfl
   .exact i x hx
   exact a
  exact absurd f3 (b e (mQz f2))⟩
theorem xD{i f t:TypeId}{d:TypeDesc}(v:P.underlying i=some (.map f t))(hd:P.underlying f=some d){z:Value}(y:∀w,(zeroValue t).run P w=.ok z w){h:ad}{m:Nat}{l:List (Value×Value)}(q:Mp h m d l){key:Value}(a:IsKey d key)(F:∀p∈l,p.1≠key)
 {k:Value->ad->Prop} (K:k z h):fW (λ_=>P) (λ_=>Instr.lookup i (.map (some m)) key false) h k:=
 ⟨λw b=>by
  obtain⟨s,c,g,o,A,r⟩:=q.out;have u:=b _ _ g;have n:∀x∈s.toList,x.key≠key:=λx hx=>by
   have:(x.key,x.val)∈l:=by rw[<-o];exact mQW.2 ⟨x,hx,rfl⟩
   exact F _ this
  rcases findNow_spec a s.toList 0 r with⟨f1,_⟩|⟨j,e,f1,f2,f3⟩
  .refine⟨z,w,h,?_,K,bW.refl b⟩;simp[Instr.lookup,run_underlying v,Go.MapKept.run_getObj_map u,run_checkKey hd a,run_findKey hd f1,y,Result.andThen]
  exact absurd f3 (n e (mQz f2))⟩
theorem BN{u t y:TypeId}{d:TypeDesc}(F:P.underlying u=some (.map t y))(hd:P.underlying t=some d){h:ad}{m:Nat}{l:List (Value×Value)}(q:Mp h m d l){key v:Value}(o:IsKey d key)(n:(key,v)∈l)
 {k:Value->ad->Prop} (K:k v h):fW (λ_=>P) (λ_=>Instr.lookup u (.map (some m)) key false) h k:=
 ⟨λw r=>by
  obtain⟨s,c,g,z,A,B⟩:=q.out;have D:=r _ _ g;rw[<-z]at n;obtain⟨x,hx,E⟩:=mQW.1 n;cases E;rcases findNow_spec o s.toList 0 B with⟨f1,f2⟩|⟨j,e,f1,f2,f3⟩
  .exact absurd rfl (f2 x hx)
  have Z:e=x:=by
   have p:=((stamped_iff s c).1 A).2.2;obtain⟨i,b⟩:=mXh hx;rcases mZN i j with f|rfl|f
   .exfalso;have a:=(mQB.1 f2);have C:=(mQB.1 b);have:=mQZ.1 p i j C.1 a.1 f;rw[C.2,a.2]at this;exact this f3.symm
   .rw[f2]at b;exact Option.some.inj b
   exfalso;have a:=(mQB.1 f2);have C:=(mQB.1 b);have:=mQZ.1 p j i a.1 C.1 f;rw[C.2,a.2]at this;exact this f3
  subst Z;refine⟨_,w,h,?_,K,bW.refl r⟩;simp[Instr.lookup,run_underlying F,Go.MapKept.run_getObj_map D,run_checkKey hd o,run_findKey hd f1,Result.andThen]⟩
theorem ZO{a b:ByteArray}(h:a.toList=b.toList):a=b:=by rw[Go.ByteArray.toList_eq,Go.ByteArray.toList_eq]at h;cases a;cases b;simp only at h;congr;exact Array.toList_inj.1 h
theorem cS(A:Ar)[c:bM A](a b:ByteArray):A .iQ .eql a b=decide (a=b):=by
 rw[c.iQ];simp only[iQ];by_cases h:a=b
 .simp[h]
 rw[mQv h];simp only[beq_eq_false_iff_ne,ne_eq];exact λe=>h (ZO e)
theorem aA(A:Ar)[c:bM A](a b:Int):A .aI .eql a b=decide (a=b):=by
 rw[c.aI];simp only[aI];by_cases h:a=b
 .simp[h]
 simp[h]
theorem aC(A:Ar)[c:bM A](a b:Int):A .aI .neq a b=decide (a≠b):=by
 rw[c.aI];simp only[aI];by_cases h:a=b
 .simp[h]
 simp[h]
theorem bm(A:Ar)[h:bM A](a b:Int):A .aI .lss a b=decide (a<b):=by rw[h.aI];rfl
theorem cf(A:Ar)[h:bM A](a b:Int):A .aI .geq a b=decide (a>=b):=by rw[h.aI];rfl
theorem bO(A:Ar)[h:bM A](a b:Int):A .aI .gtr a b=decide (a>b):=by rw[h.aI];rfl
theorem vM(A:Ar)[h:bM A](a b:Int):A .aI .leq a b=decide (a<=b):=by rw[h.aI];rfl
structure vg{α:Type}(xs:List α)(p:α->Bool)(z:Int):Prop where
 out:(z=-1/\∀x∈xs,p x=false)\/∃i x,aS z i/\xs[i]? =some x/\p x=true/\∀j,j<i->∀y,xs[j]? =some y->p y=false
theorem SX(A:Ar)[h:bM A]{key:Int}{n:Nat}(e:A .aI .lss key 0=false)(a:A .aI .geq key (A .nat n)=false):aS key key.toNat/\key.toNat<n:=by rw[bm A]at e;rw[cf A,h.nat]at a;have b:=mQO e;have g:=mQO a;simp only[mQV]at g;exact⟨⟨by omega⟩,by omega⟩
theorem Sl.cC{a:Type}{A:Ar}[bM A]{e:Nat}{s:Sh a}{h:ad}{b:Option Addr}{len cap:Nat}{xs:List a}(q:Sl e s h (.slice b len cap) xs){i:Nat}{x:a}(hx:xs[i]? =some x){n:Int}(v:n=(i:Int)){o m:Nat}(C:o+m<=s.n)
 {k:List Value->Prop} (t:∀cs,s.R h cs x->k ((cs.drop o).take m)):Bn h (A .off (A .mS b n s.n) o) m k:=by
 obtain⟨y,D,l,z,B,p⟩:=q.out;cases l;rcases p with rfl| ⟨oB,off,c,fr,rfl,f,g⟩
 .simp at hx
 subst v;have w:=pI f g hx;have hR:=g.2 i x hx;refine⟨_,?_,t _ hR⟩;rw[bM.mS (A:=A),bM.off (A:=A)];simp only[mS,mXW,mXH,dF];obtain⟨-,u,c',e',N,d,G⟩:=w;refine⟨rfl,by rw[mQK,mXg,u];omega,c',e',N,d,λj r=>?_⟩;have:=G (o+j) (by omega);simp only at this |-;rw[mXl,if_pos r,mXr,<-this];congr 1;omega
theorem Rows.at{a:Type}{s:Sh a}{h:ad}{cs:List Value}{ys:List a}(r:Rows s h cs 0 ys){j:Nat}{y:a}(b:ys[j]? =some y):s.R h ((cs.drop (j*s.n)).take s.n) y:=by have:=r.2 j y b;simpa using this
theorem fX.write{x:Type}{e:Nat}{s:Sh x}{h:ad}{n cap:Nat}{xs ys:List x}(o:fX e s h n cap xs)(D:e∉s.tys){i:Nat}(r:i<=xs.length)(C:i+ys.length<=cap)(L:i+ys.length<=2^40)
 {cs:List Value} (u:cs.length=ys.length*s.n) (H:Rows s h cs 0 ys) {k:ad->Prop}
 (E:∀h',Kp [n] h h'->(∀tys,e∉tys->bR tys h h')->fX e s h' n cap (xs.take i++ys++xs.drop (i+ys.length))->k h'):Rn h ⟨n,i*s.n,none⟩ cs k:=by
 obtain⟨c,q,A,g⟩:=o.out;have F:=o.le;have M:=o.bd;have Y:i*s.n+cs.length<=c.length:=by rw[g,u,<-mXO];exact mXu _ C
 refine⟨c.toArray,e,(0,0),rfl,q,by simpa using Y,by simp,λh' f=>?_⟩;have w:∀tys,e∉tys->bR tys h h':=λtys z=>by rw[f];exact bR.set q z
 have v:=w s.tys D;have l:(xs.take i++ys++xs.drop (i+ys.length)).length=max xs.length (i+ys.length):=by simp only[mQy,mQK,mXg];omega
 refine E h' (by rw[f];exact Kp.set (by simp)) w ⟨⟨jS c (i*s.n) cs,by rw[f];simp[ae],⟨?_,λj y d=>?_⟩,by rw[fD,g]⟩,by rw[l];omega,by rw[l];omega⟩
 .rw[fD,g,l];simp only[mXj];exact mXu _ (by omega)
 simp only[mXj];have p:∀a b:Nat,a<b->a*s.n+s.n<=b*s.n:=λa b G=>by rw[<-mXG];exact mXu _ G
 have Z:∀y,xs[j]? =some y->(j<i\/i+ys.length<=j)->s.R h' (((jS c (i*s.n) cs).drop (j*s.n)).take s.n) y:=λy I hd=>by
  rw[vy Y]
  .have:=A.2 j y I;simp only[mXj]at this;exact s.mono v this
  rcases hd with hd|hd
  .exact .inl (p j i hd)
  right;rw[u,<-mXO];exact mXu _ hd
 rw[mZh]at d;split at d
 .rename_i t;rw[mZh]at d;split at d
  .rename_i T;simp only[mQK]at T;rw[mXl,if_pos (by omega)]at d;exact Z y d (.inl (by omega))
  rename_i T;simp only[mQK,mQy]at T t;rw[mQK,mZs r]at d;have hR:=H.at d;have B:j-i<ys.length:=(mQB.1 d).1;have:((jS c (i*s.n) cs).drop (j*s.n)).take s.n=(cs.drop ((j-i)*s.n)).take s.n:=by
   apply mXM;intro m;rw[mXl,mXl];split
   .rename_i X;have J:=p (j-i) ys.length B;have K:j*s.n=i*s.n+(j-i)*s.n:=by rw[<-mXO];congr 1;omega
    rw[mXr,mXr,rF cs c _ _ Y,if_pos (by omega)];congr 1;omega
   rfl
  rw[this];exact s.mono v hR
 rename_i t;simp only[mQy,mQK,mZs r]at t d;rw[mXr]at d;have:i+ys.length+(j-(i+ys.length))=j:=by omega
 rw[this]at d;exact Z y d (.inr (by omega))
theorem fX.shrink{b:Type}{e:Nat}{s:Sh b}{h:ad}{n cap:Nat}{xs:List b}(o:fX e s h n cap xs)(k:Nat):fX e s h n cap (xs.take k):=by
 obtain⟨c,d,a,f⟩:=o.out;have l:=o.le;have M:=o.bd;refine⟨⟨c,d,⟨?_,λi x hx=>?_⟩,f⟩,by rw[mQK];omega,by rw[mQK];omega⟩
 .have:=a.1;refine mXT ?_ this;exact mKJ (mXu _ (by rw[mQK];omega)) _
 rw[mXl]at hx;split at hx
 .exact a.2 i x hx
 cases hx
theorem fX.bKg{g:Type}{e:Nat}{s:Sh g}{h:ad}{n cap:Nat}{xs:List g}(o:fX e s h n cap xs)(m:e∉s.tys){p:Nat}{cs:List Value}(u:xs.length*s.n<=p)(r:p+cs.length<=cap*s.n){k:ad->Prop}
 (q:∀h',Kp [n] h h'->(∀tys,e∉tys->bR tys h h')->fX e s h' n cap xs->k h'):Rn h ⟨n,p,none⟩ cs k:=by
 obtain⟨c,b,d,l⟩:=o.out;refine⟨c.toArray,e,(0,0),rfl,b,by simp;omega,by simp,λh' a=>?_⟩;have t:∀tys,e∉tys->bR tys h h':=λtys i=>by rw[a];exact bR.set b i
 refine q h' (by rw[a];exact Kp.set (by simp)) t ⟨⟨jS c p cs,by rw[a];simp[ae],⟨by rw[fD];exact d.1,λj y f=>?_⟩,by rw[fD,l]⟩,o.le,o.bd⟩;have X:j<xs.length:=(mQB.1 f).1;have:j*s.n+s.n<=xs.length*s.n:=by rw[<-mXG];exact mXu _ X
 simp only[mXj];rw[vy (by omega) (.inl (by omega))];have:=d.2 j y f;simp only[mXj]at this;exact s.mono (t s.tys m) this
theorem CJ{t:Type}{e:Nat}{s:Sh t}{h:ad}{b:Option Addr}{len cap n:Nat}{xs ys:List t}(q:Sl e s h (.slice b len cap) xs)(L:cap<len+n){i bytes:Nat}(X:i=s.n)(R:bytes<=128)(N:len+n<=2^39)
 {new:List Value} (A:oS new=true) (o:new.length=n*s.n) (Q:ys.length<=n) (D:∀h',Le h h'->Rows s h' new 0 ys)
 {k:Value->ad->Prop} (C:∀g c h',h g=none->Le h h'->len+n<=c->fX e s h' g c (xs++ys)->k (.slice (some ⟨g,0,none⟩) (len+n) c) h'):
 Jc h b len cap n i bytes e new k:=by
 subst X;obtain⟨cs,u,d,G,v⟩:=q.rX;have l:=q.len;have F:(2:Nat)^39=549755813888:=rfl;have I:(2:Nat)^40=1099511627776:=rfl;have Z:(2:Nat)^48=281474976710656:=rfl;refine⟨A,λK=>by omega,λ_=>⟨?_,by omega,cs,u,λg c h' rest p w x r=>?_⟩⟩
 .have:2*(len+n)*bytes<=2*(len+n)*128:=nQf _ R;omega
 have a:Le h h':=by rw[r];exact Le.set p
 refine C g c h' p a w ⟨⟨cs++new++rest,by rw[r,ae],?_,?_⟩,by rw[mQy];omega,by rw[mQy];omega⟩
 .have hx:=v h' (a.t _) [] (new++rest);have E:=D h' a;refine⟨?_,λj y f=>?_⟩
  .simp only[mQy,d,o,l,mXj];rw[<-mXO];have:(xs.length+ys.length)*s.n<=(xs.length+n)*s.n:=mXu _ (by omega);omega
  rw[mZh]at f;split at f
  .have:=hx.2 j y f;simpa using this
  rename_i O;have hR:=E.at f;have B:j-xs.length<ys.length:=(mQB.1 f).1;simp only[mXj];have z:((cs++new++rest).drop (j*s.n)).take s.n=(new.drop ((j-xs.length)*s.n)).take s.n:=by
   apply mXM;intro m;rw[mXl,mXl];split
   .rename_i M;have H:(j-xs.length)*s.n+s.n<=n*s.n:=by rw[<-mXG];exact mXu _ (by omega)
    have J:j*s.n=xs.length*s.n+(j-xs.length)*s.n:=by rw[<-mXO];congr 1;omega
    rw[mXr,mXr,mXk,mXJ (by rw[d,l];omega),mZw (by rw[d,o,l];omega)];congr 1;rw[d,l];omega
   rfl
  rw[z];exact hR
 simp only[mQy,d,o,x];rw[<-mXO,<-mXO];congr 1;omega
theorem gA{A:Ar}[h:bM A]{z:Int}{i n:Nat}(a:aS z i):A .su (A .nat n) z=n-i:=by have:=a.eq;simp only[h.su,h.nat,mQV];omega
theorem fh{A:Ar}[h:bM A]{z:Int}{i:Nat}(a:aS z i):A .su z 0=i:=by have:=a.eq;simp only[h.su];omega
theorem CZ{A:Ar}[h:bM A]{z:Int}{i c s n:Nat}(a:aS z i)(b:i<c):A .cut (some ⟨n,0,none⟩) z (A .nat c) s=some ⟨n,i*s,none⟩:=by have:=a.eq;simp only[h.cut,h.nat,mQV];rw[if_neg (by omega)];simp[dF,this]
theorem Rows.drop{b:Type}{s:Sh b}{h:ad}{c:List Value}{off:Nat}{xs:List b}(r:Rows s h c off xs){i:Nat}(d:i<=xs.length):Rows s h c (off+i*s.n) (xs.drop i):=by
 refine⟨?_,λj x a=>?_⟩
 .have:=r.1;rw[mXg];have:i*s.n+(xs.length-i)*s.n=xs.length*s.n:=by rw[<-mXO];congr 1;omega
  omega
 rw[mXr]at a;have:=r.2 _ x a;rw[mXO]at this;rw[mJp];exact this
theorem Rows.take{b:Type}{s:Sh b}{h:ad}{c:List Value}{off:Nat}{xs:List b}(r:Rows s h c off xs)(i:Nat):Rows s h c off (xs.take i):=by
 refine⟨?_,λj x a=>?_⟩
 .have:=r.1;refine mXT (mKJ (mXu _ ?_) _) this;rw[mQK];omega
 rw[mXl]at a;split at a
 .exact r.2 _ x a
 cases a
theorem Sl.uW{d:Type}{A:Ar}[a:bM A]{e:Nat}{s:Sh d}{h:ad}{b:Option Addr}{n c:Nat}{xs:List d}(q:Sl e s h (.slice b n c) xs){z:Int}{i:Nat}(t:aS z i)(p:i<=n){m:Nat}(r:m=n-i){c':Nat}(o:c'=c-i):
 Sl e s h (.slice (A .cut b z (A .nat c) s.n) m c') (xs.drop i):=by
 obtain⟨u,cap,k,v,w,l⟩:=q.out;cases k;subst r o;have N:=t.eq;refine⟨_,_,by rw[mXg],by rw[mXg];omega,by rw[mXg];omega,?_⟩;rcases l with rfl| ⟨oB,off,f,fr,rfl,g,j⟩
 .simp
 simp only[a.cut,a.nat,mQV];by_cases I:(c:Int)=z
 .left;have:i=xs.length:=by omega
  rw[this];simp
 right;rw[if_neg I];exact⟨oB,off+i*s.n,f,fr,by simp[dF,N],g,j.drop p⟩
theorem Sl.Om{a:Type}{A:Ar}[m:bM A]{e:Nat}{s:Sh a}{h:ad}{b:Option Addr}{n c:Nat}{xs:List a}(q:Sl e s h (.slice b n c) xs){i:Nat}(t:i<=n):
 Sl e s h (.slice (A .cut b 0 (A .nat c) s.n) i c) (xs.take i):=by
 obtain⟨o,cap,j,p,r,k⟩:=q.out;cases j;have l:(xs.take i).length=i:=by rw[mQK];omega
 refine⟨_,_,by rw[l],by rw[l];omega,by rw[l];omega,?_⟩;rcases k with rfl| ⟨oB,off,d,fr,rfl,g,f⟩
 .simp
 right;refine⟨oB,off,d,fr,?_,g,f.take i⟩;simp only[m.cut];split
 .rfl
 simp[dF]
theorem Db{a:Type}{e:Nat}{s:Sh a}{h:ad}{b cap:Nat}{xs ys:List a}(o:fX e s h b cap xs)(m:e∉s.tys){i:Nat}(p:i<=xs.length){x:Option Addr}{n j len:Nat}(q:Sl e s h (.slice x n j) ys)(y:n<=len)(w:i+n<=cap)(v:i+n<=2^40){z:Nat}(X:z=s.n)
 {k:Value->ad->Prop} (r:∀h',Kp [b] h h'->(∀tys,e∉tys->bR tys h h')->fX e s h' b cap (xs.take i++ys++xs.drop (i+n))->k (.int .i64 ((min n len:Nat):Int)) h'):
 Ja h (some ⟨b,i*s.n,none⟩) len x n z k:=by
 subst X;obtain⟨cs,c,d,f,g⟩:=q.rX;have l:=q.len;have Y:min n len=n:=by omega
 refine⟨cs,by rw[Y];exact c,f,.inr ⟨_,rfl,?_⟩⟩;refine o.write (ys:=ys) m p (by omega) (by omega) (by rw[d,l]) ?_ (λh' t u o'=>r h' t u (by rw[l];exact o'));have:=g h (bR.refl _ _) [] [];simpa using this
theorem lz{d:Type}{e:Nat}{s:Sh d}{h:ad}{b x:Option Addr}{len cap n m:Nat}{xs ys:List d}(q:Sl e s h (.slice b len cap) xs)(v:Sl e s h (.slice x n m) ys)(o:cap<len+n){i bytes:Nat}(X:i=s.n)(R:bytes<=128)(t:len+n<=2^39)
 {k:Value->ad->Prop} (p:∀a c h',h a=none->Le h h'->len+n<=c->fX e s h' a c (xs++ys)->k (.slice (some ⟨a,0,none⟩) (len+n) c) h'):
 iU h b len cap x n i bytes e k:=by
 subst X;obtain⟨cs,f,g,j,l⟩:=v.rX;refine⟨cs,f,CJ q o rfl R t j g (by rw[v.len];exact mQD _) (λh' r=>?_) p⟩;have:=l h' (r.t _) [] [];simpa using this
theorem aS.add{A:Ar}[h:bM A]{z w:Int}{i j:Nat}(b:aS z i)(a:aS w j)(e:i+j<2^62):aS (A .bB .add .i64 z w) (i+j):=by constructor;have c:=b.eq;have d:=a.eq;rw[h.bB];simp only[bB];rw[IntWalk.i64_in _ (by omega)];omega
theorem aS.sub{A:Ar}[h:bM A]{z w:Int}{i j:Nat}(b:aS z i)(a:aS w j)(e:i<2^62)(f:j<=i):aS (A .bB .sub .i64 z w) (i-j):=by constructor;have c:=b.eq;have d:=a.eq;rw[h.bB];simp only[bB];rw[IntWalk.i64_in _ (by omega)];omega
theorem yy{w:Int}{m bytes:Nat}(d:aS w m)(f:m<=2^39)(c:bytes<=128):0<=w/\w<=2^48/\w*(bytes:Int)<=2^48:=by
 have h:=d.eq;have b:(2:Int)^48=281474976710656:=rfl;have l:(2:Nat)^39=549755813888:=rfl;have e:m*bytes<=549755813888*128:=mJi (by omega) c;have a:w*(bytes:Int)=((m*bytes:Nat):Int):=by rw[h];simp
 rw[b,a];omega
theorem pU{d:Type}{e:Nat}{s:Sh d}{h:ad}{b:Option Addr}{len cap n:Nat}{xs:List d}(q:Sl e s h (.slice b len cap) xs)(g:cap<len+n){i bytes:Nat}(m:i=s.n)(r:bytes<=128)(j:len+n<=2^39){z:List Value}(V:oS z=true)(F:z.length=s.n)
 {k:Value->ad->Prop} (f:∀a c h',h a=none->Le h h'->len+n<=c->fX e s h' a c xs->k (.slice (some ⟨a,0,none⟩) (len+n) c) h'):
 dQC h b len cap n i bytes e z k:=
 ⟨CJ q g m r j (AU V n) (by rw[gG,F]) (ys:=[]) (by simp) (λh' _=>Hk) (by simpa using f)⟩
structure cF{α:Type}(e:Nat)(s:Sh α)(h0 h:ad)(v:Value)(xs:List α):Prop where
 out:(∃b,v=.slice b 0 0/\xs=[])\/∃nb cap,v=.slice (some ⟨nb,0,none⟩) xs.length cap/\h0 nb=none/\fX e s h nb cap xs
theorem cF.nil{a:Type}{e:Nat}{s:Sh a}{h0 h:ad}{b:Option Addr}:cF e s h0 h (.slice b 0 0) ([]:List a):=⟨.inl ⟨b,rfl,rfl⟩⟩
theorem cF.sl{a:Type}{e:Nat}{s:Sh a}{h0 h:ad}{v:Value}{xs:List a}(q:cF e s h0 h v xs):Sl e s h v xs:=by
 rcases q.out with⟨b,rfl,rfl⟩|⟨n,cap,rfl,-,o⟩
 .exact Sl.nil
 exact o.sl rfl
theorem cF.mono{b:Type}{e:Nat}{s:Sh b}{h0 h h':ad}{v:Value}{xs:List b}(q:cF e s h0 h v xs)(l:bR (e::s.tys) h h'):cF e s h0 h' v xs:=by
 rcases q.out with a| ⟨n,cap,a,c,o⟩
 .exact⟨.inl a⟩
 exact⟨.inr ⟨n,cap,a,c,o.mono l⟩⟩
theorem cF.base{b:Type}{e:Nat}{s:Sh b}{h0 a h:ad}{v:Value}{xs:List b}(q:cF e s a h v xs)(l:Le h0 a):cF e s h0 h v xs:=by
 rcases q.out with g| ⟨n,cap,c,d,o⟩
 .exact⟨.inl g⟩
 exact⟨.inr ⟨n,cap,c,l.none d,o⟩⟩
theorem fX.buf{a:Type}{e:Nat}{s:Sh a}{h0 h:ad}{b cap n:Nat}{xs:List a}(o:fX e s h b cap xs)(i:h0 b=none)(c:n=xs.length):cF e s h0 h (.slice (some ⟨b,0,none⟩) n cap) xs:=by subst c;exact⟨.inr ⟨b,cap,rfl,i,o⟩⟩
theorem cF.own{a:Type}{e:Nat}{s:Sh a}{h0 h:ad}{b:Option Addr}{l c:Nat}{xs:List a}(q:cF e s h0 h (.slice b l c) xs)(f:0<l):∃n,b=some ⟨n,0,none⟩/\h0 n=none/\l=xs.length/\fX e s h n c xs:=by
 rcases q.out with⟨b,g,rfl⟩|⟨n,cap,g,d,o⟩
 .cases g;omega
 cases g;exact⟨n,rfl,d,rfl,o⟩
theorem cF.append{G:Type}{e:Nat}{s:Sh G}{h0 h:ad}{b x:Option Addr}{len cap n K:Nat}{xs ys:List G}(q:cF e s h0 h (.slice b len cap) xs)(F:Sl e s h (.slice x n K) ys)(N:e∉s.tys){z bytes:Nat}(X:z=s.n)(V:bytes<=128)(P:len+n<=2^39)
 {k:Value->ad->Prop} (v:Le h0 h) (u:∀m d c' h',m=len+n->Le h0 h'->(∀tys,e∉tys->bR tys h h')->(∀j o,h j=some o->(∀c fr,o≠.cells c e fr)->h' j=some o)->cF e s h0 h' (.slice d m c') (xs++ys)->k (.slice d m c') h'):
 iU h b len cap x n z bytes e k:=by
 subst X;obtain⟨cs,I,f,w,y⟩:=F.rX;have l:=q.sl.len;have T:=F.len;have g:cap<len+n->Jc h b len cap n s.n bytes e cs k:=λA=>by
  refine CJ q.sl A rfl V P w f (ys:=ys) (by rw[T];exact mQD _) (λh' O=>?_) (λD c h' L p Y o=>?_)
  .have:=y h' (O.t _) [] [];simpa using this
  exact u _ _ _ h' rfl (v.trans p) (λtys _=>p.t tys) (λj o a _=>p j o a) (o.buf (v.none L) (by rw[mQy,l,T]))
 refine⟨cs,I,?_⟩;by_cases W:len+n<=cap
 .refine⟨w,λ_=>?_,λA=>by omega⟩;by_cases E:n=0
  .have H:cs=[]:=mXd (by rw[f,E];simp);have Q:ys=[]:=mXd (by omega);refine .inl ⟨H,u _ _ _ h rfl v (λ_ _=>bR.refl _ _) (λ_ _ a _=>a) ?_⟩;rw[Q,mXb,E];exact q
  rcases q.out with⟨d,r,t⟩|⟨D,Z,r,t,o⟩
  .cases r;omega
  cases r;refine .inr ⟨⟨D,xs.length*s.n,none⟩,by simp[dF],?_⟩;have R:Rows s h cs 0 ys:=by have:=y h (bR.refl _ _) [] [];simpa using this
  refine o.write (ys:=ys) N (i:=xs.length) (by omega) (by omega) (by omega) (by rw[f,T]) R (λh' C S o'=>?_);rw[mXL,mXB (by omega),mXb]at o';refine u _ _ _ h' rfl (v.dJ (by simpa using t) C) S (λj U a J=>?_) (o'.buf t (by rw[mQy,T]));refine C j U a ?_;intro B;simp at B;obtain⟨c,M,-⟩:=o.out;rw[B,M]at a;cases a;exact J _ _ rfl
 exact g (by omega)
theorem bA{b:Type}{e:Nat}{s:Sh b}{h:ad}{n:Nat}{cs:List Value}{x:b}(c:h n=some (.cells (List.toArray cs) e (0,0)))(r:s.R h cs x):Sl e s h (.slice (some ⟨n,0,none⟩) 1 1) [x]:=by
 have l:=s.len r;refine Sl.fresh (xs:=[x]) c ⟨by simp[l],λj y a=>?_⟩ (by simp) (by simp);have C:j=0:=by have:=(mQB.1 a).1;simp at this;exact this
 subst C;simp at a;subst a;simp;rw[mXa (by omega)];exact r
theorem Da{A:Ar}[h:bM A]{m:Int}{s n:Nat}:A .cut (some ⟨n,0,none⟩) 0 m s=some ⟨n,0,none⟩:=by
 simp only[h.cut];split
 .rfl
 simp[dF]
theorem aS.nat{A:Ar}[h:bM A](n:Nat):aS (A .nat n) n:=⟨by rw[h.nat];rfl⟩
theorem aS.Ed{A:Ar}[a:bM A]{z:Int}{i:Nat}(h:aS z i):A .aI .lss z 0=false:=by have:=h.eq;rw[bm A];exact mQv (by omega)
theorem LC{f:Type}{e:Nat}{s:Sh f}{h:ad}{n:Nat}{c d:Value}{x y:f}(b:s.n=1)(g:h n=some (.cells (List.toArray [c,d]) e (0,0)))(r:s.R h [c] x)(i:s.R h [d] y):Sl e s h (.slice (some ⟨n,0,none⟩) 2 2) [x,y]:=by
 refine Sl.fresh (xs:=[x,y]) g ⟨by simp[b],λj z a=>?_⟩ (by simp) (by simp)
 match j,a with
 |0,a=>simp at a;subst a;simpa[b]using r
 |1,a=>simp at a;subst a;simpa[b]using i
 |j+2,a=>simp at a
theorem GC{g:Type}{e:Nat}{s:Sh g}{h:ad}{n:Nat}{c d f:Value}{x y w:g}(b:s.n=1)(i:h n=some (.cells (List.toArray [c,d,f]) e (0,0)))(r:s.R h [c] x)(k:s.R h [d] y)(l:s.R h [f] w):Sl e s h (.slice (some ⟨n,0,none⟩) 3 3) [x,y,w]:=by
 refine Sl.fresh (xs:=[x,y,w]) i ⟨by simp[b],λj z a=>?_⟩ (by simp) (by simp)
 match j,a with
 |0,a=>simp at a;subst a;simpa[b]using r
 |1,a=>simp at a;subst a;simpa[b]using k
 |2,a=>simp at a;subst a;simpa[b]using l
 |j+3,a=>simp at a
theorem lH{a:Type}{L:List (List a)}{i:Nat}{x:List a}(h:L[i]? =some x):(L.take (i+1)).flatten=(L.take i).flatten++x:=by rw[mXt,h];simp
theorem zC{a:Type}(L:List (List a))(i:Nat):(L.take i).flatten.length<=L.flatten.length:=by have:=congrArg List.length (congrArg List.flatten (mXo i L));rw[List.flatten_append,mQy]at this;omega
def di(l:List Int):Nat:=uc l 0 l.length
def jG(l:List Int):Bool:=decide (di l<l.length/\l.getD (di l) 0=0)
theorem eXk(l:List Int):di l<=l.length:=(Nt l 0 l.length (mQC _)).1
theorem lr{l:List Int}(h:jG l=true):di l<l.length:=(mQL h).1
theorem Sl.sU{a:Type}{A:Ar}[o:bM A]{e:Nat}{s:Sh a}{h:ad}{b:Option Addr}{n c:Nat}{xs:List a}(q:Sl e s h (.slice b n c) xs){z:Int}{i:Nat}(w:i<=n){m c':Nat}(r:m=i)(p:c'=i):
 Sl e s h (.slice (A .cut b 0 z s.n) m c') (xs.take i):=by
 obtain⟨t,cap,j,u,v,k⟩:=q.out;cases j;subst r p;have l:(xs.take c').length=c':=by rw[mQK];omega
 refine⟨_,_,by rw[l],by rw[l];exact mQD _,by rw[l];omega,?_⟩;rcases k with rfl| ⟨oB,off,d,fr,rfl,g,f⟩
 .simp
 right;refine⟨oB,off,d,fr,?_,g,f.take _⟩;simp only[o.cut];split
 .rfl
 simp[dF]
theorem Sw.le{h h':ad}{a:Addr}{n:Nat}{cs:List Value}(q:Sw h a n cs)(l:Le h h'):Sw h' a n cs:=by obtain⟨b,d,c,e,fr,f,g⟩:=q;exact⟨b,d,c,e,fr,l _ _ f,g⟩
theorem Sl.Ch{d:Type}{A:Ar}[bM A]{e:Nat}{s:Sh d}{h:ad}{b:Option Addr}{len cap:Nat}{xs:List d}(q:Sl e s h (.slice b len cap) xs){i:Nat}{x:d}(hx:xs[i]? =some x){n:Int}(p:n=(i:Int))
 {k:List Value->Prop} (o:∀cs,s.R h cs x->(∀h' a,Le h h'->a cs->Bn h' (A.mS b n s.n) s.n a)->k cs):Bn h (A.mS b n s.n) s.n k:=by
 obtain⟨t,y,j,u,v,m⟩:=q.out;cases j;rcases m with rfl| ⟨oB,off,c,fr,rfl,f,g⟩
 .simp at hx
 subst p;have r:Sw h (A.mS (some ⟨oB,off,none⟩) (i:Int) s.n) s.n ((c.toList.drop (off+i*s.n)).take s.n):=by rw[A.yq];simp only[mS,mXW,mXH,dF];exact pI f g hx
 exact⟨_,r,o _ (g.2 i x hx) (λh' a l w=>⟨_,r.le l,w⟩)⟩
theorem XS{a:Type}{xs:List a}{i:Nat}(x:a)(h:i<xs.length):xs.take i++[x]++xs.drop (i+1)=xs.set i x:=by rw[nQR,if_pos h];simp
theorem fX.setAt{c:Type}{A:Ar}[bM A]{e:Nat}{s:Sh c}{h:ad}{b cap:Nat}{xs:List c}(o:fX e s h b cap xs)(d:e∉s.tys){i:Nat}(f:i<xs.length){n:Int}(p:n=(i:Int)){z:Nat}(X:z=s.n)
 {cs:List Value} {x:c} (hx:s.R h cs x) {k:ad->Prop}
 (g:∀h',Kp [b] h h'->(∀tys,e∉tys->bR tys h h')->fX e s h' b cap (xs.set i x)->k h'):Rn h (A.mS (some ⟨b,0,none⟩) n z) cs k:=by
 subst p X;have l:=s.len hx;have m:=o.le;have M:=o.bd;rw[A.yq];simp only[mS,mXW,mXH,dF,mXj];refine o.write (ys:=[x]) d (i:=i) (by omega) (by simp;omega) (by simp;omega) (by simp[l]) ⟨by simp[l],λj y a=>?_⟩ (λh' q r o'=>g h' q r ?_)
 .have C:j=0:=by have:=(mQB.1 a).1;simp at this;exact this
  subst C;simp at a;subst a;simp;rw[mXa (by omega)];exact hx
 rw[<-XS x f];exact o'
theorem fX.kp{a:Type}{e:Nat}{s:Sh a}{h h':ad}{n cap:Nat}{xs:List a}(o:fX e s h n cap xs){bs:List Nat}(k:Kp bs h h')(g:n∉bs)(t:bR s.tys h h'):fX e s h' n cap xs:=by obtain⟨c,b,d,f⟩:=o.out;exact⟨⟨c,k _ _ b g,d.mono t,f⟩,o.le,o.bd⟩
theorem fX.has{a:Type}{e:Nat}{s:Sh a}{h:ad}{n cap:Nat}{xs:List a}(o:fX e s h n cap xs):h n≠none:=by obtain⟨c,b,-⟩:=o.out;rw[b];simp
theorem cF.kp{c:Type}{e:Nat}{s:Sh c}{h0 h h':ad}{v:Value}{xs:List c}(q:cF e s h0 h v xs){bs:List Nat}(k:Kp bs h h')(f:∀n∈bs,h0 n≠none)(t:bR s.tys h h'):cF e s h0 h' v xs:=by
 rcases q.out with g| ⟨b,cap,d,a,o⟩
 .exact⟨.inl g⟩
 exact⟨.inr ⟨b,cap,d,a,o.kp k (λm=>f b m a) t⟩⟩
theorem Vy{b:Type}{e:Nat}{s:Sh b}{h:ad}{n:Nat}{cs:List Value}{x:b}(c:h n=some (.cells (List.toArray cs) e (0,0)))(r:s.R h cs x):fX e s h n 1 [x]:=by
 have l:=s.len r;refine⟨⟨cs,c,⟨by simp[l],λj y a=>?_⟩,by simp[l]⟩,by simp,by simp⟩;have C:j=0:=by have:=(mQB.1 a).1;simp at this;exact this
 subst C;simp at a;subst a;simp;rw[mXa (by omega)];exact r
theorem Vm{c cs new:List Value}{p off n:Nat}(d:p+n<=c.length)(a:cs=(c.drop p).take n)(l:off+new.length<=n):jS c (p+off) new=jS c p (jS cs off new):=by
 have R:cs.length=n:=by rw[a,mQK,mXg];omega
 have w:(jS cs off new).length=n:=by rw[fD,R]
 apply mXM;intro j;rw[rF new c _ _ (by omega),rF (jS cs off new) c _ _ (by rw[w];exact d),w];by_cases h:p<=j/\j<p+n
 .rw[if_pos h,rF new cs _ _ (by rw[R];exact l)];by_cases b:p+off<=j/\j<p+off+new.length
  .rw[if_pos b,if_pos (by omega)];congr 1;omega
  rw[if_neg b,if_neg (by omega),a,mXl,if_pos (by omega),mXr];congr 1;omega
 rw[if_neg h,if_neg (by omega)]
theorem fX.LS{a:Type}{A:Ar}[E:bM A]{e:Nat}{s:Sh a}{h:ad}{b cap:Nat}{xs:List a}(o:fX e s h b cap xs)(t:e∉s.tys){i:Nat}{x:a}(f:xs[i]? =some x){n:Int}(j:n=(i:Int)){z:Nat}(m:z=s.n)
 {off:Nat} {new:List Value} (v:off+new.length<=s.n) {x':a} (hx:∀cs,s.R h cs x->s.R h (jS cs off new) x') {k:ad->Prop}
 (u:∀h',Kp [b] h h'->(∀tys,e∉tys->bR tys h h')->fX e s h' b cap (xs.set i x')->k h'):Rn h (A .off (A .mS (some ⟨b,0,none⟩) n z) off) new k:=by
 have y:=(mQB.1 f).1;obtain⟨c,d,q,r⟩:=o.out;have hR:=q.2 i x f;rw[mXj]at hR;have w:=o.le;have Y:i*s.n+s.n<=c.length:=by rw[r,<-mXG];exact mXu _ (by omega)
 have key:=(o.setAt (A:=A) t y j m (hx _ hR) (k:=k) u).out;subst j m;rw[A.yq]at key;rw[bM.off (A:=A),bM.mS (A:=A)];simp only[mS,mXW,mXH,dF,mXj]at key |-;obtain⟨c',e',N,B,g,C,D,p⟩:=key;rw[d]at g;cases g;refine⟨c.toArray,e,(0,0),rfl,d,by simp;omega,by simp,λh' l=>p h' ?_⟩;rw[l];simp only;rw[Vm (c:=c) (n:=s.n) Y rfl v]
theorem Sl.vD{f:Type}{A:Ar}[bM A]{e:Nat}{s:Sh f}{h:ad}{b:Option Addr}{len cap:Nat}{xs:List f}(q:Sl e s h (.slice b len cap) xs){i:Nat}{x:f}(hx:xs[i]? =some x){n:Int}(z:n=(i:Int)){o m:Nat}(F:o+m<=s.n)
 {k:List Value->Prop} (w:∀cs,s.R h cs x->(∀h' d,Le h h'->d ((cs.drop o).take m)->Bn h' (A .off (A .mS b n s.n) o) m d)->k ((cs.drop o).take m)):Bn h (A .off (A .mS b n s.n) o) m k:=by
 obtain⟨C,H,t,D,E,u⟩:=q.out;cases t;rcases u with rfl| ⟨oB,off,c,fr,rfl,r,g⟩
 .simp at hx
 subst z;have B:=pI r g hx;have hR:=g.2 i x hx;have a:Sw h (A .off (A .mS (some ⟨oB,off,none⟩) (i:Int) s.n) o) m ((((c.toList.drop (off+i*s.n)).take s.n).drop o).take m):=by rw[bM.mS (A:=A),bM.off (A:=A)];simp only[mS,mXW,mXH,dF];obtain⟨-,y,c',e',N,p,G⟩:=B;refine⟨rfl,by rw[mQK,mXg,y];omega,c',e',N,p,λj v=>?_⟩;have:=G (o+j) (by omega);simp only at this |-;rw[mXl,if_pos v,mXr,<-this];congr 1;omega
 exact⟨_,a,w _ hR (λh' d l T=>⟨_,a.le l,T⟩)⟩
open Go.ChangeMaps (setBlock)
variable {H a:Type}{A:Ar}{n:Int}{l left:List (Value×Value)}{ys:List H}{xs:List a}{bytes cap e i m p r:Nat}{b x:Option Addr}{s:Sh a}{d:TypeDesc}{key:Value}{k:Value->ad->Prop}{h h' h0:ad}
variable {P:Program}
theorem Mp.aJD(q:Mp h m d l):(l.map (·.1)).Nodup:=by obtain⟨e,c,g,a,b,f⟩:=q.out;rw[<-a,mXS];exact b.2.2
theorem bKc{G F I:TypeId}(M:P.underlying G=some (.map F I))(hd:P.underlying F=some d)(q:Mp h m d l){v v0:Value}(r:IsKey d key)(J:l[i]? =some (key,v0))
  (L:∀h',Mp h' m d (l.set i (key,v))->Kp [m] h h'->(∀tys,bR tys h h')->k undef h'):
 fW (λ_=>P) (λ_=>do Instr.mapUpdate G (.map (some m)) key v;pure undef) h k:=
 ⟨λw E=>by
  obtain⟨s,c,g,y,z,A⟩:=q.out;have B:=E _ _ g;have o:s.toList[i]?.map (λe=>(e.key,e.val))=some (key,v0):=by rw[<-mXe,y];exact J
  obtain⟨x,hx,Z⟩:∃x,s.toList[i]? =some x/\(x.key,x.val)=(key,v0):=by
   cases hx:s.toList[i]? with
   |none=>rw[hx]at o;cases o
   |some x=>rw[hx]at o;exact⟨x,rfl,Option.some.inj o⟩
  have V:x.key=key:=(Prod.mk.inj Z).1;rcases findNow_spec r s.toList 0 A with⟨f1,f2⟩|⟨j,e,f1,f2,f3⟩
  .exact absurd V (f2 x (mQz hx))
  have D:=((stamped_iff s c).1 z).2.2;have T:j=i:=by
   have p:=mQB.1 f2;have C:=mQB.1 hx;rcases mZN i j with a|heq|a
   .exfalso;have:=mQZ.1 D i j C.1 p.1 a;rw[C.2,p.2]at this;exact this (V.trans f3.symm)
   .exact heq.symm
   exfalso;have:=mQZ.1 D j i p.1 C.1 a;rw[C.2,p.2]at this;exact this (f3.trans V.symm)
  subst T;rw[hx]at f2;cases f2;have u:s[j]? =some x:=by rw[<-mZj];exact hx
  let f:MapEntry->MapEntry:=λe=>{ e with key:=key,val:=v };have K:∀e,s[j]? =some e->(f e).key=e.key:=λe b=>by
   rw[u]at b;cases b;exact V.symm
  refine⟨undef,_,_,?_,L _ ⟨s.modify j f,c,ae,?_,stamped_modify z j f (λ_ _=>rfl) (λe _ b=>K e b),isKey_modify A j f K⟩ (Kp.set (by simp)) (λtys=>bR.HB g),bW.HB E g⟩
  .have H:(Instr.keyThatStays (((s[j]?).map (·.key)).getD key) key).run P w=.ok key w:=by rw[u];simp only[Option.map_some,mXW,V];exact run_keyThatStays r
   simp[Instr.mapUpdate,run_underlying M,Go.MapKept.run_getObj_map B,run_checkKey hd r,run_findKey hd f1,H,Go.MapKept.run_setObj_map _ B,Result.andThen,f]
  rw[<-y];apply mXM;intro n;rw[mXe,mZj,mJO,mXR,mXe,mZj,mQN];by_cases t:j=n
  .subst t;have a:j<s.toList.length:=(mQB.1 hx).1;rw[if_pos rfl,if_pos rfl,if_pos a,u];rfl
  rw[if_neg t,if_neg t]⟩
structure It(h:ad)(r m:Nat)(left:List (Value×Value))(last:Option (Value×Value)):Prop where
 out:∃es clock since seen c0,h m=some (.map es clock)/\h r=some (.mapIter (some m) since seen c0)/\(∀x∈es.toList,x.born<since)/\since<=c0/\since<=clock/\(es.toList.map (·.born)).Nodup/\
  left=(leftOf es seen).toList.map (λe=>(e.key,e.val))/\∀p,last=some p->∃e∈es.toList,(e.key,e.val)=p/\∃aZd:Array Nat,seen=aZd.push e.born/\c0=clock
theorem It.kp{l:Option (Value×Value)}(q:It h r m left l){bs:List Nat}(k:Kp bs h h')(j:r∉bs)(i:m∉bs):It h' r m left l:=by obtain⟨b,c,s,e,a,d,f,g⟩:=q.out;exact⟨b,c,s,e,a,k _ _ d i,k _ _ f j,g⟩
theorem XT{t i b:TypeId}(x:P.underlying t=some (.map i b))(q:Mp h m d l)
  (K:∀r h',h r=none->Le h h'->It h' r m l none->k (.pointer (some ⟨r,0,none⟩)) h'):
 fW (λ_=>P) (λ_=>Instr.range t (.map (some m))) h k:=
 ⟨λw a=>by
  obtain⟨s,c,g,u,f,z⟩:=q.out;have v:=a _ _ g;have n:h w.heap.size=none:=by
   cases he:h w.heap.size with
   |none=>rfl
   |some o=>have:=a _ _ he;simp at this
  refine⟨_,_,_,run_range_map w t i b m s c x v,K w.heap.size (bU h w.heap.size (.mapIter (some m) c #[] c)) n (Le.set n) ?_,?_⟩
  .have j:m≠w.heap.size:=λe=>by rw[<-e,g]at n;cases n
   refine⟨s,c,c,#[],c,by rw[aO j];exact g,ae,f.1,mQD _,mQD _,f.2.1,?_,λp y=>(by cases y)⟩;rw[<-u];simp[leftOf];rw[List.filter_eq_self.2 (λ_ _=>rfl)]
  exact bW.new a _⟩
theorem xT{a:Array MapEntry}{s:Array Nat}{e:MapEntry}:(leftOf a (s.push e.born)).toList=(leftOf a s).toList.filter (λx=>x.born !=e.born):=by
 simp only[leftOf,mJG,mJh];refine List.filter_congr (λx _=>?_);simp only[nQQ,Array.mem_push,mKI];by_cases hx:x.born=e.born
 .simp[hx]
 by_cases h:x.born∈s<;>simp[hx,h]
theorem aXW{ty:TypeId}{t:Option (Value×Value)}(q:It h r m left t)
  (h0:left=[]->k (.tuple #[.bool false]) h)
 (N:∀key val A h',(key,val)∈left->(∀p∈left,p=(key,val)\/p∈A)->(∀p∈A,p∈left)->A.length<left.length->It h' r m A (some (key,val))->Kp [r] h h'->(∀tys,bR tys h h')->k (.tuple #[.bool true,key,val]) h'):
 fW (λ_=>P) (λ_=>Instr.next (.pointer (some ⟨r,0,none⟩)) false ty) h k:=
 ⟨λw o=>by
  obtain⟨g,l,i,s,B,v,j,C,L,K,D,n,Q⟩:=q.out;rcases run_next_at (P:=P) w ty r m i B s g l (o _ _ j) (o _ _ v) C L with⟨f1,f2⟩|⟨e,f1,u,f2,f3⟩
  .refine⟨_,_,_,f2,h0 ?_,bW.refl o⟩;rw[n];have:(leftOf g s).toList=[]:=by apply mXd;simpa using f1
   rw[this];rfl
  have V:e∈g.toList:=by have:e∈(leftOf g s).toList:=f1;simp only[leftOf,mJG,mXQ]at this;exact this.1
  have J:m≠r:=λe=>by rw[e,j]at v;cases v
  refine⟨_,_,bU h r (.mapIter (some m) i (s.push e.born) l),f3,N e.key e.val ((leftOf g (s.push e.born)).toList.map (λe=>(e.key,e.val))) _ ?_ ?_ ?_ ?_ ?_ (Kp.set (by simp)) ?_,?_⟩
  .rw[n];exact mQW.2 ⟨e,f1,rfl⟩
  .intro p f;rw[n]at f;obtain⟨x,hx,rfl⟩:=mQW.1 f;by_cases d:x.born=e.born
   .left;have M:x∈g.toList:=by simp only[leftOf,mJG,mXQ]at hx;exact hx.1
    obtain⟨a,H⟩:=mXh M;obtain⟨b,z⟩:=mXh V;have:a=b:=by
     obtain⟨W,G⟩:=mQB.1 H;obtain⟨Y,I⟩:=mQB.1 z;have f:=mQZ.1 D;rcases mZN a b with y|heq|y
     .exfalso;have:=f a b (by simpa using W) (by simpa using Y) y;rw[mZr,mZr,G,I]at this;exact this d
     .exact heq
     exfalso;have:=f b a (by simpa using Y) (by simpa using W) y;rw[mZr,mZr,G,I]at this;exact this d.symm
    subst this;rw[H]at z;cases z;rfl
   right;refine mQW.2 ⟨x,?_,rfl⟩;rw[xT,mXQ];exact⟨hx,by simpa using d⟩
  .intro p f;obtain⟨x,hx,rfl⟩:=mQW.1 f;rw[xT,mXQ]at hx;rw[n];exact mQW.2 ⟨x,hx.1,rfl⟩
  .rw[n,mQN,mQN,xT];refine Nat.lt_of_le_of_ne (mZd _ _) (λO=>?_);have:=mKH.1 O e f1;simp at this
  .exact⟨g,l,i,s.push e.born,l,by rw[aO J];exact v,ae,C,K,K,D,rfl,λp f=>by cases f;exact⟨e,V,rfl,s,rfl,rfl⟩⟩
  .intro tys b c e' fr _ d;rw[aO (λe=>by rw[e,j]at d;cases d)];exact d
  have E:u.heap=w.heap/\u.os=w.os/\u.tape=w.tape/\u.output=w.output:=by
   rcases f2 with rfl|rfl
   .exact⟨rfl,rfl,rfl,rfl⟩
   exact⟨rfl,rfl,rfl,rfl⟩
  have d:u.heap[r]? =some (.mapIter (some m) i s B):=by rw[E.1];exact o _ _ j
  have F:=heap_set (o':=Obj.mapIter (some m) i (s.push e.born) l) d;exact bW.set o j F.1 (λb T=>by rw[<-E.1];exact F.2 b T) (by simp[setBlock,E.1]) ⟨E.2.1,E.2.2.1,E.2.2.2⟩⟩
theorem XX{p:Value×Value}(q:It h r m left (some p))(K:k (.tuple #[p.1,p.2]) h):
 fW (λ_=>P) (λ_=>Instr.entry (.pointer (some ⟨r,0,none⟩))) h k:=
 ⟨λw b=>by
  obtain⟨g,c,s,n,f,l,o,v,x,d,t,y,u⟩:=q.out;obtain⟨e,i,j,a,rfl,rfl⟩:=u p rfl;refine⟨_,w,h,run_entry_at w r m s a g f e (b _ _ o) (b _ _ l) i t,?_,bW.refl b⟩;rw[<-j]at K;exact K⟩
structure lQ{α:Type}(e:Nat)(s:Sh α)(h0 h:ad)(v:Value)(xs:List α)(p:Nat):Prop where
 out:(∃b,v=.slice b 0 0/\xs=[])\/∃nb cap pre,v=.slice (some ⟨nb,pre.length*s.n,none⟩) xs.length (cap-pre.length)/\h0 nb=none/\fX e s h nb cap (pre++xs)/\(pre++xs).length<=p
theorem cF.t{v:Value}(q:cF e s h0 h v xs)(d:xs.length<=p):lQ e s h0 h v xs p:=by
 rcases q.out with g| ⟨n,cap,b,c,o⟩
 .exact⟨.inl g⟩
 exact⟨.inr ⟨n,cap,[],by simpa using b,c,by simpa using o,by simpa using d⟩⟩
theorem lQ.sl{v:Value}(q:lQ e s h0 h v xs p):Sl e s h v xs:=by
 rcases q.out with⟨b,rfl,rfl⟩|⟨n,cap,pre,rfl,-,o,-⟩
 .exact Sl.nil
 have l:=o.le;have M:=o.bd;rw[mQy]at l M;obtain⟨c,d,f,g⟩:=o.out;have:=f.drop (i:=pre.length) (by simp);rw[mJF,mXj]at this;exact⟨_,_,rfl,by omega,by omega,.inr ⟨n,_,_,_,rfl,d,this⟩⟩
theorem lQ.mono{b:Type}{s:Sh b}{v:Value}{xs:List b}(q:lQ e s h0 h v xs p)(l:bR (e::s.tys) h h'):lQ e s h0 h' v xs p:=by
 rcases q.out with a| ⟨n,cap,pre,a,c,o,d⟩
 .exact⟨.inl a⟩
 exact⟨.inr ⟨n,cap,pre,a,c,o.mono l,d⟩⟩
theorem lQ.tail{d:Type}[g:bM A]{s:Sh d}{len:Nat}{x:d}{r:List d}(q:lQ e s h0 h (.slice b len cap) (x::r) p){z:Int}(u:aS z 1){c':Nat}(k:m=len-1)(j:c'=cap-1):
 lQ e s h0 h (.slice (A .cut b z (A .nat cap) s.n) m c') r p:=by
 have N:=u.eq;rcases q.out with⟨b,f,a⟩|⟨n,c,pre,f,a,o,t⟩
 .cases a
 cases f;subst k j;have l:=o.le;rw[mQy,mQM]at l;simp only[g.cut,g.nat,mQV];refine⟨?_⟩;by_cases I:((c-pre.length:Nat):Int)=z
 .left;rw[if_pos I];have i:r=[]:=mXd (by omega);refine⟨some ⟨n,pre.length*s.n,none⟩,?_,i⟩;rw[i];simp only[mQM,mQS];rw[show c-pre.length-1=0 by omega]
 right;rw[if_neg I];refine⟨n,c,pre++[x],?_,a,by simpa using o,by simpa using t⟩;simp[dF,N,mXO];omega
theorem lQ.append{s:Sh H}{len n N:Nat}{xs:List H}(q:lQ e s h0 h (.slice b len cap) xs p)(G:Sl e s h (.slice x n N) ys)(R:e∉s.tys){z:Nat}(Y:z=s.n)(Z:bytes<=128)(U:len+n<=2^39)(Zc:p+n<=2^40)(K:len<=p)
  (v:Le h0 h) (w:∀m f c' h',m=len+n->Le h0 h'->(∀tys,e∉tys->bR tys h h')->lQ e s h0 h' (.slice f m c') (xs++ys) (p+n)->(∀j o,h j=some o->(∀c fr,o≠.cells c e fr)->h' j=some o)->k (.slice f m c') h'):
 iU h b len cap x n z bytes e k:=by
 subst Y;obtain⟨cs,J,g,B,C⟩:=G.rX;have l:=q.sl.len;have T:=G.len;refine⟨cs,J,?_⟩;by_cases Ie:len+n<=cap
 .refine⟨B,λ_=>?_,λhg=>by omega⟩;by_cases F:n=0
  .have I:cs=[]:=mXd (by rw[g,F];simp);have Q:ys=[]:=mXd (by omega);refine .inl ⟨I,w _ _ _ h rfl v (λ_ _=>bR.refl _ _) ?_ (λ_ _ a _=>a)⟩;rw[Q,mXb,F];exact q
  rcases q.out with⟨f,t,u⟩|⟨d,M,pre,t,u,o,V⟩
  .cases t;omega
  cases t;have y:=o.le;have sM:=V;rw[mQy]at y sM;refine .inr ⟨⟨d,(pre++xs).length*s.n,none⟩,by simp[dF,mXO],?_⟩;have W:Rows s h cs 0 ys:=by have:=C h (bR.refl _ _) [] [];simpa using this
  refine o.write (ys:=ys) R (i:=(pre++xs).length) (mQD _) (by rw[mQy];omega) (by rw[mQy];omega) (by rw[g,T]) W (λh' E X o'=>?_);rw[mXL,mXB (by omega),mXb,mXk]at o';refine w _ _ _ h' rfl (v.dJ (by simpa using u) E) X ⟨.inr ⟨d,M,pre,by rw[mQy,T],u,o',by simp;omega⟩⟩ (λj A a L=>?_);refine E j A a ?_;intro D;simp at D;obtain⟨c,P,-⟩:=o.out;rw[D,P]at a;cases a;exact L _ _ rfl
 refine CJ q.sl (by omega) rfl Z U B g (ys:=ys) (by rw[T];exact mQD _) (λh' S=>?_) (λd c h' O r e3 o=>?_)
 .have:=C h' (S.t _) [] [];simpa using this
 refine w _ _ _ h' rfl (v.trans r) (λtys _=>r.t tys) ⟨.inr ⟨d,c,[],by simp[l,T],v.none O,by simpa using o,by simp;omega⟩⟩ (λj A a _=>r j A a)
structure zW{α:Type}(s:Sh α)(h:ad)(v:Value)(xs:List α):Prop where
 out:∃b cap,v=.slice b xs.length cap/\xs.length<=2^50/\(xs=[]\/∃oB off c e fr,b=some ⟨oB,off,none⟩/\h oB=some (.cells c e fr)/\Rows s h c.toList off xs)
theorem zW.mono{d:Type}{s:Sh d}{v:Value}{xs:List d}(l:Le h h')(q:zW s h v xs):zW s h' v xs:=by
 obtain⟨b,cap,j,k,a⟩:=q.out;refine⟨b,cap,j,k,?_⟩;rcases a with a| ⟨oB,off,c,e,fr,g,f,i⟩
 .exact .inl a
 exact .inr ⟨oB,off,c,e,fr,g,l _ _ f,i.mono (l.t _)⟩
theorem zW.load[bM A]{len:Nat}(q:zW s h (.slice b len cap) xs){x:a}(hx:xs[i]? =some x)(m:n=(i:Int))
 {k:List Value->Prop} (l:∀cs,s.R h cs x->k cs):Bn h (A.mS b n s.n) s.n k:=by
 obtain⟨o,u,f,p,j⟩:=q.out;cases f;rcases j with rfl| ⟨oB,off,c,e,fr,rfl,d,g⟩
 .simp at hx
 subst m;refine⟨_,?_,l _ (g.2 i x hx)⟩;rw[A.yq];simp only[mS,mXW,mXH,dF];exact pI d g hx
theorem zW.len{len:Nat}(q:zW s h (.slice b len cap) xs):len=xs.length:=by obtain⟨d,j,c,-⟩:=q.out;cases c;rfl
theorem zW.bound{len:Nat}(q:zW s h (.slice b len cap) xs):len<=2^50:=by obtain⟨e,j,c,d,-⟩:=q.out;cases c;exact d
theorem zW.aT{len:Nat}(q:zW s h (.slice b len cap) xs)(l:0<len:=by omega):b.isSome=true:=by
 obtain⟨g,j,d,i,f⟩:=q.out;cases d;rcases f with rfl| ⟨oB,off,c,e,fr,rfl,-⟩
 .simp at l
 rfl
theorem zW.form{v:Value}(q:zW s h v xs):∃b l c,v=.slice b l c:=by obtain⟨b,cap,d,-⟩:=q.out;exact⟨b,_,cap,d⟩
theorem Sl.Ee[bM A]{len:Nat}(q:Sl e s h (.slice b len cap) xs){x:a}(hx:xs[i]? =some x)(p:n=(i:Int)){o1 o2:Nat}(r:o1+o2+m<=s.n)
 {k:List Value->Prop} (l:∀cs,s.R h cs x->k ((cs.drop (o1+o2)).take m)):Bn h (A .off (A .off (A .mS b n s.n) o1) o2) m k:=by
 have:=(q.cC (A:=A) hx p (o:=o1+o2) (m:=m) r l).out;obtain⟨t,z,f,w,y,j⟩:=q.out;cases f;rcases j with rfl| ⟨oB,off,c,fr,rfl,u,v⟩
 .simp at hx
 obtain⟨cs,g,d⟩:=this;refine⟨cs,?_,d⟩;rw[bM.mS (A:=A),bM.off (A:=A)]at g |-;simp only[mS,mXW,dF]at g |-;simpa[mJp]using g
theorem fX.Re{g:Type}{s:Sh g}{b:Nat}{xs ys:List g}(o:fX e s h b cap xs)(t:e∉s.tys)(u:i<=xs.length){n:Nat}(q:Sl e s h (.slice x n r) ys)(C:i+n<=cap)(B:i+n<=2^40)
 {z:Nat} (X:z=s.n) 
 (d:∀h' m,m=i+n->Kp [b] h h'->(∀tys,e∉tys->bR tys h h')->fX e s h' b cap (xs.take i++ys++xs.drop (i+n))->k (.slice (some ⟨b,0,none⟩) m cap) h'):
 iU h (some ⟨b,0,none⟩) i cap x n z bytes e k:=by
 subst X;obtain⟨cs,j,c,l,p⟩:=q.rX;have T:=q.len;refine⟨cs,j,l,λ_=>?_,λD=>by omega⟩;by_cases f:n=0
 .have y:cs=[]:=mXd (by rw[c,f];simp);have a:ys=[]:=mXd (by omega);refine .inl ⟨y,d h _ rfl (Kp.refl _ _) (λ_ _=>bR.refl _ _) ?_⟩;rw[a,mXb,f,mJr,mXo];exact o
 refine .inr ⟨⟨b,i*s.n,none⟩,by simp[dF],?_⟩;have v:Rows s h cs 0 ys:=by have:=p h (bR.refl _ _) [] [];simpa using this
 refine o.write (ys:=ys) t (i:=i) u (by omega) (by omega) (by rw[c,T]) v (λh' w A o'=>?_);rw[<-T]at o';exact d h' _ rfl w A o'
theorem fX.eQY{b:Nat}(o:fX e s h b cap xs)(f:e∉s.tys){n:Nat}{z:List Value}(c:oS z=true)(j:z.length=s.n)(i:xs.length<=p)(d:p+n<=cap){k:ad->Prop}
 (g:∀h',Kp [b] h h'->(∀tys,e∉tys->bR tys h h')->fX e s h' b cap xs->k h'):Bo h (some ⟨b,p*s.n,none⟩) n z k:=by
 refine⟨c,.inr ⟨_,rfl,?_⟩⟩;refine o.bKg f (mXu _ i) ?_ g;rw[gG,j,<-mXO];exact mXu _ d
theorem erase_eq(h:i<xs.length):(xs.take i++xs.drop (i+1)++xs.drop (i+(xs.length-(i+1)))).take (xs.length-1)=xs.eraseIdx i:=by rw[mJE (by simp;omega),mJg,mXa (by simp;omega)]
theorem cXK[h:bM A]{b s off:Nat}(a:n=(i:Int)):A .off (A .mS (some ⟨b,0,none⟩) n s) off=⟨b,i*s+off,none⟩:=by subst a;rw[h.mS,h.off];simp only[mS,mXW,mXH,dF,mXj]
theorem fX.eJT{q β:Type}[I:bM A]{s1:Sh q}{s2:Sh β}(W:s1.n=s2.n)(f:q->β){d:ad}{g:Nat}{xs:List q}(o:fX e s1 h g cap xs)(Q:d g=h g){x:q}(v:xs[i]? =some x)(G:n=(i:Int)){w:Nat}(X:w=s1.n)
 {off:Nat} {new:List Value} (F:off+new.length<=s1.n) {x':β} (hx:∀a cs,Kp [g] d a->(∀tys,e∉tys->bR tys d a)->s1.R h cs x->s2.R a (jS cs off new) x')
 (H:∀a cs j y,Kp [g] d a->(∀tys,e∉tys->bR tys d a)->j≠i->xs[j]? =some y->s1.R h cs y->s2.R a cs (f y)) {k:ad->Prop}
 (E:∀a,Kp [g] d a->(∀tys,e∉tys->bR tys d a)->fX e s2 a g cap ((xs.map f).set i x')->k a):Rn d (A .off (A .mS (some ⟨g,0,none⟩) n w) off) new k:=by
 have J:=(mQB.1 v).1;obtain⟨c,B,u,s⟩:=o.out;have hR:=u.2 i x v;rw[mXj]at hR;have l:=o.le;have Y:i*s1.n+s1.n<=c.length:=by rw[s,<-mXG];exact mXu _ (by omega)
 have t:=Q.trans B;rw[cXK (A:=A) G];subst X;refine⟨c.toArray,e,(0,0),rfl,t,by simp;omega,by simp,λa p=>?_⟩;simp only at p;have C:Kp [g] d a:=by rw[p];exact Kp.set (by simp)
 have P:∀tys,e∉tys->bR tys d a:=λtys D=>by rw[p];exact bR.set t D
 refine E a C P ⟨⟨jS c (i*s1.n+off) new,by rw[p];simp[ae],⟨?_,λj y b=>?_⟩,?_⟩,by simp;exact l,by simp;exact o.bd⟩
 .rw[fD,s,<-W];simp only[mXj,mXv,mQN];exact mXu _ l
 .simp only[mXj];rw[<-W];have Z:jS c (i*s1.n+off) new=jS c (i*s1.n) (jS ((c.drop (i*s1.n)).take s1.n) off new):=Vm Y rfl F;have R:((c.drop (i*s1.n)).take s1.n).length=s1.n:=by rw[mQK,mXg];omega
  rw[mXR]at b;split at b
  .rename_i r;subst r;split at b
   .cases b;rw[Z,Ha (by rw[fD,R];exact Y) (by rw[fD,R])];exact hx a _ C P hR
   cases b
  rename_i r;rw[mXe]at b;cases m:xs[j]? with
  |none=>rw[m]at b;cases b
  |some z=>
   rw[m]at b;simp at b;subst b;have K:=(mQB.1 m).1;rw[Z,vy (by rw[fD,R];exact Y)]
   .have:=u.2 j z m;rw[mXj]at this;exact H a _ j z C P (λe=>r e.symm) m this
   rw[fD,R];rcases mXi j i with P|N
   .left;rw[<-mXG];exact mXu _ P
   right;rw[<-mXG];exact mXu _ (by omega)
 rw[fD,s,W]
def eF(h:ad)(n:Nat):ad:=λb=>if b=n then none else h b
theorem fY(h:ad)(n:Nat):Le (eF h n) h:=λb o a=>by
 unfold eF at a;split at a
 .cases a
 exact a
theorem dP(h:ad)(n:Nat):eF h n n=none:=by unfold eF;rw[if_pos rfl]
theorem cY{n b:Nat}(a:b≠n):eF h n b=h b:=by unfold eF;rw[if_neg a]
theorem cF.Dr{s:Sh H}{len n I:Nat}{xs:List H}(q:cF e s h0 h (.slice b len cap) xs)(G:Sl e s h (.slice x n I) ys)(B:e∉s.tys)(X:i=s.n)(R:bytes<=128)(E:len+n<=2^39)
  (v:Le h0 h) (C:∀m p c' h',m=len+n->Le h0 h'->(∀j o,h j=some o->b≠some ⟨j,0,none⟩->h' j=some o)->cF e s h0 h' (.slice p m c') (xs++ys)->(∀j,p=some ⟨j,0,none⟩->b=some ⟨j,0,none⟩\/h j=none\/m=0)->k (.slice p m c') h'):
 iU h b len cap x n i bytes e k:=by
 rcases q.out with⟨b0,z,u⟩|⟨f,L,z,u,o⟩
 .cases z;have A:cF e s h h (.slice b 0 0) xs:=⟨.inl ⟨b,rfl,u⟩⟩;refine A.append G B X R E (Le.refl _) (λm p c' h' y l t J r=>?_);refine C m p c' h' y (v.trans l) (λj o a _=>l j o a) (r.base v) (λj a=>?_);rcases r.out with⟨w,g,d⟩|⟨D,N,g,d,o2⟩
  .right;right;cases g;rfl
  cases g;cases a;right;left;exact d
 cases z;have A:cF e s (eF h f) h (.slice (some ⟨f,0,none⟩) xs.length cap) xs:=⟨.inr ⟨f,cap,rfl,dP h f,o⟩⟩;refine A.append G B X R E (fY h f) (λm p c' h' y l t J r=>?_);have F:∀j o,h j=some o->j≠f->h' j=some o:=λj o a c=>l j o (by rw[cY c];exact a);have K:Le h0 h':=λj o a=>by
  have c:j≠f:=λe=>by rw[e,u]at a;cases a
  exact F j o (v j o a) c
 refine C m p c' h' y K (λj o a c=>F j o a (λe=>c (by rw[e]))) ?_ (λj a=>?_)
 .rcases r.out with⟨w,g,d⟩|⟨D,N,g,d,o2⟩
  .exact⟨.inl ⟨w,g,d⟩⟩
  refine⟨.inr ⟨D,N,g,?_,o2⟩⟩;by_cases c:D=f
  .rw[c];exact u
  rw[cY c]at d;exact v.none d
 rcases r.out with⟨w,g,d⟩|⟨D,N,g,d,o2⟩
 .right;right;cases g;rfl
 cases g;cases a;by_cases c:j=f
 .left;rw[c]
 right;left;rw[cY c]at d;exact d
variable {P:Program}
theorem Sp{t:TypeId}(b:P.underlying t=some .string){s:ByteArray}
 (K:∀r h',h r=none->h'=bU h r (.stringIter s 0)->k (.pointer (some ⟨r,0,none⟩)) h'):
 fW (λ_=>P) (λ_=>Instr.range t (.string s)) h k:=
 ⟨λw a=>by
  have n:h w.heap.size=none:=by
   cases he:h w.heap.size with
   |none=>rfl
   |some o=>have:=a _ _ he;simp at this
  exact⟨_,_,_,run_range_string w t s b,K w.heap.size _ n rfl,bW.new a _⟩⟩
theorem Wz{s:ByteArray}(h:p<s.size):(s[p]'h).toNat=(s.data.getD p 0).toNat:=by
 have h':p<s.data.size:=h;have e:s.data.getD p 0=s[p]'h:=by simp only[Array.getD];rw[dif_pos h'];rfl
 rw[e]
theorem XV{ty:TypeId}{s:ByteArray}(g:h r=some (.stringIter s p))(e:∀i,i<s.size->(s.data.getD i 0).toNat<128)
  (h0:s.size<=p->k (.tuple #[.bool false]) h)
 (K:∀h',p<s.size->h'=bU h r (.stringIter s (p+1))->k (.tuple #[.bool true,.int .i64 p,.int .i32 (s.data.getD p 0).toNat]) h'):
 fW (λ_=>P) (λ_=>Instr.next (.pointer (some ⟨r,0,none⟩)) true ty) h k:=
 ⟨λw d=>by
  have c:=d _ _ g;have f:r<w.heap.size:=by
   rcases mXi r w.heap.size with b|b
   .exact b
   rw[nXc b]at c;cases c
  by_cases a:p<s.size
  .have hd:=decode_ascii s p a (by rw[Wz a];exact e p a);have b:=heap_set (o':=Obj.stringIter s (p+1)) c;refine⟨_,{ w with heap:=w.heap.setIfInBounds r (.stringIter s (p+1)) },bU h r (.stringIter s (p+1)),?_,K _ a rfl,bW.set d g b.1 b.2 (by simp) ⟨rfl,rfl,rfl⟩⟩;rw[Wz a]at hd;simp[Instr.next,getObj,setObj,mQY,Sem.run,c,Result.andThen,a,hd,goInt]
  refine⟨_,w,h,?_,h0 (by omega),bW.refl d⟩;simp[Instr.next,getObj,Sem.run,c,a]⟩
variable {P:Program}
theorem XW{i f t:TypeId}(v:P.underlying i=some (.map f t))(hd:P.underlying f=some d){z:Value}(y:∀w,(zeroValue t).run P w=.ok z w)(q:Mp h m d l)(a:IsKey d key)(F:∀p∈l,p.1≠key)
  (K:k (.tuple #[z,.bool false]) h):fW (λ_=>P) (λ_=>Instr.lookup i (.map (some m)) key true) h k:=
 ⟨λw b=>by
  obtain⟨s,c,g,o,A,r⟩:=q.out;have u:=b _ _ g;have n:∀x∈s.toList,x.key≠key:=λx hx=>by
   have:(x.key,x.val)∈l:=by rw[<-o];exact mQW.2 ⟨x,hx,rfl⟩
   exact F _ this
  rcases findNow_spec a s.toList 0 r with⟨f1,_⟩|⟨j,e,f1,f2,f3⟩
  .refine⟨.tuple #[z,.bool false],w,h,?_,K,bW.refl b⟩;simp[Instr.lookup,run_underlying v,Go.MapKept.run_getObj_map u,run_checkKey hd a,run_findKey hd f1,y,Result.andThen]
  exact absurd f3 (n e (mQz f2))⟩
theorem BM{u t y:TypeId}(F:P.underlying u=some (.map t y))(hd:P.underlying t=some d)(q:Mp h m d l){v:Value}(o:IsKey d key)(n:(key,v)∈l)
  (K:k (.tuple #[v,.bool true]) h):fW (λ_=>P) (λ_=>Instr.lookup u (.map (some m)) key true) h k:=
 ⟨λw r=>by
  obtain⟨s,c,g,z,A,B⟩:=q.out;have D:=r _ _ g;rw[<-z]at n;obtain⟨x,hx,E⟩:=mQW.1 n;cases E;rcases findNow_spec o s.toList 0 B with⟨f1,f2⟩|⟨j,e,f1,f2,f3⟩
  .exact absurd rfl (f2 x hx)
  have Z:e=x:=by
   have p:=((stamped_iff s c).1 A).2.2;obtain⟨i,b⟩:=mXh hx;rcases mZN i j with f|rfl|f
   .exfalso;have a:=(mQB.1 f2);have C:=(mQB.1 b);have:=mQZ.1 p i j C.1 a.1 f;rw[C.2,a.2]at this;exact this f3.symm
   .rw[f2]at b;exact Option.some.inj b
   exfalso;have a:=(mQB.1 f2);have C:=(mQB.1 b);have:=mQZ.1 p j i a.1 C.1 f;rw[C.2,a.2]at this;exact this f3
  subst Z;refine⟨_,w,h,?_,K,bW.refl r⟩;simp[Instr.lookup,run_underlying F,Go.MapKept.run_getObj_map D,run_checkKey hd o,run_findKey hd f1,Result.andThen]⟩
end Go.Sx
