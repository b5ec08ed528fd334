import Derived.Test.YthnbpiejemlbeaaGreatSxB
import Derived.Laws.LoneSync
import Derived.Lib.Bytealg
import Derived.Maps.RangeRun
set_option linter.all false
namespace Go.Sx
def Le(h h':ad):Prop:=∀b o,h b=some o->h' b=some o
theorem Le.refl(h:ad):Le h h:=λ_ _ x=>x
theorem Le.trans{a b c:ad}(x:Le a b)(y:Le b c):Le a c:=λk o q=>y k o (x k o q)
theorem Le.set{h:ad}{n:Nat}{o:Obj}(c:h n=none):Le h (bO h n o):=λb q a=>by
 grind [bO]
theorem ae{h:ad}{n:Nat}{o:Obj}:bO h n o n=some o:=by unfold bO;grind
theorem zqs{h h':ad}{n:Nat}{o:Obj}(e:h'=bO h n o)(c:h n=none):Le h h':=by rw[e];exact Le.set c
theorem zqt{h h':ad}{n:Nat}{o:Obj}(e:h'=bO h n o):h' n=some o:=by rw[e];exact ae
theorem cH{h:ad}{n b:Nat}{o:Obj}(a:b≠n):bO h n o b=h b:=by unfold bO;rw[if_neg a]
theorem eI{h:ad}{n:Nat}{o o':Obj}:bO (bO h n o) n o'=bO h n o':=by funext b;unfold bO;split<;>rfl
def cX(tys:List Nat)(h h':ad):Prop:=∀b c e fr,e∈tys->h b=some (.cells c e fr)->h' b=some (.cells c e fr)
theorem Le.t{h h':ad}(x:Le h h')(tys:List Nat):cX tys h h':=λb c e fr _ q=>x b _ q
theorem cX.refl(tys:List Nat)(h:ad):cX tys h h:=λ_ _ _ _ _ x=>x
theorem cX.trans{tys:List Nat}{a b c:ad}(x:cX tys a b)(y:cX tys b c):cX tys a c:=λk d e fr m q=>y k d e fr m (x k d e fr m q)
theorem cX.set{tys:List Nat}{h:ad}{n e:Nat}{c:Array Value}{fr:Nat×Nat}{o:Obj}(i:h n=some (.cells c e fr))(g:e∉tys):cX tys h (bO h n o):=λb d a L m f=>by
 grind [bO]
theorem cX.sub{tys d:List Nat}{h h':ad}(x:cX tys h h')(s:∀t∈d,t∈tys:=by decide):cX d h h':=λb c e fr m q=>x b c e fr (s e m) q
structure Sh(α:Type)where
 n:Nat
 R:ad->List Value->α->Prop
 len:∀ {h cs x},R h cs x->cs.length=n
 one:∀ {h cs x},R h cs x->jL cs=true
 tys:List Nat
 mono:∀ {h h' cs x},cX tys h h'->R h cs x->R h' cs x
def Rows{α:Type}(s:Sh α)(h:ad)(c:List Value)(off:Nat)(xs:List α):Prop:=
 off+xs.length*s.n<=c.length/\∀i x,xs[i]? =some x->s.R h ((c.drop (off+i*s.n)).take s.n) x
theorem Rows.mono{a:Type}{s:Sh a}{h h':ad}{c:List Value}{off:Nat}{xs:List a}(hl:cX s.tys h h')(r:Rows s h c off xs):Rows s h' c off xs:=
 ⟨r.1,λi x hx=>s.mono hl (r.2 i x hx)⟩
structure Sl{α:Type}(e:Nat)(s:Sh α)(h:ad)(v:Value)(xs:List α):Prop where
 out:∃b cap,v=.slice b xs.length cap/\xs.length<=cap/\xs.length<=2^40/\
  (xs=[]\/∃lQ off c fr,b=some ⟨lQ,off,none⟩/\h lQ=some (.cells c e fr)/\Rows s h c.toList off xs)
theorem Sl.mono{d:Type}{e:Nat}{s:Sh d}{h h':ad}{v:Value}{xs:List d}(hl:cX (e::s.tys) h h')(q:Sl e s h v xs):Sl e s h' v xs:=by
 obtain⟨b,cap,j,k,l,a⟩:=q.out;refine⟨b,cap,j,k,l,?_⟩;rcases a with a| ⟨lQ,off,c,fr,g,f,i⟩
 .exact .inl a
 exact .inr ⟨lQ,off,c,fr,g,hl _ _ _ _ io f,i.mono (hl.sub λt m=>by simp[m])⟩
def wh{α:Type}(e:Nat)(s:Sh α):Sh (List α)where
 n:=1
 R h cs xs:=∃v,cs=[v]/\Sl e s h v xs
 len:=gg
 one:=by rintro h cs x ⟨v,rfl,q⟩;obtain⟨b,cap,rfl,-⟩:=q.out;rfl
 tys:=e::s.tys
 mono:=by rintro h h' cs x hl ⟨v,rfl,q⟩;exact⟨v,rfl,q.mono hl⟩
theorem oM{a:Type}{s:Sh a}{h:ad}{c:Array Value}{e:Nat}{fr:Nat×Nat}{l off:Nat}{xs:List a}(b:h l=some (.cells c e fr))(r:Rows s h c.toList off xs){i:Nat}{x:a}
 (hx:xs[i]? =some x):Pm h ⟨l,off+i*s.n,none⟩ s.n ((c.toList.drop (off+i*s.n)).take s.n):=by
 refine⟨rfl,s.len (r.2 i x hx),c,e,fr,b,λj d=>?_⟩
 grind
theorem Sl.load{a:Type}{A:Ar}[bM A]{e:Nat}{s:Sh a}{h:ad}{b:Option Addr}{len cap:Nat}{xs:List a}(q:Sl e s h (.slice b len cap) xs){i:Nat}{x:a}(hx:xs[i]? =some x){n:Int}(l:n=(i:Int))
 {k:List Value->Prop} (j:∀cs,s.R h cs x->k cs):Ai h (A.jt b n s.n) s.n k:=by
 obtain⟨m,B,d,p,r,f⟩:=q.out;cases d;rcases f with rfl| ⟨lQ,off,c,fr,rfl,o,g⟩
 .simp at hx
 subst l;refine⟨_,?_,j _ (g.2 i x hx)⟩;rw[A.xA]
 grind [jt,cQ,oM,hx]
theorem Sl.len{a:Type}{e:Nat}{s:Sh a}{h:ad}{b:Option Addr}{len cap:Nat}{xs:List a}(q:Sl e s h (.slice b len cap) xs):len=xs.length:=by obtain⟨d,i,c,-⟩:=q.out;cases c;rfl
theorem Sl.bu{a:Type}{e:Nat}{s:Sh a}{h:ad}{b:Option Addr}{len cap:Nat}{xs:List a}(q:Sl e s h (.slice b len cap) xs)(hl:0<len:=by omega):b.isSome=true:=by
 obtain⟨c,B,d,f,g,i⟩:=q.out
 grind
theorem Sl.bound{a:Type}{e:Nat}{s:Sh a}{h:ad}{b:Option Addr}{len cap:Nat}{xs:List a}(q:Sl e s h (.slice b len cap) xs):len<=2^40/\len<=cap:=by
 obtain⟨c,i,d,f,g,-⟩:=q.out
 grind
theorem Sl.lr{d:Type}{e:Nat}{s:Sh d}{h:ad}{b:Option Addr}{len cap:Nat}{xs:List d}(q:Sl e s h (.slice b len cap) xs):
 ∃cs,bZg h b (len*s.n) cs/\cs.length=len*s.n/\jL cs=true/\∀h',cX s.tys h h'->∀p r,Rows s h' (p++cs++r) p.length xs:=by
 obtain⟨t,B,k,u,v,l⟩:=q.out;cases k;rcases l with rfl| ⟨lQ,off,c,fr,rfl,f,g⟩
 .exact⟨[],.inl ⟨io,rfl⟩,io,rfl,λh' _ p r=>⟨io,λi x hx=>by simp at hx⟩⟩
 refine⟨(c.toList.drop off).take (xs.length*s.n),.inr ⟨_,rfl,rfl,?_,c,e,fr,f,λj o=>?_⟩,?_,?_,λh' hl p r=>⟨?_,λi x hx=>?_⟩⟩
 .have:=g.1;grind
 .grind
 .have:=g.1;grind
 ·-- jL
  have key:∀m,m<=xs.length->jL ((c.toList.drop off).take (m*s.n))=true:=λm=>by
   induction m with
   |zero=>intro _;simp[jL]
   |succ m A=>
    intro z;have hx:xs[m]? =some xs[m]:=gg
    have a:=s.one (g.2 m _ hx);have w:(c.toList.drop off).take ((m+1)*s.n)=(c.toList.drop off).take (m*s.n)++(c.toList.drop (off+m*s.n)).take s.n:=by rw[kZi,List.take_add,kJO]
    grind [Dz]
  grind
 .have:=g.1;grind
 have a:=g.2 i x hx;have n:i<xs.length:=(HH.1 hx).1;have y:=g.1;have e1:i*s.n+s.n<=xs.length*s.n:=by rw[<-kZi];exact kZg _ n
 have:((p++(c.toList.drop off).take (xs.length*s.n)++r).drop (p.length+i*s.n)).take s.n=(c.toList.drop (off+i*s.n)).take s.n:=by
  apply kZq;intro j;simp only[kZo];split
  .rename_i o;rw[kXz,kJk,kXV ip,kQU gg,kZo,if_pos ip,kXz,kXz];congr 1;omega
  rfl
 rw[this];exact s.mono hl a
theorem Sl.fresh{a:Type}{e:Nat}{s:Sh a}{h:ad}{n:Nat}{c:List Value}{xs:List a}{cap:Nat}(b:h n=some (.cells c.toArray e (0,0)))(r:Rows s h c 0 xs)(hl:xs.length<=2^40)(d:xs.length<=cap):
 Sl e s h (.slice (zsA n) xs.length cap) xs:=
 ⟨zsA n,cap,rfl,d,hl,.inr ⟨n,0,c.toArray,(0,0),rfl,b,iu r⟩⟩
theorem Sl.nil{a:Type}{e:Nat}{s:Sh a}{h:ad}{b:Option Addr}{cap:Nat}:Sl e s h (.slice b 0 cap) ([]:List a):=
 ⟨b,cap,rfl,io,io,.inl rfl⟩
theorem bm{t:Bool}{x y:Unit->Prop}(h:t=true->x ())(a:t=false->y ()):QL t x y:=by
 cases t
 .exact a rfl
 exact h rfl
structure dt{α:Type}(e:Nat)(s:Sh α)(h:ad)(nb cap:Nat)(xs:List α):Prop where
 out:∃c,h nb=zcL e c/\Rows s h c 0 xs/\c.length=cap*s.n
 le:xs.length<=cap
 bd:xs.length<=2^40
theorem dt.sl{a:Type}{e:Nat}{s:Sh a}{h:ad}{b cap:Nat}{xs:List a}(o:dt e s h b cap xs){n:Nat}(g:n=xs.length):Sl e s h (.slice (zsA b) n cap) xs:=by obtain⟨c,d,f,-⟩:=o.out;subst g;exact Sl.fresh d f o.bd o.le
theorem dt.mono{a:Type}{e:Nat}{s:Sh a}{h h':ad}{n cap:Nat}{xs:List a}(hl:cX (e::s.tys) h h')(o:dt e s h n cap xs):dt e s h' n cap xs:=by obtain⟨c,b,d,f⟩:=o.out;exact⟨⟨c,hl _ _ _ _ io b,d.mono (hl.sub λt g=>by simp[g]),f⟩,o.le,o.bd⟩
theorem dG{g:Type}{e:Nat}{s:Sh g}{h:ad}{x:Option Addr}{n j:Nat}{xs:List g}(q:Sl e s h (.slice x n j) xs)(B:e∉s.tys){a:Option Addr}{size bytes:Nat}(A:size=s.n)(y:bytes<=128)
 {k:Value->ad->Prop} (v:n=0->k (.slice a 0 0) h)
 (S:∀b cap h',h b=none->0<n->Le h h'->dt e s h' b cap xs->k (.slice (zsA b) n cap) h'):iF h a 0 0 x n size bytes e k:=by
 subst A;obtain⟨cs,o,p,t,u⟩:=q.lr;have f:=q.len;obtain⟨E,Q⟩:=q.bound;refine⟨cs,o,t,λC=>?_,λD=>?_⟩
 .have w:n=0:=ip
  have i:cs=[]:=kZh gg;subst w;exact .inl ⟨i,v rfl⟩
 refine⟨?_,?_,[],.inl ⟨io,rfl⟩,λb c h' r e1 z m d=>?_⟩
 .have G:(2:Nat)^40=1099511627776:=rfl;have W:(2:Nat)^48=281474976710656:=rfl;have:2*(0+n)*bytes<=2*(0+n)*128:=kZF _ y;omega
 .grind
 have l:Le h h':=zqs d e1
 have:=S b c h' e1 ip l ⟨⟨cs++r,?_,?_,?_⟩,ip,ip⟩
 .simpa using this
 .rw[d,ae];simp
 .have:=u h' (l.t _) [] r
  grind
 simp only[kXy,p,m];rw[<-kXh];congr 1;omega
def wo:Env->List (Nat×SV)->Env
 |env,[]=>env
 |env,(t,x)::r=>wo (env.set t x) r
def Wy:Env->List Nat->Env
 |env,[]=>env
 |env,t::r=>Wy (env.set t .u) r
theorem ba.go{G:Type}{ws:List Nat}{b:(Ex->Env->Loc->ad->Prop)->Env->Loc->ad->Prop}{K:Ex->Env->Loc->ad->Prop}{env:Env}{L:Loc}{h:ad}
 (v:G->List (Nat×SV)) (l:G->Loc) (I:Nat->G->ad->Prop) (k:Nat) (a:G)
 (w:Wk env L (wo (Wy env ws) (v a)) (l a)) (i:I k a h)
 (step:∀n g h',I n g h'->b (λe Y L' t=>match e with
  | .normal=>∃m c,m<n/\Wk Y L' (wo (Wy env ws) (v c)) (l c)/\I m c t
  |e=>K e Y L' t) (wo (Wy env ws) (v g)) (l g) h'):ba ws b K env L h:=
 ⟨λn j d f=>∃g,j=wo (Wy env ws) (v g)/\d=l g/\I n g f,k,⟨_,_,w,a,rfl,rfl,i⟩,λn j d f ⟨g,e1,o,i⟩=>by
  grind⟩
theorem ba.gz{G:Type}{ws:List Nat}{b:(Ex->Env->Loc->ad->Prop)->Env->Loc->ad->Prop}{K:Ex->Env->Loc->ad->Prop}{env:Env}{L:Loc}{h:ad}(v:G->List (Nat×SV))(l:G->Loc)(I:Nat->G->ad->Prop)(k:Nat)(a:G)(i:I k a h)(step:∀n g h',I n g h'->b (λe Y L' t=>match e with
  | .normal=>∃m c,m<n/\Wk Y L' (wo (Wy env ws) (v c)) (l c)/\I m c t
  |e=>K e Y L' t) (wo (Wy env ws) (v g)) (l g) h')(w:Wk env L (wo (Wy env ws) (v a)) (l a):=by constructor<;>cbv):ba ws b K env L h:=ba.go v l I k a w i step
theorem zqn{G:Type}{n:Nat}{a:Env}{b:Loc}{c:G->Env}{d:G->Loc}{I:Nat->G->Prop}(m:Nat)(g:G)(l:m<n)(i:I m g)(w:Wk a b (c g) (d g):=by constructor<;>cbv):∃m g,m<n/\Wk a b (c g) (d g)/\I m g:=⟨m,g,l,w,i⟩
theorem zqc{G:Type}{a:Env}{b:Loc}{c:G->Env}{d:G->Loc}{I:G->Prop}(g:G)(i:I g)(w:Wk a b (c g) (d g):=by constructor<;>cbv):∃g,Wk a b (c g) (d g)/\I g:=⟨g,w,i⟩
theorem zqr{P K:Unit->Prop}(h:K ())(a:P ():=by exact⟨_,rfl,rfl⟩):vI P K:=⟨a,h⟩
def Kp(bs:List Nat)(h h':ad):Prop:=∀b o,h b=some o->b∉bs->h' b=some o
theorem Kp.refl(bs:List Nat)(h:ad):Kp bs h h:=λ_ _ x _=>x
theorem Kp.trans{bs:List Nat}{a b c:ad}(x:Kp bs a b)(y:Kp bs b c):Kp bs a c:=λk o q h=>y k o (x k o q h) h
theorem Le.kp{h h':ad}(x:Le h h')(bs:List Nat):Kp bs h h':=λb o q _=>x b o q
theorem Kp.set{bs:List Nat}{h:ad}{n:Nat}{o:Obj}(c:n∈bs):Kp bs h (bO h n o):=λb q a k=>by
 grind [cH]
theorem Kp.sub{bs y:List Nat}{h h':ad}(x:Kp bs h h')(s:∀b∈bs,b∈y:=by decide):Kp y h h':=λb o q k=>x b o q (λe=>k (s b e))
theorem Le.bf{h a c:ad}{bs:List Nat}(x:Le h a)(n:∀b∈bs,h b=none)(y:Kp bs a c):Le h c:=λb o q=>y b o (x b o q) (λe=>gg)
theorem Le.none{h h':ad}(x:Le h h'){b:Nat}(q:h' b=none):h b=none:=by
 cases a:h b with
 |none=>rfl
 |some o=>rw[x b o a]at q;cases q
theorem Md{a:Type}{s:Sh a}{h:ad}{c:List Value}:Rows s h c 0 []:=⟨io,λi x hx=>by simp at hx⟩
theorem tI{f:Type}{e:Nat}{s:Sh f}{h:ad}{l:Nat}{A:Ar}[bM A]{bytes:Nat}{z:List Value}{k:Value->ad->Prop}(d:z.length=s.n)(hl:l<=2^40)(b:bytes<=128)
 (c:∀n h',h n=none->Le h h'->dt e s h' n l []->k (.slice (zsA n) l l) h'):
 rk h e (A .nat l) (A .nat l) bytes z k:=by
 have S:(2:Nat)^40=1099511627776:=rfl;have W:(2:Int)^48=281474976710656:=rfl;rw[bM.nat (A:=A)];refine⟨gg,⟨gg,?_⟩,λn h' e1 a=>?_⟩
 .rw[W];simp only[kZn];have:bytes*l<=128*l:=kZg _ b
  grind
 simp only[kZn,kJL]at a |-;refine c n h' e1 (zqs a e1) ⟨⟨iT l z,by rw[a,ae],Md,?_⟩,io,io⟩;rw[gF,d]
theorem nf:∀(s:List Value) (c:List Value) (o j:Nat),o+s.length<=c.length->(iv c o s)[j]? =if o<=j/\j<o+s.length then s[j-o]? else c[j]?
 | [],c,o,j,_=>by simp[iv];omega
 |v::r,c,o,j,hl=>by
  simp only[kZs]at hl;unfold iv;rw[nf r (c.set o v) (o+1) j (by simp;omega)];by_cases h:o+1<=j/\j<o+1+r.length
  .rw[if_pos h,if_pos ⟨ip,by simp;omega⟩];rw[show j-o=(j-(o+1))+1 by omega];simp
  rw[if_neg h];by_cases a:o=j
  .subst a;rw[if_pos ⟨qA _,io⟩];simp[kXU (show o<c.length by omega)]
  rw[kJK a,if_neg (by simp;omega)]
theorem FC{v c:List Value}{o n:Nat}(hl:o+v.length<=c.length)(h:n=v.length):((iv c o v).drop o).take n=v:=by
 subst h;apply kZq;intro j
 grind [nf]
theorem uz{v c:List Value}{o p n:Nat}(hl:o+v.length<=c.length)(hd:p+n<=o\/o+v.length<=p):((iv c o v).drop p).take n=(c.drop p).take n:=by
 apply kZq;intro j
 grind [nf]
theorem dt.store{f:Type}{A:Ar}[bM A]{e:Nat}{s:Sh f}{h:ad}{b cap:Nat}{xs:List f}(o:dt e s h b cap xs)(u:e∉s.tys){i:Nat}(E:i<=xs.length)(r:i<cap)(D:cap<=2^40){n:Int}(B:n=(i:Int)){z:Nat}(C:z=s.n)
 {cs:List Value} {x:f} (hx:s.R h cs x) {k:ad->Prop}
 (v:∀h',Kp [b] h h'->(∀tys,e∉tys->cX tys h h')->dt e s h' b cap (if i<xs.length then xs.set i x else xs++[x])->k h'):Hy h (A.jt (zsA b) n z) cs k:=by
 subst B C;obtain⟨c,g,q,d⟩:=o.out;have l:=s.len hx;have w:=o.le;have G:i*s.n+s.n<=c.length:=by rw[d,<-kZi];exact kZg _ r
 rw[A.xA];simp only[jt,kZY,kJL,cQ,kJe];refine⟨c.toArray,e,(0,0),rfl,g,by simp;omega,io,λh' a=>?_⟩;have t:∀tys,e∉tys->cX tys h h':=λtys V=>by rw[a];exact cX.set g V
 refine v h' (by rw[a];exact Kp.set io) t ⟨⟨iv c (i*s.n) cs,by rw[a];simp[ae],?_,by rw[fE,d]⟩,?_,?_⟩
 .have p:=t s.tys u;have N:∀j y,(if i<xs.length then xs.set i x else xs++[x])[j]? =some y->(j=i/\y=x)\/(j≠i/\xs[j]? =some y):=λj y m=>by
   grind
  refine⟨?_,λj y m=>?_⟩
  .rw[fE,d];simp only[kJe];refine kZg _ ?_
   grind
  simp only[kJe];rcases N j y m with⟨rfl,rfl⟩|⟨V,J⟩
  .rw[FC ip l.symm];exact s.mono p hx
  have H:j<xs.length:=(HH.1 J).1;rw[uz ip]
  .have:=q.2 j y J;simp only[kJe]at this;exact s.mono p this
  rcases kKf j i with Z|F
  .left;rw[<-kZi];exact kZg _ Z
  right;rw[l,<-kZi];exact kZg _ ip
 .grind
 grind
theorem Sl.form{a:Type}{e:Nat}{s:Sh a}{h:ad}{v:Value}{xs:List a}(q:Sl e s h v xs):∃b l c,v=.slice b l c:=by
 obtain⟨b,cap,d,-⟩:=q.out
 grind
structure bg(z:Int)(i:Nat):Prop where
 eq:z=(i:Int)
theorem bg.ix{z:Int}{i len:Nat}(a:bg z i)(h:i<len):0<=z/\z<(len:Int):=by have:=a.eq;omega
theorem bg.lt{A:Ar}[h:bM A]{z:Int}{i len:Nat}(a:bg z i)(c:A .aQ .lss z (A .nat len)=true):i<len:=by have:=a.eq;simp only[h.nat,h.aQ,aQ,kJP,kZn]at c;omega
theorem bg.ge{A:Ar}[h:bM A]{z:Int}{i len:Nat}(a:bg z i)(c:A .aQ .lss z (A .nat len)=false):len<=i:=by have:=a.eq;simp only[h.nat,h.aQ,aQ,decide_eq_false_iff_not,kZn]at c;omega
theorem bg.succ{A:Ar}[h:bM A]{z:Int}{i:Nat}(a:bg z i)(b:i<2^62:=by omega):bg (A .aX .add .i64 z 1) (i+1):=by constructor;have:=a.eq;rw[h.aX];simp only[aX];rw[IntWalk.i64_in _ ip];omega
theorem cK{a:Type}(xs:List a)(i:Nat)(h:i<xs.length:=by omega):∃x,xs[i]? =some x:=⟨xs[i],by simp[h]⟩
theorem ay{a:Type}{xs:List a}{i:Nat}(h:i<xs.length):∃x,xs[i]? =some x:=⟨xs[i],by simp[h]⟩
variable {P:Program}
theorem fL.ext{f:FuncId}{args:List Value}{h:ad}{k:Value->ad->Prop}
 (r:∀w,Eo h w->∃v w' h',(callFunc f args.toArray).run P w=.ok (.value v) w'/\k v h'/\cj h w h' w'):fL (λ_=>P) (λ_=>Da f args) h k:=
 ⟨λw d=>by
  obtain⟨v,w',h',a,b,c⟩:=r w d;refine⟨v,w',h',?_,b,c⟩;simp only[Da];rw[kKm,a];rfl⟩
structure jJ(P:Program)(f:FuncId)(fn:Func):Prop where
 hf:P.funcs[f]? =some fn
 wX:(fn.name== "runtime.NumGoroutine")=false
 hb:fn.body.isNone=true
 hn:Extern.findNext fn=none
structure oJ(h:ad)(a:Addr)(v:Value):Prop where
 out:a.spot=none/\∃c e,h a.block=some (.cells c e (0,0))/\c[a.off]? =some v
theorem oJ.cell{h:ad}{a:Addr}{v:Value}(c:oJ h a v){w:World}(g:Eo h w):w.cell? a=some v/\w.frozen? a=false:=by
 obtain⟨d,c,e,b,f⟩:=c.out;have b:=g _ _ b;constructor
 .simp[World.cell?,b,d,f]
 simp[World.frozen?,b]
theorem oJ.set{h:ad}{a:Addr}{v:Value}(q:oJ h a v)(x:Value){k:ad->Prop}(j:∀c e h',h a.block=some (.cells c e (0,0))->h'=bO h a.block (.cells (c.setIfInBounds a.off x) e (0,0))->k h'){w:World}(f:Eo h w):
 ∃h',k h'/\cj h w h' (w.setCell a x):=by
 obtain⟨g,c,e,d,l⟩:=q.out;refine⟨_,j c e _ d rfl,?_⟩;refine cj.set f d ?_ ?_ ?_ ?_
 .simp[World.setCell,kKi,f _ _ d,g]
 .intro b i;simp[World.setCell,kKi,Ne.symm i]
 .simp[World.setCell]
 exact⟨rfl,rfl,rfl⟩
theorem yh{f:FuncId}{fn:Func}(o:jJ P f fn)(m:Mark)(e:Extern.find fn=some (λ_=>do mark m;pure Extern.Race.none_)){h:ad}{k:Value->ad->Prop}(a:k (.tuple #[]) h):
 fL (λ_=>P) (λ_=>Da f []) h k:=
 fL.ext λw b=>⟨_,w,h,run_call_mark0 o.hf o.wX o.hb o.hn m e w,a,cj.refl b⟩
theorem GN{f:FuncId}{fn:Func}(o:jJ P f fn)(m:Addr->Mark)(e:Extern.find fn=some (Extern.Race.marked m)){a:Addr}{h:ad}{k:Value->ad->Prop}(b:k (.tuple #[]) h):
 fL (λ_=>P) (λ_=>Da f [.pointer (some a)]) h k:=
 fL.ext λw c=>⟨_,w,h,run_call_marked o.hf o.wX o.hb o.hn m e a w,b,cj.refl c⟩
theorem Nx{f:FuncId}{fn:Func}(o:jJ P f fn){j:IntKind}(e:Extern.find fn=some (Extern.Atomic.loadT (.int j))){a:Addr}{h:ad}{x:Int}(c:oJ h a (.int j x)){k:Value->ad->Prop}(d:k (.int j x) h):
 fL (λ_=>P) (λ_=>Da f [.pointer (some a)]) h k:=
 fL.ext λw b=>⟨_,w,h,run_call_load o.hf o.wX o.hb o.hn j e (c.cell b).1,d,cj.refl b⟩
theorem bQm{f:FuncId}{fn:Func}(o:jJ P f fn){j:IntKind}(l:Extern.find fn=some (Extern.Atomic.casT (.int j))){a:Addr}{h:ad}{x y:Int}(b:oJ h a (.int j x)){k:Value->ad->Prop}
 (m:∀c e h',h a.block=some (.cells c e (0,0))->h'=bO h a.block (.cells (c.setIfInBounds a.off (.int j y)) e (0,0))->k (.bool true) h'):
 fL (λ_=>P) (λ_=>Da f [.pointer (some a),.int j x,.int j y]) h k:=
 fL.ext λw d=>by
  obtain⟨h',g,i⟩:=b.set (.int j y) (k:=k (.bool true)) m d;exact⟨_,_,h',run_call_cas_hit o.hf o.wX o.hb o.hn j l (b.cell d).1 (b.cell d).2,g,i⟩
theorem CZ{f:FuncId}{fn:Func}(o:jJ P f fn)(l:Extern.find fn=some Extern.Atomic.storeT){a:Addr}{h:ad}{v:Value}{j:IntKind}{y:Int}(b:oJ h a v){k:Value->ad->Prop}
 (m:∀c e h',h a.block=some (.cells c e (0,0))->h'=bO h a.block (.cells (c.setIfInBounds a.off (.int j y)) e (0,0))->k (.tuple #[]) h'):
 fL (λ_=>P) (λ_=>Da f [.pointer (some a),.int j y]) h k:=
 fL.ext λw d=>by
  obtain⟨h',g,i⟩:=b.set (.int j y) (k:=k (.tuple #[])) m d;exact⟨_,_,h',run_call_store o.hf o.wX o.hb o.hn l (b.cell d).1 (b.cell d).2,g,i⟩
theorem KA{f:FuncId}{fn:Func}(o:jJ P f fn){j:IntKind}(l:Extern.find fn=some (Extern.Atomic.update (Op.intArith .add) j true)){a:Addr}{h:ad}{x y:Int}(b:oJ h a (.int j x)){k:Value->ad->Prop}
 (m:∀c e h',h a.block=some (.cells c e (0,0))->h'=bO h a.block (.cells (c.setIfInBounds a.off (.int j (j.wrap (x+y)))) e (0,0))->k (.int j (j.wrap (x+y))) h'):
 fL (λ_=>P) (λ_=>Da f [.pointer (some a),.int j y]) h k:=
 fL.ext λw d=>by
  obtain⟨h',g,i⟩:=b.set (.int j (j.wrap (x+y))) (k:=k (.int j (j.wrap (x+y)))) m d;exact⟨_,_,h',run_call_add o.hf o.wX o.hb o.hn j l (b.cell d).1 (b.cell d).2 (by simp[Op.intArith]),g,i⟩
theorem bQl{f:FuncId}{fn:Func}(o:jJ P f fn)(e:Extern.find fn=some Extern.BytealgCompare.compare){a b:ByteArray}{h:ad}{k:Value->ad->Prop}
 (c:k (.zI (Lib.compareBytes a.data.toList b.data.toList)) h):fL (λ_=>P) (λ_=>Da f [.string a,.string b]) h k:=
 fL.ext λw d=>by
  refine⟨_,w,h,?_,c,cj.refl d⟩;rw[run_callFunc_extern o.hf o.wX o.hb o.hn e];rw[show [Value.string a,Value.string b].toArray= #[.string a,.string b]from rfl,Lib.run_compareString];rfl
theorem FE{s d t:TypeId}(f:P.underlying s=some (.pointer t))(hd:P.underlying d=some .unsafePointer)(A:(P.info? t).map (λi=>decide (i.size=0))=some false)
 {a:Addr} {v:Value} {h:ad} (c:oJ h a v) {k:Value->ad->Prop} (e:k (.pointer (some a)) h):fL (λ_=>P) (λ_=>Go.convert s d (.pointer (some a))) h k:=
 ⟨λw b=>⟨_,w,h,run_convert_to_unsafe f hd A (c.cell b).1,e,cj.refl b⟩⟩
theorem bg.gXu{A:Ar}[h:bM A]{z w:Int}{i j:Nat}(b:bg z i)(a:bg w j)(f:i<2^61)(g:j<2^61):
 bg (A .conv .i64 (A .aX .shr .u64 (A .conv .u64 (A .aX .add .i64 z w)) 1)) ((i+j) / 2):=by
 constructor;have c:=b.eq;have d:=a.eq;simp only[h.conv,h.aX,aX];rw[IntWalk.i64_in (z+w) ip];have e1:IntKind.u64.wrap (z+w)=((i+j:Nat):Int):=by
  have:z+w=((i+j:Nat):Int):=ip
  rw[this];simp only[IntKind.wrap,IntKind.bits];simp;omega
 rw[e1];have e:(2:Int)^(min (1:Int).toNat IntKind.u64.bits)=2:=dl
 rw[e,kJd _ ip];rw[IntWalk.i64_in _ ip];omega
theorem bg.zQ{A:Ar}[h:bM A]{z w:Int}{i j:Nat}(b:bg z i)(a:bg w j):A .aQ .lss z w=decide (i<j):=by
 have c:=b.eq;have d:=a.eq;simp only[h.aQ,aQ]
 grind
def sM(l:List Int)(i j:Nat):Nat:=
 if i<j then
  if l.getD ((i+j) / 2) 0<0 then sM l ((i+j) / 2+1) j else sM l i ((i+j) / 2)
 else i
 termination_by j-i
 decreasing_by all_goals omega
theorem EL(l:List Int)(i j:Nat)(h:i<=j):sM l i j<=j/\i<=sM l i j:=by
 fun_induction sM l i j with
 |case1 i j a b c=>grind
 |case2 i j a b c=>grind
 |case3 i j a=>omega
theorem yy(l:List Int)(p:Nat)(Z:∀k,k<p->l.getD k 0<0)(i j:Nat)(m:∀k,p<=k->k<j->¬l.getD k 0<0)(c:i<=p)(d:p<=j):sM l i j=p:=by
 fun_induction sM l i j with
 |case1 i j h a b=>
  grind
 |case2 i j h a b=>
  grind
 |case3 i j h=>omega
theorem bp{h:ad}{b o n e:Nat}{c cs:List Value}{fr:Nat×Nat}{k:List Value->Prop}(g:h b=some (.cells (List.toArray c) e fr))(f:(c.drop o).take n=cs)(d:cs.length=n)(a:k cs):Ai h ⟨b,o,none⟩ n k:=by
 refine⟨cs,⟨rfl,d,_,_,_,g,λi j=>?_⟩,a⟩
 grind
theorem cy{h:ad}{b o n e:Nat}{c cs:List Value}{fr:Nat×Nat}{k:List Value->Prop}(g:h b=some (.cells (List.toArray c) e fr))(d:k cs)(a:(c.drop o).take n=cs:=by exact rfl)(f:cs.length=n:=by exact rfl):Ai h ⟨b,o,none⟩ n k:=bp g a f d
theorem jE{h:ad}{b o e:Nat}{c cs:List Value}{k:ad->Prop}(g:h b=zcL e c)(n:o+cs.length<=c.length)(a:∀h',h'=bO h b (.cells (iv c o cs).toArray e (0,0))->k h'):Hy h ⟨b,o,none⟩ cs k:=
 ⟨_,_,_,rfl,g,iu n,io,λh' e=>a h' (iu e)⟩
open Go.MapKept
variable {P:Program}
structure Mp(h:ad)(m:Nat)(d:TypeDesc)(l:List (Value×Value)):Prop where
 out:∃es clock,h m=some (.map es clock)/\es.toList.map (λe=>(e.key,e.val))=l/\Stamped es clock/\∀x∈es.toList,IsKey d x.key
theorem Mp.new{h:ad}{m:Nat}{d:TypeDesc}(g:h m=some (.map #[] 0)):Mp h m d []:=⟨#[],0,g,rfl,stamped_empty 0,io⟩
theorem Mp.kp{h h':ad}{m:Nat}{d:TypeDesc}{l:List (Value×Value)}{bs:List Nat}(q:Mp h m d l)(k:Kp bs h h')(i:m∉bs):Mp h' m d l:=by obtain⟨e,c,g,a,b,f⟩:=q.out;exact⟨e,c,k _ _ g i,a,b,f⟩
theorem cX.FX{tys:List Nat}{h:ad}{n:Nat}{e:Array MapEntry}{c:Nat}{o:Obj}(g:h n=some (.map e c)):cX tys h (bO h n o):=λb d a L m f=>by
 grind [bO]
theorem cj.FX{h:ad}{w:World}(d:Eo h w){n:Nat}{e:Array MapEntry}{c:Nat}{o:Obj}(b:h n=some (.map e c)):cj h w (bO h n o) { w with heap:=w.heap.setIfInBounds n o }:=by have a:=heap_set (o':=o) (d _ _ b);exact cj.set d b a.1 a.2 io ⟨rfl,rfl,rfl⟩
theorem JO{mt t i:TypeId}{d:TypeDesc}(u:P.underlying mt=some (.map t i))(hd:P.underlying t=some d){h:ad}{m:Nat}{l:List (Value×Value)}(q:Mp h m d l){key v:Value}(a:IsKey d key)(y:∀p∈l,p.1≠key)
 {k:Value->ad->Prop} (K:∀h',Mp h' m d (l++[(key,v)])->Kp [m] h h'->(∀tys,cX tys h h')->k undef h'):
 fL (λ_=>P) (λ_=>do Instr.mapUpdate mt (.map (some m)) key v;pure undef) h k:=
 ⟨λw f=>by
  obtain⟨s,c,g,n,o,r⟩:=q.out;have b:=f _ _ g;have V:∀x∈s.toList,x.key≠key:=λx hx=>by
   have:(x.key,x.val)∈l:=gg
   grind
  rcases findNow_spec a s.toList 0 r with⟨f1,_⟩|⟨j,e,f1,f2,f3⟩
  .refine⟨undef,_,_,?_,K _ ⟨s.push { key:=key,val:=v,born:=c },c+1,ae,?_,stamped_push o V,?_⟩ (Kp.set io) (λtys=>cX.FX g),cj.FX f g⟩
   .simp[Instr.mapUpdate,run_underlying u,Go.MapKept.run_getObj_map b,run_checkKey hd a,run_findKey hd f1,Go.MapKept.run_setObj_map _ b,Result.andThen]
   .simp[n]
   grind
  grind⟩
theorem wq{mt f t:TypeId}{d:TypeDesc}(o:P.underlying mt=some (.map f t))(hd:P.underlying f=some d){z:Value}(r:∀w,(zeroValue t).run P w=.ok z w){h:ad}{m:Nat}{l:List (Value×Value)}(q:Mp h m d l){key:Value}(a:IsKey d key)(y:∀p∈l,p.1≠key)
 {k:Value->ad->Prop} (K:k z h):fL (λ_=>P) (λ_=>Instr.lookup mt (.map (some m)) key false) h k:=
 ⟨λw b=>by
  obtain⟨s,c,g,u,v,i⟩:=q.out;have n:=b _ _ g;have V:∀x∈s.toList,x.key≠key:=λx hx=>by
   have:(x.key,x.val)∈l:=gg
   grind
  rcases findNow_spec a s.toList 0 i with⟨f1,_⟩|⟨j,e,f1,f2,f3⟩
  .refine⟨z,w,h,?_,K,cj.refl b⟩;simp[Instr.lookup,run_underlying o,Go.MapKept.run_getObj_map n,run_checkKey hd a,run_findKey hd f1,r,Result.andThen]
  grind⟩
theorem AO{mt t u:TypeId}{d:TypeDesc}(E:P.underlying mt=some (.map t u))(hd:P.underlying t=some d){h:ad}{m:Nat}{l:List (Value×Value)}(q:Mp h m d l){key v:Value}(o:IsKey d key)(f:(key,v)∈l)
 {k:Value->ad->Prop} (K:k v h):fL (λ_=>P) (λ_=>Instr.lookup mt (.map (some m)) key false) h k:=
 ⟨λw r=>by
  obtain⟨s,c,g,y,z,A⟩:=q.out;have B:=r _ _ g;rw[<-y]at f;obtain⟨x,hx,D⟩:=kZd.1 f;cases D;rcases findNow_spec o s.toList 0 A with⟨f1,f2⟩|⟨j,e,f1,f2,f3⟩
  .exact absurd rfl (f2 x hx)
  have Z:e=x:=by
   have p:=((stamped_iff s c).1 z).2.2;obtain⟨i,n⟩:=kXT hx;rcases kQM i j with a|rfl|a
   .exfalso;have b:=(HH.1 f2);have C:=(HH.1 n);have:=kJJ.1 p i j C.1 b.1 a
    grind
   .grind
   exfalso;have b:=(HH.1 f2);have C:=(HH.1 n);have:=kJJ.1 p j i b.1 C.1 a
   grind
  subst Z;refine⟨_,w,h,?_,K,cj.refl r⟩;simp[Instr.lookup,run_underlying E,Go.MapKept.run_getObj_map B,run_checkKey hd o,run_findKey hd f1,Result.andThen]⟩
theorem VP{a b:ByteArray}(h:a.toList=b.toList):a=b:=by rw[Go.ByteArray.toList_eq,Go.ByteArray.toList_eq]at h;cases a;cases b;simp only at h;congr;exact Array.toList_inj.1 h
theorem eV(A:Ar)[h:bM A](a b:ByteArray):A .lu .eql a b=decide (a=b):=by
 rw[h.lu]
 grind [lu,VP]
theorem au(A:Ar)[h:bM A](a b:Int):A .aQ .eql a b=decide (a=b):=by rw[h.aQ];grind [aQ]
theorem aJ(A:Ar)[h:bM A](a b:Int):A .aQ .neq a b=decide (a≠b):=by rw[h.aQ];grind [aQ]
theorem aV(A:Ar)[h:bM A](a b:Int):A .aQ .lss a b=decide (a<b):=by rw[h.aQ];rfl
theorem cF(A:Ar)[h:bM A](a b:Int):A .aQ .geq a b=decide (a>=b):=by rw[h.aQ];rfl
theorem bF(A:Ar)[h:bM A](a b:Int):A .aQ .gtr a b=decide (a>b):=by rw[h.aQ];rfl
theorem Sg(A:Ar)[h:bM A](a b:Int):A .aQ .leq a b=decide (a<=b):=by rw[h.aQ];rfl
structure uV{α:Type}(xs:List α)(p:α->Bool)(z:Int):Prop where
 out:(z=-1/\∀x∈xs,p x=false)\/∃i x,bg z i/\xs[i]? =some x/\p x=true/\∀j,j<i->∀y,xs[j]? =some y->p y=false
theorem PG(A:Ar)[h:bM A]{key:Int}{n:Nat}(e1:A .aQ .lss key 0=false)(e:A .aQ .geq key (A .nat n)=false):bg key key.toNat/\key.toNat<n:=by rw[aV A]at e1;rw[cF A,h.nat]at e;have a:=kZX e1;have g:=kZX e;simp only[kZn]at g;exact⟨⟨ip⟩,ip⟩
theorem Sl.cI{a:Type}{A:Ar}[bM A]{e:Nat}{s:Sh a}{h:ad}{b:Option Addr}{len cap:Nat}{xs:List a}(q:Sl e s h (.slice b len cap) xs){i:Nat}{x:a}(hx:xs[i]? =some x){n:Int}(u:n=(i:Int)){o m:Nat}(C:o+m<=s.n)
 {k:List Value->Prop} (t:∀cs,s.R h cs x->k ((cs.drop o).take m)):Ai h (A .off (A .jt b n s.n) o) m k:=by
 obtain⟨w,D,p,y,z,r⟩:=q.out;cases p;rcases r with rfl| ⟨lQ,off,c,fr,rfl,l,g⟩
 .simp at hx
 subst u;have v:=oM l g hx;have hR:=g.2 i x hx;refine⟨_,?_,t _ hR⟩;rw[bM.jt (A:=A),bM.off (A:=A)];simp only[jt,kZY,kJL,cQ];obtain⟨-,hl,c',d,L,f,K⟩:=v;refine⟨rfl,gg,c',d,L,f,λj B=>?_⟩
 grind
theorem Rows.at{a:Type}{s:Sh a}{h:ad}{cs:List Value}{ys:List a}(r:Rows s h cs 0 ys){j:Nat}{y:a}(b:ys[j]? =some y):s.R h ((cs.drop (j*s.n)).take s.n) y:=by
 have:=r.2 j y b
 grind
theorem dt.write{u:Type}{e:Nat}{s:Sh u}{h:ad}{n cap:Nat}{xs ys:List u}(o:dt e s h n cap xs)(x:e∉s.tys){i:Nat}(z:i<=xs.length)(w:i+ys.length<=cap)(J:i+ys.length<=2^40)
 {cs:List Value} (hl:cs.length=ys.length*s.n) (C:Rows s h cs 0 ys) {k:ad->Prop}
 (A:∀h',Kp [n] h h'->(∀tys,e∉tys->cX tys h h')->dt e s h' n cap (xs.take i++ys++xs.drop (i+ys.length))->k h'):Hy h ⟨n,i*s.n,none⟩ cs k:=by
 obtain⟨c,q,v,p⟩:=o.out;have B:=o.le;have K:=o.bd;have G:i*s.n+cs.length<=c.length:=by rw[p,hl,<-kXh];exact kZg _ w
 refine⟨c.toArray,e,(0,0),rfl,q,iu G,io,λh' g=>?_⟩;have t:∀tys,e∉tys->cX tys h h':=λtys V=>by rw[g];exact cX.set q V
 have r:=t s.tys x;have l:(xs.take i++ys++xs.drop (i+ys.length)).length=max xs.length (i+ys.length):=by
  grind
 refine A h' (by rw[g];exact Kp.set io) t ⟨⟨iv c (i*s.n) cs,by rw[g];simp[ae],⟨?_,λj y d=>?_⟩,by rw[fE,p]⟩,gg,gg⟩
 .rw[fE,p,l];simp only[kJe];exact kZg _ ip
 simp only[kJe];have e1:∀a b:Nat,a<b->a*s.n+s.n<=b*s.n:=λa b Q=>by rw[<-kZi];exact kZg _ Q
 have Y:∀y,xs[j]? =some y->(j<i\/i+ys.length<=j)->s.R h' (((iv c (i*s.n) cs).drop (j*s.n)).take s.n) y:=λy D hd=>by
  rw[uz G]
  .have:=v.2 j y D;simp only[kJe]at this;exact s.mono r this
  grind
 rw[kZZ]at d;split at d
 .rename_i E;rw[kZZ]at d;split at d
  .grind
  rename_i U;simp only[kJI,kXy]at U E;rw[kJI,kXx z]at d;have hR:=C.at d;have f:j-i<ys.length:=(HH.1 d).1;have:((iv c (i*s.n) cs).drop (j*s.n)).take s.n=(cs.drop ((j-i)*s.n)).take s.n:=by
   apply kZq;intro m;rw[kZo,kZo];split
   .rename_i H;have F:=e1 (j-i) ys.length f;have I:j*s.n=i*s.n+(j-i)*s.n:=by rw[<-kXh];congr 1;omega
    rw[kXz,kXz,nf cs c _ _ G,if_pos ip];congr 1;omega
   rfl
  rw[this];exact s.mono r hR
 grind
theorem dt.shrink{b:Type}{e:Nat}{s:Sh b}{h:ad}{n cap:Nat}{xs:List b}(o:dt e s h n cap xs)(k:Nat):dt e s h n cap (xs.take k):=by
 obtain⟨c,d,a,f⟩:=o.out;have l:=o.le;have E:=o.bd;refine⟨⟨c,d,⟨?_,λi x hx=>?_⟩,f⟩,gg,gg⟩
 .have:=a.1;refine kXj ?_ this;exact kQX (kZg _ gg) _
 rw[kZo]at hx;split at hx
 .exact a.2 i x hx
 cases hx
theorem dt.aJg{g:Type}{e:Nat}{s:Sh g}{h:ad}{n cap:Nat}{xs:List g}(o:dt e s h n cap xs)(l:e∉s.tys){p:Nat}{cs:List Value}(r:xs.length*s.n<=p)(q:p+cs.length<=cap*s.n){k:ad->Prop}
 (m:∀h',Kp [n] h h'->(∀tys,e∉tys->cX tys h h')->dt e s h' n cap xs->k h'):Hy h ⟨n,p,none⟩ cs k:=by
 obtain⟨c,b,d,i⟩:=o.out;refine⟨c.toArray,e,(0,0),rfl,b,by simp;omega,io,λh' a=>?_⟩;have t:∀tys,e∉tys->cX tys h h':=λtys V=>by rw[a];exact cX.set b V
 refine m h' (by rw[a];exact Kp.set io) t ⟨⟨iv c p cs,by rw[a];simp[ae],⟨by rw[fE];exact d.1,λj y f=>?_⟩,by rw[fE,i]⟩,o.le,o.bd⟩;have E:j<xs.length:=(HH.1 f).1;have:j*s.n+s.n<=xs.length*s.n:=by rw[<-kZi];exact kZg _ E
 simp only[kJe];rw[uz ip (.inl ip)];have:=d.2 j y f;simp only[kJe]at this;exact s.mono (t s.tys l) this
theorem tO{o:Type}{e:Nat}{s:Sh o}{h:ad}{b:Option Addr}{len cap n:Nat}{xs ys:List o}(q:Sl e s h (.slice b len cap) xs)(I:cap<len+n){size bytes:Nat}(B:size=s.n)(C:bytes<=128)(K:len+n<=2^39)
 {new:List Value} (w:jL new=true) (hl:new.length=n*s.n) (O:ys.length<=n) (z:∀h',Le h h'->Rows s h' new 0 ys)
 {k:Value->ad->Prop} (x:∀f c h',h f=none->Le h h'->len+n<=c->dt e s h' f c (xs++ys)->k (.slice (zsA f) (len+n) c) h'):
 uW h b len cap n size bytes e new k:=by
 subst B;obtain⟨cs,p,g,D,t⟩:=q.lr;have d:=q.len;have Z:(2:Nat)^39=549755813888:=rfl;have S:(2:Nat)^40=1099511627776:=rfl;have W:(2:Nat)^48=281474976710656:=rfl;refine⟨w,λH=>ip,λ_=>⟨?_,ip,cs,p,λf c h' r e1 u v i=>?_⟩⟩
 .have:2*(len+n)*bytes<=2*(len+n)*128:=kZF _ C;omega
 have l:Le h h':=zqs i e1
 refine x f c h' e1 l u ⟨⟨cs++new++r,by rw[i,ae],?_,?_⟩,gg,gg⟩
 .have hx:=t h' (l.t _) [] (new++r);have A:=z h' l;refine⟨?_,λj y a=>?_⟩
  .simp only[kXy,g,hl,d,kJe];rw[<-kXh];have:(xs.length+ys.length)*s.n<=(xs.length+n)*s.n:=kZg _ ip;omega
  rw[kZZ]at a;split at a
  .have:=hx.2 j y a
   grind
  rename_i L;have hR:=A.at a;have Q:j-xs.length<ys.length:=(HH.1 a).1;simp only[kJe];have E:((cs++new++r).drop (j*s.n)).take s.n=(new.drop ((j-xs.length)*s.n)).take s.n:=by
   apply kZq;intro m;rw[kZo,kZo];split
   .rename_i J;have F:(j-xs.length)*s.n+s.n<=n*s.n:=by rw[<-kZi];exact kZg _ ip
    have G:j*s.n=xs.length*s.n+(j-xs.length)*s.n:=by rw[<-kXh];congr 1;omega
    rw[kXz,kXz,kJk,kXV gg,kQU gg]
    grind
   rfl
  grind
 simp only[kXy,g,hl,v];rw[<-kXh,<-kXh];congr 1;omega
theorem cS{A:Ar}[h:bM A]{z:Int}{i n:Nat}(a:bg z i):A .nR (A .nat n) z=n-i:=by have:=a.eq;simp only[h.nR,h.nat,kZn];omega
theorem dJ{A:Ar}[h:bM A]{z:Int}{i:Nat}(a:bg z i):A .nR z 0=i:=by have:=a.eq;simp only[h.nR];omega
theorem KI{A:Ar}[h:bM A]{z w:Int}{i j:Nat}(b:bg z i)(a:bg w j):A .nR z w=i-j:=by have:=b.eq;have:=a.eq;simp only[h.nR];omega
theorem yj{A:Ar}[h:bM A]{z:Int}{i c s n:Nat}(a:bg z i)(b:i<c):A .cut (zsA n) z (A .nat c) s=some ⟨n,i*s,none⟩:=by
 have:=a.eq;simp only[h.cut,h.nat,kZn]
 grind [cQ]
theorem Rows.drop{b:Type}{s:Sh b}{h:ad}{c:List Value}{off:Nat}{xs:List b}(r:Rows s h c off xs){i:Nat}(d:i<=xs.length):Rows s h c (off+i*s.n) (xs.drop i):=by
 refine⟨?_,λj x a=>?_⟩
 .have:=r.1;rw[kJb];have:i*s.n+(xs.length-i)*s.n=xs.length*s.n:=by rw[<-kXh];congr 1;omega
  omega
 rw[kXz]at a;have:=r.2 _ x a
 grind
theorem Rows.take{b:Type}{s:Sh b}{h:ad}{c:List Value}{off:Nat}{xs:List b}(r:Rows s h c off xs)(i:Nat):Rows s h c off (xs.take i):=by
 refine⟨?_,λj x a=>?_⟩
 .have:=r.1;refine kXj (kQX (kZg _ ?_) _) this
  grind
 rw[kZo]at a;split at a
 .exact r.2 _ x a
 cases a
theorem Sl.jX{d:Type}{A:Ar}[a:bM A]{e:Nat}{s:Sh d}{h:ad}{b:Option Addr}{n c:Nat}{xs:List d}(q:Sl e s h (.slice b n c) xs){z:Int}{i:Nat}(r:bg z i)(o:i<=n){m:Nat}(p:m=n-i){c':Nat}(l:c'=c-i):
 Sl e s h (.slice (A .cut b z (A .nat c) s.n) m c') (xs.drop i):=by
 obtain⟨t,cap,j,u,v,k⟩:=q.out;cases j;subst p l;have I:=r.eq;refine⟨_,_,by rw[kJb],gg,gg,?_⟩;rcases k with rfl| ⟨lQ,off,cc,fr,rfl,g,f⟩
 .simp
 simp only[a.cut,a.nat,kZn];by_cases H:(c:Int)=z
 .grind
 right;rw[if_neg H];exact⟨lQ,off+i*s.n,cc,fr,by simp[cQ,I],g,f.drop o⟩
theorem Sl.Ip{a:Type}{A:Ar}[k:bM A]{e:Nat}{s:Sh a}{h:ad}{b:Option Addr}{n c:Nat}{xs:List a}(q:Sl e s h (.slice b n c) xs){i:Nat}(p:i<=n):
 Sl e s h (.slice (A .cut b 0 (A .nat c) s.n) i c) (xs.take i):=by
 obtain⟨l,cap,f,m,o,j⟩:=q.out;cases f;have hl:(xs.take i).length=i:=gg
 refine⟨_,_,by rw[hl],by rw[hl];omega,by rw[hl];omega,?_⟩;rcases j with rfl| ⟨lQ,off,cc,fr,rfl,g,d⟩
 .simp
 right;refine⟨lQ,off,cc,fr,?_,g,d.take i⟩;simp only[k.cut];split
 .rfl
 simp[cQ]
theorem BG{a:Type}{e:Nat}{s:Sh a}{h:ad}{b cap:Nat}{xs ys:List a}(o:dt e s h b cap xs)(j:e∉s.tys){i:Nat}(m:i<=xs.length){x:Option Addr}{n g len:Nat}(q:Sl e s h (.slice x n g) ys)(y:n<=len)(w:i+n<=cap)(v:i+n<=2^40){size:Nat}(A:size=s.n)
 {k:Value->ad->Prop} (p:∀h',Kp [b] h h'->(∀tys,e∉tys->cX tys h h')->dt e s h' b cap (xs.take i++ys++xs.drop (i+n))->k (.zI ((min n len:Nat):Int)) h'):
 zy h (some ⟨b,i*s.n,none⟩) len x n size k:=by
 subst A;obtain⟨cs,u,c,d,f⟩:=q.lr;have l:=q.len;have H:min n len=n:=ip
 refine⟨cs,gg,d,.inr ⟨_,rfl,?_⟩⟩;refine o.write (ys:=ys) j m ip ip (by rw[c,l]) ?_ (λh' r t o'=>p h' r t gg);have:=f h (cX.refl _ _) [] []
 grind
theorem jI{d:Type}{e:Nat}{s:Sh d}{h:ad}{b x:Option Addr}{len cap n l:Nat}{xs ys:List d}(q:Sl e s h (.slice b len cap) xs)(v:Sl e s h (.slice x n l) ys)(m:cap<len+n){size bytes:Nat}(A:size=s.n)(y:bytes<=128)(p:len+n<=2^39)
 {k:Value->ad->Prop} (o:∀a c h',h a=none->Le h h'->len+n<=c->dt e s h' a c (xs++ys)->k (.slice (zsA a) (len+n) c) h'):
 iF h b len cap x n size bytes e k:=by
 subst A;obtain⟨cs,f,g,i,j⟩:=v.lr;refine⟨cs,f,tO q m rfl y p i g (by rw[v.len];grind) (λh' hl=>?_) o⟩;have:=j h' (hl.t _) [] []
 grind
theorem bg.add{A:Ar}[h:bM A]{z w:Int}{i j:Nat}(b:bg z i)(a:bg w j)(e:i+j<2^62):bg (A .aX .add .i64 z w) (i+j):=by constructor;have c:=b.eq;have d:=a.eq;rw[h.aX];simp only[aX];rw[IntWalk.i64_in _ ip];omega
theorem bg.sub{A:Ar}[h:bM A]{z w:Int}{i j:Nat}(b:bg z i)(a:bg w j)(e:i<2^62)(f:j<=i):bg (A .aX .sub .i64 z w) (i-j):=by constructor;have c:=b.eq;have d:=a.eq;rw[h.aX];simp only[aX];rw[IntWalk.i64_in _ ip];omega
theorem xE{w:Int}{m bytes:Nat}(a:bg w m)(d:m<=2^39)(h:bytes<=128):0<=w/\w<=2^48/\w*(bytes:Int)<=2^48:=by
 have b:=a.eq;have W:(2:Int)^48=281474976710656:=rfl;have j:(2:Nat)^39=549755813888:=rfl;have c:m*bytes<=549755813888*128:=eA ip h
 grind
theorem pa{d:Type}{e:Nat}{s:Sh d}{h:ad}{b:Option Addr}{len cap n:Nat}{xs:List d}(q:Sl e s h (.slice b len cap) xs)(g:cap<len+n){size bytes:Nat}(A:size=s.n)(p:bytes<=128)(i:len+n<=2^39){z:List Value}(l:jL z=true)(M:z.length=s.n)
 {k:Value->ad->Prop} (f:∀a c h',h a=none->Le h h'->len+n<=c->dt e s h' a c xs->k (.slice (zsA a) (len+n) c) h'):
 bJT h b len cap n size bytes e z k:=
 ⟨tO q g A p i (zN l n) (by rw[gF,M]) (ys:=[]) io (λh' _=>Md) (iu f)⟩
structure bA{α:Type}(e:Nat)(s:Sh α)(h0 h:ad)(v:Value)(xs:List α):Prop where
 out:(∃b,v=.slice b 0 0/\xs=[])\/∃nb cap,v=.slice (zsA nb) xs.length cap/\h0 nb=none/\dt e s h nb cap xs
theorem bA.nil{a:Type}{e:Nat}{s:Sh a}{h0 h:ad}{b:Option Addr}:bA e s h0 h (.slice b 0 0) ([]:List a):=⟨.inl ⟨b,rfl,rfl⟩⟩
theorem bA.sl{a:Type}{e:Nat}{s:Sh a}{h0 h:ad}{v:Value}{xs:List a}(q:bA e s h0 h v xs):Sl e s h v xs:=by
 rcases q.out with⟨b,rfl,rfl⟩|⟨n,cap,rfl,-,o⟩
 .exact Sl.nil
 exact o.sl rfl
theorem bA.mono{b:Type}{e:Nat}{s:Sh b}{h0 h h':ad}{v:Value}{xs:List b}(q:bA e s h0 h v xs)(hl:cX (e::s.tys) h h'):bA e s h0 h' v xs:=by
 rcases q.out with a| ⟨n,cap,a,c,o⟩
 .exact⟨.inl a⟩
 exact⟨.inr ⟨n,cap,a,c,o.mono hl⟩⟩
theorem bA.base{b:Type}{e:Nat}{s:Sh b}{h0 a h:ad}{v:Value}{xs:List b}(q:bA e s a h v xs)(hl:Le h0 a):bA e s h0 h v xs:=by
 rcases q.out with g| ⟨n,cap,c,d,o⟩
 .exact⟨.inl g⟩
 exact⟨.inr ⟨n,cap,c,hl.none d,o⟩⟩
theorem dt.buf{a:Type}{e:Nat}{s:Sh a}{h0 h:ad}{b cap n:Nat}{xs:List a}(o:dt e s h b cap xs)(c:h0 b=none)(d:n=xs.length):bA e s h0 h (.slice (zsA b) n cap) xs:=by subst d;exact⟨.inr ⟨b,cap,rfl,c,o⟩⟩
theorem bA.own{a:Type}{e:Nat}{s:Sh a}{h0 h:ad}{b:Option Addr}{l c:Nat}{xs:List a}(q:bA e s h0 h (.slice b l c) xs)(hl:0<l):∃n,b=zsA n/\h0 n=none/\l=xs.length/\dt e s h n c xs:=by
 rcases q.out with⟨b,g,rfl⟩|⟨n,cap,g,d,o⟩
 .grind
 grind
theorem bA.append{C:Type}{e:Nat}{s:Sh C}{h0 h:ad}{b x:Option Addr}{len cap n F:Nat}{xs ys:List C}(q:bA e s h0 h (.slice b len cap) xs)(B:Sl e s h (.slice x n F) ys)(G:e∉s.tys){size bytes:Nat}(L:size=s.n)(P:bytes<=128)(J:len+n<=2^39)
 {k:Value->ad->Prop} (O:Le h0 h) (p:∀m d c' h',m=len+n->Le h0 h'->(∀tys,e∉tys->cX tys h h')->(∀j o,h j=some o->(∀c fr,o≠.cells c e fr)->h' j=some o)->bA e s h0 h' (.slice d m c') (xs++ys)->k (.slice d m c') h'):
 iF h b len cap x n size bytes e k:=by
 subst L;obtain⟨cs,E,r,t,u⟩:=B.lr;have l:=q.sl.len;have I:=B.len;have w:cap<len+n->uW h b len cap n s.n bytes e cs k:=λy=>by
  refine tO q.sl y rfl P J t r (ys:=ys) gg (λh' hl=>?_) (λA c h' e1 f R o=>?_)
  .have:=u h' (hl.t _) [] []
   grind
  exact p _ _ _ h' rfl (O.trans f) (λtys _=>f.t tys) (λj o a _=>f j o a) (o.buf (O.none e1) (by rw[kXy,l,I]))
 refine⟨cs,E,?_⟩;by_cases W:len+n<=cap
 .refine⟨t,λ_=>?_,λy=>ip⟩;by_cases U:n=0
  .have D:cs=[]:=kZh gg;have Q:ys=[]:=kZh ip;refine .inl ⟨D,p _ _ _ h rfl O (λ_ _=>cX.refl _ _) (λ_ _ a _=>a) ?_⟩
   grind
  rcases q.out with⟨d,v,g⟩|⟨A,T,v,g,o⟩
  .grind
  cases v;refine .inr ⟨⟨A,xs.length*s.n,none⟩,by simp[cQ],?_⟩;have K:Rows s h cs 0 ys:=by
   have:=u h (cX.refl _ _) [] []
   grind
  refine o.write (ys:=ys) G (i:=xs.length) ip ip ip (by rw[r,I]) K (λh' z M o'=>?_);rw[kXo,wy ip,kJH]at o';refine p _ _ _ h' rfl (O.bf (iu g) z) M (λj N a V=>?_) (o'.buf g (by rw[kXy,I]));refine z j N a ?_;intro H;simp at H;obtain⟨c,S,-⟩:=o.out
  grind
 grind
theorem bh{a:Type}{e:Nat}{s:Sh a}{h:ad}{n:Nat}{cs:List Value}{x:a}(b:h n=zcL e cs)(r:s.R h cs x):Sl e s h (.slice (zsA n) 1 1) [x]:=by
 have l:=s.len r;refine Sl.fresh (xs:=[x]) b ⟨by simp[l],λj y c=>?_⟩ io io;have G:j=0:=by
  grind
 subst G
 grind
theorem xB{A:Ar}[h:bM A]{m:Int}{s n:Nat}:A .cut (zsA n) 0 m s=zsA n:=by
 simp only[h.cut];split
 .rfl
 simp[cQ]
theorem bg.nat{A:Ar}[h:bM A](n:Nat):bg (A .nat n) n:=⟨by rw[h.nat];rfl⟩
theorem bg.zO{A:Ar}[a:bM A]{z:Int}{i:Nat}(h:bg z i):A .aQ .lss z 0=false:=by have:=h.eq;rw[aV A];grind
theorem pf{d:Type}{e:Nat}{s:Sh d}{h:ad}{n:Nat}{c b:Value}{x y:d}(g:s.n=1)(f:h n=zcL e [c,b])(r:s.R h [c] x)(i:s.R h [b] y):Sl e s h (.slice (zsA n) 2 2) [x,y]:=by
 refine Sl.fresh (xs:=[x,y]) f ⟨by simp[g],λj z a=>?_⟩ io io
 match j,a with
 |0,a=>grind
 |1,a=>grind
 |j+2,a=>simp at a
theorem gT{g:Type}{e:Nat}{s:Sh g}{h:ad}{n:Nat}{c b d:Value}{x y w:g}(f:s.n=1)(i:h n=zcL e [c,b,d])(k:s.R h [c] x)(l:s.R h [b] y)(r:s.R h [d] w):Sl e s h (.slice (zsA n) 3 3) [x,y,w]:=by
 refine Sl.fresh (xs:=[x,y,w]) i ⟨by simp[f],λj z a=>?_⟩ io io
 match j,a with
 |0,a=>grind
 |1,a=>grind
 |2,a=>simp at a;subst a;simpa[f]using r
 |j+3,a=>simp at a
theorem ir{a:Type}{L:List (List a)}{i:Nat}{x:List a}(h:L[i]? =some x):(L.take (i+1)).flatten=(L.take i).flatten++x:=by rw[kJG,h];simp
theorem yg{a:Type}(L:List (List a))(i:Nat):(L.take i).flatten.length<=L.flatten.length:=by
 have:=congrArg List.length (congrArg List.flatten (GD i L))
 grind
def dE(l:List Int):Nat:=sM l 0 l.length
def iC(l:List Int):Bool:=decide (dE l<l.length/\l.getD (dE l) 0=0)
theorem cJF(l:List Int):dE l<=l.length:=(EL l 0 l.length (kXH _)).1
theorem jk{l:List Int}(h:iC l=true):dE l<l.length:=(kZr h).1
theorem Sl.tp{a:Type}{A:Ar}[k:bM A]{e:Nat}{s:Sh a}{h:ad}{b:Option Addr}{n c:Nat}{xs:List a}(q:Sl e s h (.slice b n c) xs){z:Int}{i:Nat}(u:i<=n){m c':Nat}(o:m=i)(l:c'=i):
 Sl e s h (.slice (A .cut b 0 z s.n) m c') (xs.take i):=by
 obtain⟨p,cap,f,r,t,j⟩:=q.out;cases f;subst o l;have hl:(xs.take c').length=c':=gg
 refine⟨_,_,by rw[hl],gg,by rw[hl];omega,?_⟩;rcases j with rfl| ⟨lQ,off,cc,fr,rfl,g,d⟩
 .simp
 right;refine⟨lQ,off,cc,fr,?_,g,d.take _⟩;simp only[k.cut];split
 .rfl
 simp[cQ]
theorem Pm.le{h h':ad}{a:Addr}{n:Nat}{cs:List Value}(q:Pm h a n cs)(l:Le h h'):Pm h' a n cs:=by obtain⟨b,d,c,e,fr,f,g⟩:=q;exact⟨b,d,c,e,fr,l _ _ f,g⟩
theorem Sl.bZs{d:Type}{A:Ar}[bM A]{e:Nat}{s:Sh d}{h:ad}{b:Option Addr}{len cap:Nat}{xs:List d}(q:Sl e s h (.slice b len cap) xs){i:Nat}{x:d}(hx:xs[i]? =some x){n:Int}(o:n=(i:Int))
 {k:List Value->Prop} (m:∀cs,s.R h cs x->(∀h' a,Le h h'->a cs->Ai h' (A.jt b n s.n) s.n a)->k cs):Ai h (A.jt b n s.n) s.n k:=by
 obtain⟨p,B,f,u,v,j⟩:=q.out;cases f;rcases j with rfl| ⟨lQ,off,c,fr,rfl,t,g⟩
 .simp at hx
 subst o;have r:Pm h (A.jt (some ⟨lQ,off,none⟩) (i:Int) s.n) s.n ((c.toList.drop (off+i*s.n)).take s.n):=by
  rw[A.xA]
  grind [jt,cQ,oM,hx]
 exact⟨_,r,m _ (g.2 i x hx) (λh' a l I=>⟨_,r.le l,I⟩)⟩
theorem Un{a:Type}{xs:List a}{i:Nat}(x:a)(h:i<xs.length):xs.take i++[x]++xs.drop (i+1)=xs.set i x:=by rw[VS,if_pos h];simp
theorem dt.setAt{a:Type}{A:Ar}[bM A]{e:Nat}{s:Sh a}{h:ad}{b cap:Nat}{xs:List a}(o:dt e s h b cap xs)(c:e∉s.tys){i:Nat}(d:i<xs.length){n:Int}(m:n=(i:Int)){z:Nat}(p:z=s.n)
 {cs:List Value} {x:a} (hx:s.R h cs x) {k:ad->Prop}
 (f:∀h',Kp [b] h h'->(∀tys,e∉tys->cX tys h h')->dt e s h' b cap (xs.set i x)->k h'):Hy h (A.jt (zsA b) n z) cs k:=by
 subst m p;have l:=s.len hx;have g:=o.le;have E:=o.bd;rw[A.xA];simp only[jt,kZY,kJL,cQ,kJe];refine o.write (ys:=[x]) c (i:=i) ip (by simp;omega) (by simp;omega) (by simp[l]) ⟨by simp[l],λj y t=>?_⟩ (λh' q r o'=>f h' q r ?_)
 .have G:j=0:=by
   grind
  subst G
  grind
 rw[<-Un x d];exact o'
theorem dt.kp{a:Type}{e:Nat}{s:Sh a}{h h':ad}{n cap:Nat}{xs:List a}(o:dt e s h n cap xs){bs:List Nat}(k:Kp bs h h')(g:n∉bs)(t:cX s.tys h h'):dt e s h' n cap xs:=by obtain⟨c,b,d,f⟩:=o.out;exact⟨⟨c,k _ _ b g,d.mono t,f⟩,o.le,o.bd⟩
theorem dt.has{a:Type}{e:Nat}{s:Sh a}{h:ad}{n cap:Nat}{xs:List a}(o:dt e s h n cap xs):h n≠none:=by obtain⟨c,b,-⟩:=o.out;rw[b];simp
theorem bA.kp{c:Type}{e:Nat}{s:Sh c}{h0 h h':ad}{v:Value}{xs:List c}(q:bA e s h0 h v xs){bs:List Nat}(k:Kp bs h h')(f:∀n∈bs,h0 n≠none)(t:cX s.tys h h'):bA e s h0 h' v xs:=by
 rcases q.out with g| ⟨b,cap,d,a,o⟩
 .exact⟨.inl g⟩
 exact⟨.inr ⟨b,cap,d,a,o.kp k (λm=>f b m a) t⟩⟩
theorem Ew{a:Type}{e:Nat}{s:Sh a}{h:ad}{n:Nat}{cs:List Value}{x:a}(b:h n=zcL e cs)(r:s.R h cs x):dt e s h n 1 [x]:=by
 have l:=s.len r;refine⟨⟨cs,b,⟨by simp[l],λj y c=>?_⟩,by simp[l]⟩,io,io⟩;have G:j=0:=by
  grind
 subst G
 grind
theorem RC{c cs new:List Value}{p off n:Nat}(h:p+n<=c.length)(a:cs=(c.drop p).take n)(hl:off+new.length<=n):iv c (p+off) new=iv c p (iv cs off new):=by
 have q:cs.length=n:=gg
 have oR:(iv cs off new).length=n:=by rw[fE,q]
 apply kZq;intro j
 grind [nf,iv]
theorem dt.LY{a:Type}{A:Ar}[E:bM A]{e:Nat}{s:Sh a}{h:ad}{b cap:Nat}{xs:List a}(o:dt e s h b cap xs)(t:e∉s.tys){i:Nat}{x:a}(f:xs[i]? =some x){n:Int}(j:n=(i:Int)){z:Nat}(l:z=s.n)
 {off:Nat} {new:List Value} (hl:off+new.length<=s.n) {x':a} (hx:∀cs,s.R h cs x->s.R h (iv cs off new) x') {k:ad->Prop}
 (u:∀h',Kp [b] h h'->(∀tys,e∉tys->cX tys h h')->dt e s h' b cap (xs.set i x')->k h'):Hy h (A .off (A .jt (zsA b) n z) off) new k:=by
 have w:=(HH.1 f).1;obtain⟨c,d,q,r⟩:=o.out;have hR:=q.2 i x f;rw[kJe]at hR;have v:=o.le;have G:i*s.n+s.n<=c.length:=by rw[r,<-kZi];exact kZg _ ip
 have key:=(o.setAt (A:=A) t w j l (hx _ hR) (k:=k) u).out;subst j l;rw[A.xA]at key;rw[bM.off (A:=A),bM.jt (A:=A)];simp only[jt,kZY,kJL,cQ,kJe]at key |-;obtain⟨c',y,L,B,g,C,D,p⟩:=key;rw[d]at g;cases g;refine⟨c.toArray,e,(0,0),rfl,d,by simp;omega,io,λh' m=>p h' ?_⟩;rw[m];simp only;rw[RC (c:=c) (n:=s.n) G rfl hl]
theorem Sl.sJ{d:Type}{A:Ar}[bM A]{e:Nat}{s:Sh d}{h:ad}{b:Option Addr}{len cap:Nat}{xs:List d}(q:Sl e s h (.slice b len cap) xs){i:Nat}{x:d}(hx:xs[i]? =some x){n:Int}(w:n=(i:Int)){o m:Nat}(E:o+m<=s.n)
 {k:List Value->Prop} (v:∀cs,s.R h cs x->(∀h' a,Le h h'->a ((cs.drop o).take m)->Ai h' (A .off (A .jt b n s.n) o) m a)->k ((cs.drop o).take m)):Ai h (A .off (A .jt b n s.n) o) m k:=by
 obtain⟨z,F,t,B,C,u⟩:=q.out;cases t;rcases u with rfl| ⟨lQ,off,c,fr,rfl,r,g⟩
 .simp at hx
 subst w;have y:=oM r g hx;have hR:=g.2 i x hx;have Z:Pm h (A .off (A .jt (some ⟨lQ,off,none⟩) (i:Int) s.n) o) m ((((c.toList.drop (off+i*s.n)).take s.n).drop o).take m):=by
  rw[bM.jt (A:=A),bM.off (A:=A)];simp only[jt,kZY,kJL,cQ];obtain⟨-,hl,c',f,L,p,K⟩:=y;refine⟨rfl,gg,c',f,L,p,λj D=>?_⟩
  grind
 exact⟨_,Z,v _ hR (λh' a l I=>⟨_,Z.le l,I⟩)⟩
open Go.ChangeMaps (setBlock)
variable {a:Type}{A:Ar}{n:Int}{left:List (Value×Value)}{xs:List a}{bytes cap e i m p r size:Nat}{b:Option Addr}{s:Sh a}{d:TypeDesc}{k:Value->ad->Prop}{h h' h0:ad}
variable {P:Program}
theorem Mp.Za{l:List (Value×Value)}(q:Mp h m d l):(l.map (·.1)).Nodup:=by obtain⟨e,c,g,a,b,f⟩:=q.out;rw[<-a,kXS];exact b.2.2
theorem aJd{mt E F:TypeId}(I:P.underlying mt=some (.map E F))(hd:P.underlying E=some d){l:List (Value×Value)}(q:Mp h m d l){key v p:Value}(o:IsKey d key)(N:l[i]? =some (key,p))
  (K:∀h',Mp h' m d (l.set i (key,v))->Kp [m] h h'->(∀tys,cX tys h h')->k undef h'):
 fL (λ_=>P) (λ_=>do Instr.mapUpdate mt (.map (some m)) key v;pure undef) h k:=
 ⟨λw D=>by
  obtain⟨s,c,g,H,r,t⟩:=q.out;have u:=D _ _ g;have J:s.toList[i]?.map (λe=>(e.key,e.val))=some (key,p):=gg
  obtain⟨x,hx,Z⟩:∃x,s.toList[i]? =some x/\(x.key,x.val)=(key,p):=by
   cases hx:s.toList[i]? with
   |none=>grind
   |some x=>grind
  have M:x.key=key:=(Prod.mk.inj Z).1;rcases findNow_spec o s.toList 0 t with⟨f1,f2⟩|⟨j,e,f1,f2,f3⟩
  .exact absurd M (f2 x (kQR hx))
  have B:=((stamped_iff s c).1 r).2.2;have U:j=i:=by
   have A:=HH.1 f2;have C:=HH.1 hx;rcases kQM i j with a|heq|a
   .exfalso;have:=kJJ.1 B i j C.1 A.1 a
    grind
   .exact heq.symm
   exfalso;have:=kJJ.1 B j i A.1 C.1 a
   grind
  subst U;rw[hx]at f2;cases f2;have y:s[j]? =some x:=gg
  let f:MapEntry->MapEntry:=λe=>{ e with key:=key,val:=v };have b:∀e,s[j]? =some e->(f e).key=e.key:=λe z=>by
   grind
  refine⟨undef,_,_,?_,K _ ⟨s.modify j f,c,ae,?_,stamped_modify r j f (λ_ _=>rfl) (λe _ z=>b e z),isKey_modify t j f b⟩ (Kp.set io) (λtys=>cX.FX g),cj.FX D g⟩
  .have G:(Instr.keyThatStays (((s[j]?).map (·.key)).getD key) key).run P w=.ok key w:=by rw[y];simp only[Option.map_some,kZY,M];exact run_keyThatStays o
   simp[Instr.mapUpdate,run_underlying I,Go.MapKept.run_getObj_map u,run_checkKey hd o,run_findKey hd f1,G,Go.MapKept.run_setObj_map _ u,Result.andThen,f]
  rw[<-H];apply kZq;intro n
  grind⟩
structure It(h:ad)(r m:Nat)(left:List (Value×Value))(last:Option (Value×Value)):Prop where
 out:∃es clock since seen c0,h m=some (.map es clock)/\h r=some (.mapIter (some m) since seen c0)/\(∀x∈es.toList,x.born<since)/\since<=c0/\since<=clock/\(es.toList.map (·.born)).Nodup/\
  left=(leftOf es seen).toList.map (λe=>(e.key,e.val))/\∀p,last=some p->∃e∈es.toList,(e.key,e.val)=p/\∃XV:Array Nat,seen=XV.push e.born/\c0=clock
theorem It.kp{l:Option (Value×Value)}(q:It h r m left l){bs:List Nat}(k:Kp bs h h')(j:r∉bs)(i:m∉bs):It h' r m left l:=by obtain⟨b,c,s,e,a,d,f,g⟩:=q.out;exact⟨b,c,s,e,a,k _ _ d i,k _ _ f j,g⟩
theorem Uo{mt f t:TypeId}(u:P.underlying mt=some (.map f t)){l:List (Value×Value)}(q:Mp h m d l)
  (K:∀r h',h r=none->Le h h'->It h' r m l none->k (.zP r) h'):
 fL (λ_=>P) (λ_=>Instr.range mt (.map (some m))) h k:=
 ⟨λw a=>by
  obtain⟨s,c,g,i,b,x⟩:=q.out;have j:=a _ _ g;have n:h w.heap.size=none:=by
   cases he:h w.heap.size with
   |none=>rfl
   |some o=>have:=a _ _ he;simp at this
  refine⟨_,_,_,run_range_map w mt f t m s c u j,K w.heap.size (bO h w.heap.size (.mapIter (some m) c #[] c)) n (Le.set n) ?_,?_⟩
  .have V:m≠w.heap.size:=λe=>gg
   refine⟨s,c,c,#[],c,by rw[cH V];exact g,ae,b.1,qA _,qA _,b.2.1,?_,λp v=>(by cases v)⟩;rw[<-i];simp[leftOf];rw[List.filter_eq_self.2 (λ_ _=>rfl)]
  exact cj.new a _⟩
theorem wR{a:Array MapEntry}{s:Array Nat}{e:MapEntry}:(leftOf a (s.push e.born)).toList=(leftOf a s).toList.filter (λx=>x.born !=e.born):=by
 simp only[leftOf,fz,wS]
 grind
theorem XU{ty:TypeId}{t:Option (Value×Value)}(q:It h r m left t)
  (h0:left=[]->k (.tuple #[.bool false]) h)
 (H:∀key val u h',(key,val)∈left->(∀p∈left,p=(key,val)\/p∈u)->(∀p∈u,p∈left)->u.length<left.length->It h' r m u (some (key,val))->Kp [r] h h'->(∀tys,cX tys h h')->k (.tuple #[.bool true,key,val]) h'):
 fL (λ_=>P) (λ_=>Instr.next (.zP r) false ty) h k:=
 ⟨λw j=>by
  obtain⟨d,l,i,s,y,z,n,A,G,X,B,C,N⟩:=q.out;rcases run_next_at (P:=P) w ty r m i y s d l (j _ _ n) (j _ _ z) A G with⟨f1,f2⟩|⟨e,f1,f,f2,f3⟩
  .grind [cj.refl]
  have L:e∈d.toList:=by have:e∈(leftOf d s).toList:=f1;simp only[leftOf,fz,kZp]at this;exact this.1
  have V:m≠r:=λe=>gg
  refine⟨_,_,bO h r (.mapIter (some m) i (s.push e.born) l),f3,H e.key e.val ((leftOf d (s.push e.born)).toList.map (λe=>(e.key,e.val))) _ ?_ ?_ ?_ ?_ ?_ (Kp.set io) ?_,?_⟩
  .grind
  .intro p g;rw[C]at g;obtain⟨x,hx,rfl⟩:=kZd.1 g;by_cases o:x.born=e.born
   .left;have K:x∈d.toList:=by simp only[leftOf,fz,kZp]at hx;exact hx.1
    obtain⟨a,I⟩:=kXT K;obtain⟨b,E⟩:=kXT L;have:a=b:=by
     obtain⟨Z,F⟩:=HH.1 I;obtain⟨R,Q⟩:=HH.1 E;have g:=kJJ.1 B
     grind
    grind
   grind [wR,hx]
  .grind [hx,wR]
  .rw[C,kZl,kZl,wR];refine Nat.lt_of_le_of_ne (Dg _ _) (λJ=>?_);have:=cg.1 J e f1;simp at this
  .exact⟨d,l,i,s.push e.born,l,by rw[cH V];exact z,ae,A,X,X,B,rfl,λp g=>gg⟩
  .intro tys b c M fr _ o
   grind [cH]
  have O:f.heap=w.heap/\f.os=w.os/\f.tape=w.tape/\f.output=w.output:=by
   rcases f2 with rfl|rfl
   .exact⟨rfl,rfl,rfl,rfl⟩
   exact⟨rfl,rfl,rfl,rfl⟩
  have o:f.heap[r]? =some (.mapIter (some m) i s y):=by rw[O.1];exact j _ _ n
  have D:=heap_set (o':=Obj.mapIter (some m) i (s.push e.born) l) o;exact cj.set j n D.1 (λb v=>by rw[<-O.1];exact D.2 b v) (by simp[setBlock,O.1]) ⟨O.2.1,O.2.2.1,O.2.2.2⟩⟩
theorem Uq{p:Value×Value}(q:It h r m left (some p))(K:k (.tuple #[p.1,p.2]) h):
 fL (λ_=>P) (λ_=>Instr.entry (.zP r)) h k:=
 ⟨λw a=>by
  obtain⟨f,c,s,n,b,i,j,u,v,d,l,x,o⟩:=q.out;obtain⟨e,g,t,X,rfl,rfl⟩:=o p rfl;refine⟨_,w,h,run_entry_at w r m s X f b e (a _ _ j) (a _ _ i) g l,?_,cj.refl a⟩
  grind⟩
structure lU{α:Type}(e:Nat)(s:Sh α)(h0 h:ad)(v:Value)(xs:List α)(p:Nat):Prop where
 out:(∃b,v=.slice b 0 0/\xs=[])\/∃nb cap pre,v=.slice (some ⟨nb,pre.length*s.n,none⟩) xs.length (cap-pre.length)/\h0 nb=none/\dt e s h nb cap (pre++xs)/\(pre++xs).length<=p
theorem bA.t{v:Value}(q:bA e s h0 h v xs)(d:xs.length<=p):lU e s h0 h v xs p:=by
 rcases q.out with g| ⟨n,cap,b,c,o⟩
 .exact⟨.inl g⟩
 exact⟨.inr ⟨n,cap,[],iu b,c,iu o,iu d⟩⟩
theorem lU.sl{v:Value}(q:lU e s h0 h v xs p):Sl e s h v xs:=by
 rcases q.out with⟨b,rfl,rfl⟩|⟨n,cap,pre,rfl,-,o,-⟩
 .exact Sl.nil
 have l:=o.le;have k:=o.bd;rw[kXy]at l k;obtain⟨c,d,f,g⟩:=o.out;have:=f.drop (i:=pre.length) io;rw[nX,kJe]at this;exact⟨_,_,rfl,ip,ip,.inr ⟨n,_,_,_,rfl,d,this⟩⟩
theorem lU.mono{b:Type}{s:Sh b}{v:Value}{xs:List b}(q:lU e s h0 h v xs p)(hl:cX (e::s.tys) h h'):lU e s h0 h' v xs p:=by
 rcases q.out with a| ⟨n,cap,pre,a,c,o,d⟩
 .exact⟨.inl a⟩
 exact⟨.inr ⟨n,cap,pre,a,c,o.mono hl,d⟩⟩
theorem lU.base{b:Type}{s:Sh b}{a:ad}{v:Value}{xs:List b}(q:lU e s a h v xs p)(hl:Le h0 a):lU e s h0 h v xs p:=by
 rcases q.out with g| ⟨n,cap,pre,c,d,o,f⟩
 .exact⟨.inl g⟩
 exact⟨.inr ⟨n,cap,pre,c,hl.none d,o,f⟩⟩
theorem lU.tail{c:Type}[g:bM A]{s:Sh c}{len:Nat}{x:c}{r:List c}(q:lU e s h0 h (.slice b len cap) (x::r) p){z:Int}(u:bg z 1){c':Nat}(j:m=len-1)(i:c'=cap-1):
 lU e s h0 h (.slice (A .cut b z (A .nat cap) s.n) m c') r p:=by
 have I:=u.eq;rcases q.out with⟨b,f,a⟩|⟨n,d,pre,f,a,o,k⟩
 .cases a
 cases f;subst j i;have l:=o.le;rw[kXy,kZs]at l;simp only[g.cut,g.nat,kZn];refine⟨?_⟩;by_cases H:((d-pre.length:Nat):Int)=z
 .left;rw[if_pos H];have t:r=[]:=kZh ip;refine⟨some ⟨n,pre.length*s.n,none⟩,?_,t⟩
  grind
 right;rw[if_neg H];refine⟨n,d,pre++[x],?_,a,iu o,iu k⟩;simp[cQ,I,kXh];omega
theorem lU.append{D:Type}{s:Sh D}{x:Option Addr}{len n H:Nat}{xs ys:List D}(q:lU e s h0 h (.slice b len cap) xs p)(C:Sl e s h (.slice x n H) ys)(K:e∉s.tys)(Q:size=s.n)(T:bytes<=128)(M:len+n<=2^39)(V:p+n<=2^40)(J:len<=p)
  (O:Le h0 h) (t:∀m f c' h',m=len+n->Le h0 h'->(∀tys,e∉tys->cX tys h h')->lU e s h0 h' (.slice f m c') (xs++ys) (p+n)->(∀j o,h j=some o->(∀c fr,o≠.cells c e fr)->h' j=some o)->k (.slice f m c') h'):
 iF h b len cap x n size bytes e k:=by
 subst Q;obtain⟨cs,F,w,y,z⟩:=C.lr;have l:=q.sl.len;have I:=C.len;refine⟨cs,F,?_⟩;by_cases xf:len+n<=cap
 .refine⟨y,λ_=>?_,λZ=>ip⟩;by_cases mN:n=0
  .have E:cs=[]:=kZh gg;have U:ys=[]:=kZh ip;refine .inl ⟨E,t _ _ _ h rfl O (λ_ _=>cX.refl _ _) ?_ (λ_ _ a _=>a)⟩
   grind
  rcases q.out with⟨f,A,r⟩|⟨d,G,pre,A,r,o,N⟩
  .grind
  cases A;have u:=o.le;have S:=N;rw[kXy]at u S;refine .inr ⟨⟨d,(pre++xs).length*s.n,none⟩,by simp[cQ,kXh],?_⟩;have P:Rows s h cs 0 ys:=by
   have:=z h (cX.refl _ _) [] []
   grind
  refine o.write (ys:=ys) K (i:=(pre++xs).length) (qA _) gg gg (by rw[w,I]) P (λh' B R o'=>?_);rw[kXo,wy ip,kJH,kJk]at o';refine t _ _ _ h' rfl (O.bf (iu r) B) R ⟨.inr ⟨d,G,pre,by rw[kXy,I],r,o',by simp;omega⟩⟩ (λj v a W=>?_);refine B j v a ?_;intro L;simp at L;obtain⟨c,Y,-⟩:=o.out
  grind
 refine tO q.sl ip rfl T M y w (ys:=ys) gg (λh' hl=>?_) (λd c h' e1 g X o=>?_)
 .have:=z h' (hl.t _) [] []
  grind
 refine t _ _ _ h' rfl (O.trans g) (λtys _=>g.t tys) ⟨.inr ⟨d,c,[],by simp[l,I],O.none e1,iu o,by simp;omega⟩⟩ (λj v a _=>g j v a)
structure Hz{α:Type}(s:Sh α)(h:ad)(v:Value)(xs:List α):Prop where
 out:∃b cap,v=.slice b xs.length cap/\xs.length<=2^50/\(xs=[]\/∃lQ off c e fr,b=some ⟨lQ,off,none⟩/\h lQ=some (.cells c e fr)/\Rows s h c.toList off xs)
theorem Hz.mono{d:Type}{s:Sh d}{v:Value}{xs:List d}(hl:Le h h')(q:Hz s h v xs):Hz s h' v xs:=by
 obtain⟨b,cap,j,k,a⟩:=q.out;refine⟨b,cap,j,k,?_⟩;rcases a with a| ⟨lQ,off,c,e,fr,g,f,i⟩
 .exact .inl a
 exact .inr ⟨lQ,off,c,e,fr,g,hl _ _ f,i.mono (hl.t _)⟩
theorem Hz.load[bM A]{len:Nat}(q:Hz s h (.slice b len cap) xs){x:a}(hx:xs[i]? =some x)(l:n=(i:Int))
 {k:List Value->Prop} (j:∀cs,s.R h cs x->k cs):Ai h (A.jt b n s.n) s.n k:=by
 obtain⟨m,B,d,p,f⟩:=q.out;cases d;rcases f with rfl| ⟨lQ,off,c,e,fr,rfl,o,g⟩
 .simp at hx
 subst l;refine⟨_,?_,j _ (g.2 i x hx)⟩;rw[A.xA]
 grind [jt,cQ,oM,hx]
theorem Hz.len{len:Nat}(q:Hz s h (.slice b len cap) xs):len=xs.length:=by obtain⟨d,i,c,-⟩:=q.out;cases c;rfl
theorem Hz.bound{len:Nat}(q:Hz s h (.slice b len cap) xs):len<=2^50:=by
 obtain⟨c,i,d,e,-⟩:=q.out
 grind
theorem Hz.bu{len:Nat}(q:Hz s h (.slice b len cap) xs)(hl:0<len:=by omega):b.isSome=true:=by
 obtain⟨c,i,d,e,f⟩:=q.out
 grind
theorem Hz.form{v:Value}(q:Hz s h v xs):∃b l c,v=.slice b l c:=by
 obtain⟨b,cap,d,-⟩:=q.out
 grind
theorem Sl.CE[bM A]{len:Nat}(q:Sl e s h (.slice b len cap) xs){x:a}(hx:xs[i]? =some x)(p:n=(i:Int)){o1 o2:Nat}(r:o1+o2+m<=s.n)
 {k:List Value->Prop} (l:∀cs,s.R h cs x->k ((cs.drop (o1+o2)).take m)):Ai h (A .off (A .off (A .jt b n s.n) o1) o2) m k:=by
 have:=(q.cI (A:=A) hx p (o:=o1+o2) (m:=m) r l).out;obtain⟨t,B,f,w,y,j⟩:=q.out;cases f;rcases j with rfl| ⟨lQ,off,c,fr,rfl,u,v⟩
 .simp at hx
 obtain⟨cs,g,d⟩:=this;refine⟨cs,?_,d⟩;rw[bM.jt (A:=A),bM.off (A:=A)]at g |-
 grind [jt,cQ]
theorem dt.BO{b:Nat}{ys:List a}(o:dt e s h b cap xs)(l:e∉s.tys)(p:i<=xs.length){x:Option Addr}{n j:Nat}(q:Sl e s h (.slice x n j) ys)(w:i+n<=cap)(v:i+n<=2^40)
  (A:size=s.n) 
 (t:∀h' m,m=i+n->Kp [b] h h'->(∀tys,e∉tys->cX tys h h')->dt e s h' b cap (xs.take i++ys++xs.drop (i+n))->k (.slice (zsA b) m cap) h'):
 iF h (zsA b) i cap x n size bytes e k:=by
 subst A;obtain⟨cs,c,d,f,g⟩:=q.lr;have I:=q.len;refine⟨cs,c,f,λ_=>?_,λy=>ip⟩;by_cases N:n=0
 .have r:cs=[]:=kZh gg;have O:ys=[]:=kZh ip;refine .inl ⟨r,t h _ rfl (Kp.refl _ _) (λ_ _=>cX.refl _ _) ?_⟩;rw[O,kJH,N,vy,GD];exact o
 refine .inr ⟨⟨b,i*s.n,none⟩,by simp[cQ],?_⟩;have u:Rows s h cs 0 ys:=by
  have:=g h (cX.refl _ _) [] []
  grind
 refine o.write (ys:=ys) l (i:=i) p ip ip (by rw[d,I]) u (λh' z B o'=>?_)
 grind
theorem dt.aQT{b:Nat}(o:dt e s h b cap xs)(f:e∉s.tys){n:Nat}{z:List Value}(c:jL z=true)(j:z.length=s.n)(i:xs.length<=p)(d:p+n<=cap){k:ad->Prop}
 (g:∀h',Kp [b] h h'->(∀tys,e∉tys->cX tys h h')->dt e s h' b cap xs->k h'):Aj h (some ⟨b,p*s.n,none⟩) n z k:=by
 refine⟨c,.inr ⟨_,rfl,?_⟩⟩;refine o.aJg f (kZg _ i) ?_ g;rw[gF,j,<-kXh];exact kZg _ d
theorem erase_eq(h:i<xs.length):(xs.take i++xs.drop (i+1)++xs.drop (i+(xs.length-(i+1)))).take (xs.length-1)=xs.eraseIdx i:=by rw[kB (by simp;omega),nM,kXe (by simp;omega)]
theorem bQs[h:bM A]{b s off:Nat}(a:n=(i:Int)):A .off (A .jt (zsA b) n s) off=⟨b,i*s+off,none⟩:=by
 subst a;rw[h.jt,h.off]
 grind [jt,cQ]
theorem dt.dXx{m β:Type}[I:bM A]{s1:Sh m}{s2:Sh β}(W:s1.n=s2.n)(f:m->β){b:ad}{d:Nat}{xs:List m}(o:dt e s1 h d cap xs)(X:b d=h d){x:m}(u:xs[i]? =some x)(F:n=(i:Int)){w:Nat}(H:w=s1.n)
 {off:Nat} {new:List Value} (hl:off+new.length<=s1.n) {x':β} (hx:∀a cs,Kp [d] b a->(∀tys,e∉tys->cX tys b a)->s1.R h cs x->s2.R a (iv cs off new) x')
 (V:∀a cs j y,Kp [d] b a->(∀tys,e∉tys->cX tys b a)->j≠i->xs[j]? =some y->s1.R h cs y->s2.R a cs (f y)) {k:ad->Prop}
 (E:∀a,Kp [d] b a->(∀tys,e∉tys->cX tys b a)->dt e s2 a d cap ((xs.map f).set i x')->k a):Hy b (A .off (A .jt (zsA d) n w) off) new k:=by
 have J:=(HH.1 u).1;obtain⟨c,B,t,p⟩:=o.out;have hR:=t.2 i x u;rw[kJe]at hR;have q:=o.le;have G:i*s1.n+s1.n<=c.length:=by rw[p,<-kZi];exact kZg _ ip
 have s:=X.trans B;rw[bQs (A:=A) F];subst H;refine⟨c.toArray,e,(0,0),rfl,s,by simp;omega,io,λa l=>?_⟩;simp only at l;have C:Kp [d] b a:=by rw[l];exact Kp.set io
 have Z:∀tys,e∉tys->cX tys b a:=λtys D=>by rw[l];exact cX.set s D
 refine E a C Z ⟨⟨iv c (i*s1.n+off) new,by rw[l];simp[ae],⟨?_,λj y g=>?_⟩,?_⟩,gg,by simp;exact o.bd⟩
 .rw[fE,p,<-W];simp only[kJe,kJE,kZl];exact kZg _ q
 .simp only[kJe];rw[<-W];have N:iv c (i*s1.n+off) new=iv c (i*s1.n) (iv ((c.drop (i*s1.n)).take s1.n) off new):=RC G rfl hl;have v:((c.drop (i*s1.n)).take s1.n).length=s1.n:=gg
  rw[kKl]at g;split at g
  .grind [FC,fE,hx]
  rename_i e1;rw[kZf]at g;cases r:xs[j]? with
  |none=>grind
  |some z=>
   rw[r]at g;simp at g;subst g;have L:=(HH.1 r).1;rw[N,uz (by rw[fE,v];exact G)]
   .have:=t.2 j z r
    grind
   rw[fE,v];rcases kKf j i with Z|K
   .left;rw[<-kZi];exact kZg _ Z
   right;rw[<-kZi];exact kZg _ ip
 rw[fE,p,W]
def km(h:ad)(n:Nat):ad:=λb=>if b=n then none else h b
theorem uM(h:ad)(n:Nat):Le (km h n) h:=λb o a=>by
 grind [km]
theorem oD(h:ad)(n:Nat):km h n n=none:=by unfold km;grind
theorem pT{n b:Nat}(a:b≠n):km h n b=h b:=by unfold km;rw[if_neg a]
theorem bA.KQ{F:Type}{s:Sh F}{x:Option Addr}{len n G:Nat}{xs ys:List F}(q:bA e s h0 h (.slice b len cap) xs)(D:Sl e s h (.slice x n G) ys)(y:e∉s.tys)(B:size=s.n)(C:bytes<=128)(A:len+n<=2^39)
  (O:Le h0 h) (z:∀m d c' h',m=len+n->Le h0 h'->(∀j o,h j=some o->b≠zsA j->h' j=some o)->bA e s h0 h' (.slice d m c') (xs++ys)->(∀j,d=zsA j->b=zsA j\/h j=none\/m=0)->k (.slice d m c') h'):
 iF h b len cap x n size bytes e k:=by
 rcases q.out with⟨L,u,w⟩|⟨c,M,u,w,o⟩
 .cases u;have v:bA e s h h (.slice b 0 0) xs:=⟨.inl ⟨b,rfl,w⟩⟩;refine v.append D y B C A (Le.refl _) (λm d c' h' r l t I i=>?_);refine z m d c' h' r (O.trans l) (λj o a _=>l j o a) (i.base O) (λj a=>?_);rcases i.out with⟨p,f,g⟩|⟨H,K,f,g,o2⟩
  .grind
  grind
 cases u;have v:bA e s (km h c) h (.slice (zsA c) xs.length cap) xs:=⟨.inr ⟨c,cap,rfl,oD h c,o⟩⟩;refine v.append D y B C A (uM h c) (λm d c' h' r l t I i=>?_);have E:∀j o,h j=some o->j≠c->h' j=some o:=λj o a V=>l j o (by rw[pT V];exact a);have J:Le h0 h':=λj o a=>by
  have V:j≠c:=λe=>gg
  exact E j o (O j o a) V
 refine z m d c' h' r J (λj o a V=>E j o a (λe=>V (by rw[e]))) ?_ (λj a=>?_)
 .rcases i.out with⟨p,f,g⟩|⟨H,K,f,g,o2⟩
  .exact⟨.inl ⟨p,f,g⟩⟩
  refine⟨.inr ⟨H,K,f,?_,o2⟩⟩;by_cases V:H=c
  .grind
  rw[pT V]at g;exact O.none g
 rcases i.out with⟨p,f,g⟩|⟨H,K,f,g,o2⟩
 .grind
 grind [pT]
theorem lU.KQ{N:Type}{s:Sh N}{x:Option Addr}{len n P:Nat}{xs ys:List N}(q:lU e s h0 h (.slice b len cap) xs p)(L:Sl e s h (.slice x n P) ys)(D:e∉s.tys)(G:size=s.n)(I:bytes<=128)(F:len+n<=2^39)(A:p+n<=2^40)(J:len<=p)
  (O:Le h0 h) (E:∀m d c' h',m=len+n->Le h0 h'->(∀j o,h j=some o->(∀a,b=some a->a.block≠j)->h' j=some o)->lU e s h0 h' (.slice d m c') (xs++ys) (p+n)->(∀r,d=some r->(∃a,b=some a/\a.block=r.block)\/h r.block=none\/m=0)->k (.slice d m c') h'):
 iF h b len cap x n size bytes e k:=by
 rcases q.out with⟨X,y,C⟩|⟨c,B,pre,y,C,o,S⟩
 .cases y;have z:lU e s h h (.slice b 0 0) xs p:=⟨.inl ⟨b,rfl,C⟩⟩;refine z.append L D G I F A J (Le.refl _) (λm d c' h' w l t u U=>?_);refine E m d c' h' w (O.trans l) (λj o i _=>l j o i) (u.base O) (λr R=>?_);rcases u.out with⟨v,f,g⟩|⟨H,K,Q,f,g,o2,-⟩
  .grind
  grind
 cases y;have z:lU e s (km h c) h (.slice (some ⟨c,pre.length*s.n,none⟩) xs.length (B-pre.length)) xs p:=⟨.inr ⟨c,B,pre,rfl,oD h c,o,S⟩⟩;refine z.append L D G I F A J (uM h c) (λm d c' h' w l t u U=>?_);have M:∀j o,h j=some o->j≠c->h' j=some o:=λj o i V=>l j o (by rw[pT V];exact i);have W:Le h0 h':=λj o i=>by
  have V:j≠c:=λe=>gg
  exact M j o (O j o i) V
 refine E m d c' h' w W (λj o i V=>M j o i (λe=>V _ rfl e.symm)) ?_ (λr R=>?_)
 .rcases u.out with⟨v,f,g⟩|⟨H,K,Q,f,g,o2,T⟩
  .exact⟨.inl ⟨v,f,g⟩⟩
  refine⟨.inr ⟨H,K,Q,f,?_,o2,T⟩⟩;by_cases V:H=c
  .grind
  rw[pT V]at g;exact O.none g
 rcases u.out with⟨v,f,g⟩|⟨H,K,Q,f,g,o2,T⟩
 .grind
 grind [pT]
variable {P:Program}
end Go.Sx
