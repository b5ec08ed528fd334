import Derived.Test.YtficmdggjjepmaaGreatSxB
import Derived.Laws.LoneSync
import Derived.Lib.Bytealg
import Derived.Maps.RangeRun
set_option linter.all false
namespace Go.Sx
def Le(h h':ab):Prop:=∀b o,h b=some o->h' b=some o
theorem Le.refl(h:ab):Le h h:=λ_ _ x=>x
theorem Le.trans{a b c:ab}(x:Le a b)(y:Le b c):Le a c:=λk o q=>y k o (x k o q)
theorem Le.set{h:ab}{n:Nat}{o:Obj}(c:h n=none):Le h (bH h n o):=λb q a=>by
 unfold bH;split
 .rename_i e;rw[e,c]at a;cases a
 exact a
theorem ae{h:ab}{n:Nat}{o:Obj}:bH h n o n=some o:=by unfold bH;rw[if_pos rfl]
theorem bU{h:ab}{n b:Nat}{o:Obj}(a:b≠n):bH h n o b=h b:=by unfold bH;rw[if_neg a]
theorem dN{h:ab}{n:Nat}{o o':Obj}:bH (bH h n o) n o'=bH h n o':=by funext b;unfold bH;split<;>rfl
def cf(tys:List Nat)(h h':ab):Prop:=∀b c e fr,e∈tys->h b=some (.cells c e fr)->h' b=some (.cells c e fr)
theorem Le.t{h h':ab}(x:Le h h')(tys:List Nat):cf tys h h':=λb c e fr _ q=>x b _ q
theorem cf.refl(tys:List Nat)(h:ab):cf tys h h:=λ_ _ _ _ _ x=>x
theorem cf.trans{tys:List Nat}{a b c:ab}(x:cf tys a b)(y:cf tys b c):cf tys a c:=λk d e fr m q=>y k d e fr m (x k d e fr m q)
theorem cf.set{tys:List Nat}{h:ab}{n e:Nat}{c:Array Value}{fr:Nat×Nat}{o:Obj}(g:h n=some (.cells c e fr))(f:e∉tys):cf tys h (bH h n o):=λb d i E m a=>by
 unfold bH;split
 .rename_i q;rw[q,g]at a;cases a;exact absurd m f
 exact a
theorem cf.sub{tys X:List Nat}{h h':ab}(x:cf tys h h')(s:∀t∈X,t∈tys:=by decide):cf X h h':=λb c e fr m q=>x b c e fr (s e m) q
structure Sh(α:Type)where
 n:Nat
 R:ab->List Value->α->Prop
 len:∀ {h cs x},R h cs x->cs.length=n
 one:∀ {h cs x},R h cs x->gE cs=true
 tys:List Nat
 mono:∀ {h h' cs x},cf tys h h'->R h cs x->R h' cs x
def Rows{α:Type}(s:Sh α)(h:ab)(c:List Value)(off:Nat)(xs:List α):Prop:=
 off+xs.length*s.n<=c.length/\∀i x,xs[i]? =some x->s.R h ((c.drop (off+i*s.n)).take s.n) x
theorem Rows.mono{a:Type}{s:Sh a}{h h':ab}{c:List Value}{off:Nat}{xs:List a}(hl:cf s.tys h h')(r:Rows s h c off xs):Rows s h' c off xs:=
 ⟨r.1,λi x hx=>s.mono hl (r.2 i x hx)⟩
structure Sl{α:Type}(e:Nat)(s:Sh α)(h:ab)(v:Value)(xs:List α):Prop where
 out:∃b cap,v=.slice b xs.length cap/\xs.length<=cap/\xs.length<=2^40/\
  (xs=[]\/∃dM off c fr,b=some ⟨dM,off,none⟩/\h dM=some (.cells c e fr)/\Rows s h c.toList off xs)
theorem Sl.mono{d:Type}{e:Nat}{s:Sh d}{h h':ab}{v:Value}{xs:List d}(hl:cf (e::s.tys) h h')(q:Sl e s h v xs):Sl e s h' v xs:=by
 obtain⟨b,cap,j,k,l,a⟩:=q.out;refine⟨b,cap,j,k,l,?_⟩;rcases a with a| ⟨dM,off,c,fr,g,f,i⟩
 .exact .inl a
 exact .inr ⟨dM,off,c,fr,g,hl _ _ _ _ (by simp) f,i.mono (hl.sub λt m=>by simp[m])⟩
def sM{α:Type}(e:Nat)(s:Sh α):Sh (List α)where
 n:=1
 R h cs xs:=∃v,cs=[v]/\Sl e s h v xs
 len:=by rintro h cs x ⟨v,rfl,-⟩;rfl
 one:=by rintro h cs x ⟨v,rfl,q⟩;obtain⟨b,cap,rfl,-⟩:=q.out;rfl
 tys:=e::s.tys
 mono:=by rintro h h' cs x hl ⟨v,rfl,q⟩;exact⟨v,rfl,q.mono hl⟩
theorem jo{a:Type}{s:Sh a}{h:ab}{c:Array Value}{e:Nat}{fr:Nat×Nat}{d off:Nat}{xs:List a}(b:h d=some (.cells c e fr))(r:Rows s h c.toList off xs){i:Nat}{x:a}
 (hx:xs[i]? =some x):IH h ⟨d,off+i*s.n,none⟩ s.n ((c.toList.drop (off+i*s.n)).take s.n):=by
 refine⟨rfl,s.len (r.2 i x hx),c,e,fr,b,λj f=>?_⟩;rw[hU,if_pos f,nM];simp
theorem Sl.load{a:Type}{A:Ar}[aV A]{e:Nat}{s:Sh a}{h:ab}{b:Option Addr}{len cap:Nat}{xs:List a}(q:Sl e s h (.slice b len cap) xs){i:Nat}{x:a}(hx:xs[i]? =some x){n:Int}(m:n=(i:Int))
 {k:List Value->Prop} (l:∀cs,s.R h cs x->k cs):vX h (A.fM b n s.n) s.n k:=by
 obtain⟨o,Q,f,p,r,j⟩:=q.out;cases f;rcases j with rfl| ⟨dM,off,c,fr,rfl,d,g⟩
 .simp at hx
 subst m;refine⟨_,?_,l _ (g.2 i x hx)⟩;rw[A.pd];simp only[fM,hJY,zw,bL];exact jo d g hx
theorem Sl.len{a:Type}{e:Nat}{s:Sh a}{h:ab}{b:Option Addr}{len cap:Nat}{xs:List a}(q:Sl e s h (.slice b len cap) xs):len=xs.length:=by obtain⟨d,Q,c,-⟩:=q.out;cases c;rfl
theorem Sl.aR{a:Type}{e:Nat}{s:Sh a}{h:ab}{b:Option Addr}{len cap:Nat}{xs:List a}(q:Sl e s h (.slice b len cap) xs)(hl:0<len:=by omega):b.isSome=true:=by
 obtain⟨g,Q,d,i,j,f⟩:=q.out;cases d;rcases f with rfl| ⟨dM,off,c,fr,rfl,-⟩
 .simp at hl
 rfl
theorem Sl.bound{a:Type}{e:Nat}{s:Sh a}{h:ab}{b:Option Addr}{len cap:Nat}{xs:List a}(q:Sl e s h (.slice b len cap) xs):len<=2^40/\len<=cap:=by obtain⟨g,Q,c,d,f,-⟩:=q.out;cases c;exact⟨f,d⟩
theorem Sl.iu{f:Type}{e:Nat}{s:Sh f}{h:ab}{b:Option Addr}{len cap:Nat}{xs:List f}(q:Sl e s h (.slice b len cap) xs):
 ∃cs,YF h b (len*s.n) cs/\cs.length=len*s.n/\gE cs=true/\∀h',cf s.tys h h'->∀p r,Rows s h' (p++cs++r) p.length xs:=by
 obtain⟨w,Q,l,y,z,n⟩:=q.out;cases l;rcases n with rfl| ⟨dM,off,c,fr,rfl,k,g⟩
 .exact⟨[],.inl ⟨by simp,rfl⟩,by simp,rfl,λh' _ p r=>⟨by simp,λi x hx=>by simp at hx⟩⟩
 refine⟨(c.toList.drop off).take (xs.length*s.n),.inr ⟨_,rfl,rfl,?_,c,e,fr,k,λj d=>?_⟩,?_,?_,λh' hl p r=>⟨?_,λi x hx=>?_⟩⟩
 .have:=g.1;simp at this |-;omega
 .rw[hU,if_pos d,nM];simp
 .have:=g.1;simp at this |-;omega
 ·-- gE
  have key:∀m,m<=xs.length->gE ((c.toList.drop off).take (m*s.n))=true:=λm=>by
   induction m with
   |zero=>intro _;simp[gE]
   |succ m v=>
    intro A;have hx:xs[m]? =some xs[m]:=by simp[show m<xs.length by omega]
    have a:=s.one (g.2 m _ hx);have o:(c.toList.drop off).take ((m+1)*s.n)=(c.toList.drop off).take (m*s.n)++(c.toList.drop (off+m*s.n)).take s.n:=by rw[hJI,List.take_add,hKa]
    rw[o];exact xS (v (by omega)) a
  exact key _ (mr _)
 .have:=g.1;simp at this |-;omega
 have a:=g.2 i x hx;have u:i<xs.length:=(dB.1 hx).1;have t:=g.1;have e1:i*s.n+s.n<=xs.length*s.n:=by rw[<-hJI];exact xt _ u
 have:((p++(c.toList.drop off).take (xs.length*s.n)++r).drop (p.length+i*s.n)).take s.n=(c.toList.drop (off+i*s.n)).take s.n:=by
  apply rv;intro j;simp only[hU];split
  .rename_i d;rw[nM,ym,hJP (by omega),hJQ (by simp at t |-;omega),hU,if_pos (by omega),nM,nM];congr 1;omega
  rfl
 rw[this];exact s.mono hl a
theorem Sl.fresh{a:Type}{e:Nat}{s:Sh a}{h:ab}{n:Nat}{c:List Value}{xs:List a}{cap:Nat}(b:h n=some (.cells c.toArray e (0,0)))(r:Rows s h c 0 xs)(hl:xs.length<=2^40)(d:xs.length<=cap):
 Sl e s h (.slice (some ⟨n,0,none⟩) xs.length cap) xs:=
 ⟨some ⟨n,0,none⟩,cap,rfl,d,hl,.inr ⟨n,0,c.toArray,(0,0),rfl,b,by simpa using r⟩⟩
theorem Sl.nil{a:Type}{e:Nat}{s:Sh a}{h:ab}{b:Option Addr}{cap:Nat}:Sl e s h (.slice b 0 cap) ([]:List a):=
 ⟨b,cap,rfl,by simp,by simp,.inl rfl⟩
theorem aL{t:Bool}{x y:Unit->Prop}(h:t=true->x ())(a:t=false->y ()):JR t x y:=by
 cases t
 .exact a rfl
 exact h rfl
structure cM{α:Type}(e:Nat)(s:Sh α)(h:ab)(nb cap:Nat)(xs:List α):Prop where
 out:∃c,h nb=some (.cells (List.toArray c) e (0,0))/\Rows s h c 0 xs/\c.length=cap*s.n
 le:xs.length<=cap
 bd:xs.length<=2^40
theorem cM.sl{a:Type}{e:Nat}{s:Sh a}{h:ab}{b cap:Nat}{xs:List a}(o:cM e s h b cap xs){n:Nat}(g:n=xs.length):Sl e s h (.slice (some ⟨b,0,none⟩) n cap) xs:=by obtain⟨c,d,f,-⟩:=o.out;subst g;exact Sl.fresh d f o.bd o.le
theorem cM.mono{a:Type}{e:Nat}{s:Sh a}{h h':ab}{n cap:Nat}{xs:List a}(hl:cf (e::s.tys) h h')(o:cM e s h n cap xs):cM e s h' n cap xs:=by obtain⟨c,b,d,f⟩:=o.out;exact⟨⟨c,hl _ _ _ _ (by simp) b,d.mono (hl.sub λt g=>by simp[g]),f⟩,o.le,o.bd⟩
theorem fj{j:Type}{e:Nat}{s:Sh j}{h:ab}{x:Option Addr}{n m:Nat}{xs:List j}(q:Sl e s h (.slice x n m) xs)(A:e∉s.tys){a:Option Addr}{size bytes:Nat}(P:size=s.n)(T:bytes<=128)
 {k:Value->ab->Prop} (p:n=0->k (.slice a 0 0) h)
 (o:∀b cap h',h b=none->0<n->Le h h'->cM e s h' b cap xs->k (.slice (some ⟨b,0,none⟩) n cap) h'):fq h a 0 0 x n size bytes e k:=by
 subst P;obtain⟨cs,v,f,w,y⟩:=q.iu;have g:=q.len;obtain⟨Y,X⟩:=q.bound;refine⟨cs,v,w,λB=>?_,λC=>?_⟩
 .have i:n=0:=by omega
  have u:cs=[]:=ee (by rw[f,i];simp);subst i;exact .inl ⟨u,p rfl⟩
 refine⟨?_,?_,[],.inl ⟨by simp,rfl⟩,λb c h' r e1 z t d=>?_⟩
 .have U:(2:Nat)^40=1099511627776:=rfl;have O:(2:Nat)^48=281474976710656:=rfl;have:2*(0+n)*bytes<=2*(0+n)*128:=hKU _ T;omega
 .have U:(2:Nat)^40=1099511627776:=rfl;have O:(2:Nat)^48=281474976710656:=rfl;omega
 have l:Le h h':=by rw[d];exact Le.set e1
 have:=o b c h' e1 (by omega) l ⟨⟨cs++r,?_,?_,?_⟩,by omega,by omega⟩
 .simpa using this
 .rw[d,ae];simp
 .have:=y h' (l.t _) [] r;simpa using this
 simp only[dr,f,t];rw[<-hJH];congr 1;omega
def qK:Env->List (Nat×SV)->Env
 |env,[]=>env
 |env,(t,x)::r=>qK (env.set t x) r
def Ok:Env->List Nat->Env
 |env,[]=>env
 |env,t::r=>Ok (env.set t .u) r
theorem aK.go{G:Type}{w:List Nat}{o:(Ex->Env->Loc->ab->Prop)->Env->Loc->ab->Prop}{K:Ex->Env->Loc->ab->Prop}{env:Env}{L:Loc}{h:ab}
 (v:G->List (Nat×SV)) (l:G->Loc) (I:Nat->G->ab->Prop) (r:Nat) (i:G)
 (t:Wk env L (qK (Ok env w) (v i)) (l i)) (q:I r i h)
 (step:∀n g h',I n g h'->o (λe c b u=>match e with
  | .normal=>∃m a,m<n/\Wk c b (qK (Ok env w) (v a)) (l a)/\I m a u
  |e=>K e c b u) (qK (Ok env w) (v g)) (l g) h'):aK w o K env L h:=
 ⟨λn F f d=>∃g,F=qK (Ok env w) (v g)/\f=l g/\I n g d,r,⟨_,_,t,i,rfl,rfl,q⟩,λn F f d ⟨g,e1,s,q⟩=>by
  subst e1 s;have:=step n g d q;have key:(λ(e:Ex) (c:Env) (b:Loc) (u:ab)=>match e with
   | .normal=>∃m a,m<n/\Wk c b (qK (Ok env w) (v a)) (l a)/\I m a u
   |e=>K e c b u)=(λe c b h'=>match e with
   | .normal=>∃m F f,m<n/\Wk c b F f/\∃g,F=qK (Ok env w) (v g)/\f=l g/\I m g h'
   |e=>K e c b h'):=by
   funext e c b u;cases e with
   |normal=>
    apply propext;constructor
    .rintro⟨m,a,d,k,p⟩;exact⟨m,_,_,d,k,a,rfl,rfl,p⟩
    rintro⟨m,_,_,d,k,a,rfl,rfl,p⟩;exact⟨m,a,d,k,p⟩
   |exit j=>rfl
   |ret=>rfl
  rw[key]at this;exact this⟩
def Kp(bs:List Nat)(h h':ab):Prop:=∀b o,h b=some o->b∉bs->h' b=some o
theorem Kp.refl(bs:List Nat)(h:ab):Kp bs h h:=λ_ _ x _=>x
theorem Kp.trans{bs:List Nat}{a b c:ab}(x:Kp bs a b)(y:Kp bs b c):Kp bs a c:=λk o q h=>y k o (x k o q h) h
theorem Le.kp{h h':ab}(x:Le h h')(bs:List Nat):Kp bs h h':=λb o q _=>x b o q
theorem Kp.set{bs:List Nat}{h:ab}{n:Nat}{o:Obj}(c:n∈bs):Kp bs h (bH h n o):=λb q a k=>by
 rw[bU (λe=>k (by rw[e];exact c))];exact a
theorem Kp.sub{bs c:List Nat}{h h':ab}(x:Kp bs h h')(s:∀b∈bs,b∈c:=by decide):Kp c h h':=λb o q k=>x b o q (λe=>k (s b e))
theorem Le.aE{h a c:ab}{bs:List Nat}(x:Le h a)(n:∀b∈bs,h b=none)(y:Kp bs a c):Le h c:=λb o q=>y b o (x b o q) (λe=>by rw[n b e]at q;cases q)
theorem Le.none{h h':ab}(x:Le h h'){b:Nat}(q:h' b=none):h b=none:=by
 cases a:h b with
 |none=>rfl
 |some o=>rw[x b o a]at q;cases q
theorem Gb{a:Type}{s:Sh a}{h:ab}{c:List Value}:Rows s h c 0 []:=⟨by simp,λi x hx=>by simp at hx⟩
theorem oy{g:Type}{e:Nat}{s:Sh g}{h:ab}{l:Nat}{A:Ar}[aV A]{bytes:Nat}{z:List Value}{k:Value->ab->Prop}(f:z.length=s.n)(hl:l<=2^40)(c:bytes<=128)
 (d:∀n h',h n=none->Le h h'->cM e s h' n l []->k (.slice (some ⟨n,0,none⟩) l l) h'):
 tF h e (A .nat l) (A .nat l) bytes z k:=by
 have U:(2:Nat)^40=1099511627776:=rfl;have O:(2:Int)^48=281474976710656:=rfl;rw[aV.nat (A:=A)];refine⟨by simp only[kH];omega,⟨by rw[O];simp only[kH];omega,?_⟩,λn h' e1 a=>?_⟩
 .rw[O];simp only[kH];have:bytes*l<=128*l:=xt _ c;have b:((bytes*l:Nat):Int)<=((128*l:Nat):Int):=iQE.2 this;simp only[iQD]at b;omega
 simp only[kH,zw]at a |-;refine d n h' e1 (by rw[a];exact Le.set e1) ⟨⟨fI l z,by rw[a,ae],Gb,?_⟩,by simp,by simp⟩;rw[eB,f]
theorem jG:∀(s:List Value) (c:List Value) (o j:Nat),o+s.length<=c.length->(fa c o s)[j]? =if o<=j/\j<o+s.length then s[j-o]? else c[j]?
 | [],c,o,j,_=>by simp[fa];omega
 |v::r,c,o,j,hl=>by
  simp only[hJB]at hl;unfold fa;rw[jG r (c.set o v) (o+1) j (by simp;omega)];by_cases h:o+1<=j/\j<o+1+r.length
  .rw[if_pos h,if_pos ⟨by omega,by simp;omega⟩];rw[show j-o=(j-(o+1))+1 by omega];simp
  rw[if_neg h];by_cases a:o=j
  .subst a;rw[if_pos ⟨mr _,by simp⟩];simp[hKb (show o<c.length by omega)]
  rw[hKQ a,if_neg (by simp;omega)]
theorem zR{v c:List Value}{o n:Nat}(hl:o+v.length<=c.length)(a:n=v.length):((fa c o v).drop o).take n=v:=by
 subst a;apply rv;intro j;rw[hU];split
 .rename_i h;rw[nM,jG v c o _ hl,if_pos ⟨by omega,by omega⟩];congr 1;omega
 rename_i h;rw[qk (by omega)]
theorem oO{v c:List Value}{o p n:Nat}(hl:o+v.length<=c.length)(h:p+n<=o\/o+v.length<=p):((fa c o v).drop p).take n=(c.drop p).take n:=by
 apply rv;intro j;rw[hU,hU];split
 .rename_i a;rw[nM,nM,jG v c o _ hl,if_neg (by omega)]
 rfl
theorem cM.store{p:Type}{A:Ar}[aV A]{e:Nat}{s:Sh p}{h:ab}{d cap:Nat}{xs:List p}(o:cM e s h d cap xs)(B:e∉s.tys){i:Nat}(F:i<=xs.length)(w:i<cap)(G:cap<=2^40){n:Int}(E:n=(i:Int)){z:Nat}(P:z=s.n)
 {cs:List Value} {x:p} (hx:s.R h cs x) {k:ab->Prop}
 (D:∀h',Kp [d] h h'->(∀tys,e∉tys->cf tys h h')->cM e s h' d cap (if i<xs.length then xs.set i x else xs++[x])->k h'):HG h (A.fM (some ⟨d,0,none⟩) n z) cs k:=by
 subst E P;obtain⟨c,r,v,m⟩:=o.out;have l:=s.len hx;have b:=o.le;have Y:i*s.n+s.n<=c.length:=by rw[m,<-hJI];exact xt _ w
 rw[A.pd];simp only[fM,hJY,zw,bL,qp];refine⟨c.toArray,e,(0,0),rfl,r,by simp;omega,by simp,λh' g=>?_⟩;have u:∀tys,e∉tys->cf tys h h':=λtys q=>by rw[g];exact cf.set r q
 refine D h' (by rw[g];exact Kp.set (by simp)) u ⟨⟨fa c (i*s.n) cs,by rw[g];simp[ae],?_,by rw[dP,m]⟩,?_,?_⟩
 .have t:=u s.tys B;have Z:∀j y,(if i<xs.length then xs.set i x else xs++[x])[j]? =some y->(j=i/\y=x)\/(j≠i/\xs[j]? =some y):=λj y a=>by
   split at a
   .rename_i I;by_cases C:j=i
    .subst C;rw[hKb I]at a;exact .inl ⟨rfl,(Option.some.inj a).symm⟩
    rw[hKQ (Ne.symm C)]at a;exact .inr ⟨C,a⟩
   rename_i W;have:i=xs.length:=by omega
   by_cases C:j=i
   .subst C;rw[hJP (by omega),this]at a;simp at a;exact .inl ⟨rfl,a.symm⟩
   rw[hKj]at a;split at a
   .exact .inr ⟨C,a⟩
   rename_i O;rw[iXf]at a;split at a
   .omega
   cases a
  refine⟨?_,λj y a=>?_⟩
  .rw[dP,m];simp only[qp];refine xt _ ?_;split
   .simp;exact b
   simp;omega
  simp only[qp];rcases Z j y a with⟨rfl,rfl⟩|⟨q,f⟩
  .rw[zR (by omega) l.symm];exact s.mono t hx
  have O:j<xs.length:=(dB.1 f).1;rw[oO (by omega)]
  .have:=v.2 j y f;simp only[qp]at this;exact s.mono t this
  rcases ss j i with I|W
  .left;rw[<-hJI];exact xt _ I
  right;rw[l,<-hJI];exact xt _ (by omega)
 .split
  .simp;exact b
  simp;omega
 split
 .simp;exact o.bd
 simp;omega
theorem Sl.form{a:Type}{e:Nat}{s:Sh a}{h:ab}{v:Value}{xs:List a}(q:Sl e s h v xs):∃b l c,v=.slice b l c:=by obtain⟨b,cap,d,-⟩:=q.out;exact⟨b,_,cap,d⟩
structure aM(z:Int)(i:Nat):Prop where
 eq:z=(i:Int)
theorem aM.ix{z:Int}{i len:Nat}(a:aM z i)(h:i<len):0<=z/\z<(len:Int):=by have:=a.eq;omega
theorem aM.lt{A:Ar}[h:aV A]{z:Int}{i len:Nat}(a:aM z i)(c:A .az .lss z (A .nat len)=true):i<len:=by have:=a.eq;simp only[h.nat,h.az,az,yr,kH]at c;omega
theorem aM.ge{A:Ar}[h:aV A]{z:Int}{i len:Nat}(a:aM z i)(c:A .az .lss z (A .nat len)=false):len<=i:=by have:=a.eq;simp only[h.nat,h.az,az,decide_eq_false_iff_not,kH]at c;omega
theorem aM.succ{A:Ar}[h:aV A]{z:Int}{i:Nat}(a:aM z i)(b:i<2^62:=by omega):aM (A .aC .add .i64 z 1) (i+1):=by constructor;have:=a.eq;rw[h.aC];simp only[aC];rw[IntWalk.i64_in _ (by omega)];omega
theorem di{a:Type}(xs:List a)(i:Nat)(h:i<xs.length:=by omega):∃x,xs[i]? =some x:=⟨xs[i],by simp[h]⟩
theorem ay{a:Type}{xs:List a}{i:Nat}(h:i<xs.length):∃x,xs[i]? =some x:=⟨xs[i],by simp[h]⟩
variable {P:Program}
theorem dF.ext{f:FuncId}{args:List Value}{h:ab}{k:Value->ab->Prop}
 (r:∀w,yH h w->∃v a h',(callFunc f args.toArray).run P w=.ok (.value v) a/\k v h'/\bD h w h' a):dF (λ_=>P) (λ_=>xA f args) h k:=
 ⟨λw e=>by
  obtain⟨v,a,h',b,c,d⟩:=r w e;refine⟨v,a,h',?_,c,d⟩;simp only[xA];rw[mc,b];rfl⟩
structure gD(P:Program)(f:FuncId)(fn:Func):Prop where
 hf:P.funcs[f]? =some fn
 qY:(fn.name== "runtime.NumGoroutine")=false
 hb:fn.body.isNone=true
 hn:Extern.findNext fn=none
structure ld(h:ab)(a:Addr)(v:Value):Prop where
 out:a.spot=none/\∃c e,h a.block=some (.cells c e (0,0))/\c[a.off]? =some v
theorem ld.cell{h:ab}{a:Addr}{v:Value}(c:ld h a v){w:World}(g:yH h w):w.cell? a=some v/\w.frozen? a=false:=by
 obtain⟨d,c,e,b,f⟩:=c.out;have b:=g _ _ b;constructor
 .simp[World.cell?,b,d,f]
 simp[World.frozen?,b]
theorem ld.set{h:ab}{a:Addr}{v:Value}(q:ld h a v)(x:Value){k:ab->Prop}(j:∀c e h',h a.block=some (.cells c e (0,0))->h'=bH h a.block (.cells (c.setIfInBounds a.off x) e (0,0))->k h'){w:World}(f:yH h w):
 ∃h',k h'/\bD h w h' (w.setCell a x):=by
 obtain⟨g,c,e,d,l⟩:=q.out;refine⟨_,j c e _ d rfl,?_⟩;refine bD.set f d ?_ ?_ ?_ ?_
 .simp[World.setCell,iQC,f _ _ d,g]
 .intro b i;simp[World.setCell,iQC,Ne.symm i]
 .simp[World.setCell]
 exact⟨rfl,rfl,rfl⟩
theorem sC{f:FuncId}{fn:Func}(o:gD P f fn)(m:Mark)(e:Extern.find fn=some (λ_=>do mark m;pure Extern.Race.none_)){h:ab}{k:Value->ab->Prop}(a:k (.tuple #[]) h):
 dF (λ_=>P) (λ_=>xA f []) h k:=
 dF.ext λw b=>⟨_,w,h,run_call_mark0 o.hf o.qY o.hb o.hn m e w,a,bD.refl b⟩
theorem AU{f:FuncId}{fn:Func}(o:gD P f fn)(m:Addr->Mark)(e:Extern.find fn=some (Extern.Race.marked m)){a:Addr}{h:ab}{k:Value->ab->Prop}(b:k (.tuple #[]) h):
 dF (λ_=>P) (λ_=>xA f [.pointer (some a)]) h k:=
 dF.ext λw c=>⟨_,w,h,run_call_marked o.hf o.qY o.hb o.hn m e a w,b,bD.refl c⟩
theorem Hd{f:FuncId}{fn:Func}(o:gD P f fn){j:IntKind}(e:Extern.find fn=some (Extern.Atomic.loadT (.int j))){a:Addr}{h:ab}{x:Int}(c:ld h a (.int j x)){k:Value->ab->Prop}(d:k (.int j x) h):
 dF (λ_=>P) (λ_=>xA f [.pointer (some a)]) h k:=
 dF.ext λw b=>⟨_,w,h,run_call_load o.hf o.qY o.hb o.hn j e (c.cell b).1,d,bD.refl b⟩
theorem WW{f:FuncId}{fn:Func}(o:gD P f fn){j:IntKind}(l:Extern.find fn=some (Extern.Atomic.casT (.int j))){a:Addr}{h:ab}{x y:Int}(b:ld h a (.int j x)){k:Value->ab->Prop}
 (m:∀c e h',h a.block=some (.cells c e (0,0))->h'=bH h a.block (.cells (c.setIfInBounds a.off (.int j y)) e (0,0))->k (.bool true) h'):
 dF (λ_=>P) (λ_=>xA f [.pointer (some a),.int j x,.int j y]) h k:=
 dF.ext λw d=>by
  obtain⟨h',g,i⟩:=b.set (.int j y) (k:=k (.bool true)) m d;exact⟨_,_,h',run_call_cas_hit o.hf o.qY o.hb o.hn j l (b.cell d).1 (b.cell d).2,g,i⟩
theorem xz{f:FuncId}{fn:Func}(o:gD P f fn)(l:Extern.find fn=some Extern.Atomic.storeT){a:Addr}{h:ab}{v:Value}{j:IntKind}{y:Int}(b:ld h a v){k:Value->ab->Prop}
 (m:∀c e h',h a.block=some (.cells c e (0,0))->h'=bH h a.block (.cells (c.setIfInBounds a.off (.int j y)) e (0,0))->k (.tuple #[]) h'):
 dF (λ_=>P) (λ_=>xA f [.pointer (some a),.int j y]) h k:=
 dF.ext λw d=>by
  obtain⟨h',g,i⟩:=b.set (.int j y) (k:=k (.tuple #[])) m d;exact⟨_,_,h',run_call_store o.hf o.qY o.hb o.hn l (b.cell d).1 (b.cell d).2,g,i⟩
theorem EI{f:FuncId}{fn:Func}(o:gD P f fn){j:IntKind}(l:Extern.find fn=some (Extern.Atomic.update (Op.intArith .add) j true)){a:Addr}{h:ab}{x y:Int}(b:ld h a (.int j x)){k:Value->ab->Prop}
 (m:∀c e h',h a.block=some (.cells c e (0,0))->h'=bH h a.block (.cells (c.setIfInBounds a.off (.int j (j.wrap (x+y)))) e (0,0))->k (.int j (j.wrap (x+y))) h'):
 dF (λ_=>P) (λ_=>xA f [.pointer (some a),.int j y]) h k:=
 dF.ext λw d=>by
  obtain⟨h',g,i⟩:=b.set (.int j (j.wrap (x+y))) (k:=k (.int j (j.wrap (x+y)))) m d;exact⟨_,_,h',run_call_add o.hf o.qY o.hb o.hn j l (b.cell d).1 (b.cell d).2 (by simp[Op.intArith]),g,i⟩
theorem WV{f:FuncId}{fn:Func}(o:gD P f fn)(e:Extern.find fn=some Extern.BytealgCompare.compare){a b:ByteArray}{h:ab}{k:Value->ab->Prop}
 (c:k (.int .i64 (Lib.compareBytes a.data.toList b.data.toList)) h):dF (λ_=>P) (λ_=>xA f [.string a,.string b]) h k:=
 dF.ext λw d=>by
  refine⟨_,w,h,?_,c,bD.refl d⟩;rw[run_callFunc_extern o.hf o.qY o.hb o.hn e];rw[show [Value.string a,Value.string b].toArray= #[.string a,.string b]from rfl,Lib.run_compareString];rfl
theorem zU{s d t:TypeId}(j:P.underlying s=some (.pointer t))(e:P.underlying d=some .unsafePointer)(f:(P.info? t).map (λi=>decide (i.size=0))=some false)
 {a:Addr} {v:Value} {h:ab} (c:ld h a v) {k:Value->ab->Prop} (g:k (.pointer (some a)) h):dF (λ_=>P) (λ_=>Go.convert s d (.pointer (some a))) h k:=
 ⟨λw b=>⟨_,w,h,run_convert_to_unsafe j e f (c.cell b).1,g,bD.refl b⟩⟩
theorem aM.eXi{A:Ar}[h:aV A]{z w:Int}{i j:Nat}(b:aM z i)(a:aM w j)(f:i<2^61)(g:j<2^61):
 aM (A .conv .i64 (A .aC .shr .u64 (A .conv .u64 (A .aC .add .i64 z w)) 1)) ((i+j) / 2):=by
 constructor;have c:=b.eq;have d:=a.eq;simp only[h.conv,h.aC,aC];rw[IntWalk.i64_in (z+w) (by omega)];have e1:IntKind.u64.wrap (z+w)=((i+j:Nat):Int):=by
  have:z+w=((i+j:Nat):Int):=by omega
  rw[this];simp only[IntKind.wrap,IntKind.bits];simp;omega
 rw[e1];have e:(2:Int)^(min (1:Int).toNat IntKind.u64.bits)=2:=by decide
 rw[e,hJU _ (by omega)];rw[IntWalk.i64_in _ (by omega)];omega
theorem aM.pL{A:Ar}[h:aV A]{z w:Int}{i j:Nat}(b:aM z i)(a:aM w j):A .az .lss z w=decide (i<j):=by have c:=b.eq;have d:=a.eq;simp only[h.az,az];rw[decide_eq_decide];omega
def nQ(l:List Int)(i j:Nat):Nat:=
 if i<j then
  if l.getD ((i+j) / 2) 0<0 then nQ l ((i+j) / 2+1) j else nQ l i ((i+j) / 2)
 else i
 termination_by j-i
 decreasing_by all_goals omega
theorem yZ(l:List Int)(i j:Nat)(h:i<=j):nQ l i j<=j/\i<=nQ l i j:=by
 fun_induction nQ l i j with
 |case1 i j b c a=>have:=a (by omega);omega
 |case2 i j b c a=>have:=a (by omega);omega
 |case3 i j b=>omega
theorem sK(l:List Int)(p:Nat)(I:∀k,k<p->l.getD k 0<0)(i j:Nat)(g:∀k,p<=k->k<j->¬l.getD k 0<0)(e:i<=p)(f:p<=j):nQ l i j=p:=by
 fun_induction nQ l i j with
 |case1 i j c a b=>
  refine b g ?_ f;rcases ss ((i+j) / 2) p with h|h
  .omega
  exact absurd a (g _ h (by omega))
 |case2 i j c a b=>
  refine b (λk d m=>g k d (by omega)) e ?_;rcases ss ((i+j) / 2) p with h|h
  .exact absurd (I _ h) a
  omega
 |case3 i j c=>omega
theorem aQ{h:ab}{b o n e:Nat}{c cs:List Value}{fr:Nat×Nat}{k:List Value->Prop}(g:h b=some (.cells (List.toArray c) e fr))(a:(c.drop o).take n=cs)(j:cs.length=n)(f:k cs):vX h ⟨b,o,none⟩ n k:=by refine⟨cs,⟨rfl,j,_,_,_,g,λi d=>?_⟩,f⟩;rw[<-a,hU,if_pos d,nM];simp
theorem bc{h:ab}{b o n e:Nat}{c cs:List Value}{fr:Nat×Nat}{k:List Value->Prop}(g:h b=some (.cells (List.toArray c) e fr))(d:k cs)(a:(c.drop o).take n=cs:=by exact rfl)(f:cs.length=n:=by exact rfl):vX h ⟨b,o,none⟩ n k:=aQ g a f d
theorem iB{h:ab}{b o e:Nat}{c cs:List Value}{k:ab->Prop}(g:h b=some (.cells (List.toArray c) e (0,0)))(n:o+cs.length<=c.length)(a:∀h',h'=bH h b (.cells (List.toArray (fa c o cs)) e (0,0))->k h'):HG h ⟨b,o,none⟩ cs k:=
 ⟨_,_,_,rfl,g,by simpa using n,by simp,λh' e=>a h' (by simpa using e)⟩
open Go.MapKept
variable {P:Program}
structure Mp(h:ab)(m:Nat)(d:TypeDesc)(l:List (Value×Value)):Prop where
 out:∃es clock,h m=some (.map es clock)/\es.toList.map (λe=>(e.key,e.val))=l/\Stamped es clock/\∀x∈es.toList,IsKey d x.key
theorem Mp.new{h:ab}{m:Nat}{d:TypeDesc}(g:h m=some (.map #[] 0)):Mp h m d []:=⟨#[],0,g,rfl,stamped_empty 0,by simp⟩
theorem Mp.kp{h h':ab}{m:Nat}{d:TypeDesc}{l:List (Value×Value)}{bs:List Nat}(q:Mp h m d l)(k:Kp bs h h')(i:m∉bs):Mp h' m d l:=by obtain⟨e,c,g,a,b,f⟩:=q.out;exact⟨e,c,k _ _ g i,a,b,f⟩
theorem cf.Am{tys:List Nat}{h:ab}{n:Nat}{e:Array MapEntry}{c:Nat}{o:Obj}(f:h n=some (.map e c)):cf tys h (bH h n o):=λb d g E m a=>by
 unfold bH;split
 .rename_i q;rw[q,f]at a;cases a
 exact a
theorem bD.Am{h:ab}{w:World}(d:yH h w){n:Nat}{e:Array MapEntry}{c:Nat}{o:Obj}(b:h n=some (.map e c)):bD h w (bH h n o) { w with heap:=w.heap.setIfInBounds n o }:=by have a:=heap_set (o':=o) (d _ _ b);exact bD.set d b a.1 a.2 (by simp) ⟨rfl,rfl,rfl⟩
theorem yJ{mt t u:TypeId}{d:TypeDesc}(z:P.underlying mt=some (.map t u))(o:P.underlying t=some d){h:ab}{m:Nat}{l:List (Value×Value)}(q:Mp h m d l){key v:Value}(a:IsKey d key)(A:∀p∈l,p.1≠key)
 {k:Value->ab->Prop} (K:∀h',Mp h' m d (l++[(key,v)])->Kp [m] h h'->(∀tys,cf tys h h')->k undef h'):
 dF (λ_=>P) (λ_=>do Instr.mapUpdate mt (.map (some m)) key v;pure undef) h k:=
 ⟨λw r=>by
  obtain⟨s,c,g,f,y,i⟩:=q.out;have n:=r _ _ g;have b:∀x∈s.toList,x.key≠key:=λx hx=>by
   have:(x.key,x.val)∈l:=by rw[<-f];exact hJK.2 ⟨x,hx,rfl⟩
   exact A _ this
  rcases findNow_spec a s.toList 0 i with⟨f1,_⟩|⟨j,e,f1,f2,f3⟩
  .refine⟨undef,_,_,?_,K _ ⟨s.push { key:=key,val:=v,born:=c },c+1,ae,?_,stamped_push y b,?_⟩ (Kp.set (by simp)) (λtys=>cf.Am g),bD.Am r g⟩
   .simp[Instr.mapUpdate,run_underlying z,Go.MapKept.run_getObj_map n,run_checkKey o a,run_findKey o f1,Go.MapKept.run_setObj_map _ n,Result.andThen]
   .simp[f]
   intro x hx;simp only[Array.toList_push,hJJ,hKt]at hx;rcases hx with hx|rfl
   .exact i x hx
   exact a
  exact absurd f3 (b e (kF f2))⟩
theorem oa{mt i t:TypeId}{d:TypeDesc}(v:P.underlying mt=some (.map i t))(a:P.underlying i=some d){z:Value}(y:∀w,(zeroValue t).run P w=.ok z w){h:ab}{m:Nat}{l:List (Value×Value)}(q:Mp h m d l){key:Value}(b:IsKey d key)(A:∀p∈l,p.1≠key)
 {k:Value->ab->Prop} (K:k z h):dF (λ_=>P) (λ_=>Instr.lookup mt (.map (some m)) key false) h k:=
 ⟨λw f=>by
  obtain⟨s,c,g,o,B,r⟩:=q.out;have u:=f _ _ g;have n:∀x∈s.toList,x.key≠key:=λx hx=>by
   have:(x.key,x.val)∈l:=by rw[<-o];exact hJK.2 ⟨x,hx,rfl⟩
   exact A _ this
  rcases findNow_spec b s.toList 0 r with⟨f1,_⟩|⟨j,e,f1,f2,f3⟩
  .refine⟨z,w,h,?_,K,bD.refl f⟩;simp[Instr.lookup,run_underlying v,Go.MapKept.run_getObj_map u,run_checkKey a b,run_findKey a f1,y,Result.andThen]
  exact absurd f3 (n e (kF f2))⟩
theorem rX{mt t u:TypeId}{d:TypeDesc}(D:P.underlying mt=some (.map t u))(n:P.underlying t=some d){h:ab}{m:Nat}{l:List (Value×Value)}(q:Mp h m d l){key v:Value}(o:IsKey d key)(Z:(key,v)∈l)
 {k:Value->ab->Prop} (K:k v h):dF (λ_=>P) (λ_=>Instr.lookup mt (.map (some m)) key false) h k:=
 ⟨λw r=>by
  obtain⟨s,c,g,y,z,A⟩:=q.out;have B:=r _ _ g;rw[<-y]at Z;obtain⟨x,hx,C⟩:=hJK.1 Z;cases C;rcases findNow_spec o s.toList 0 A with⟨f1,f2⟩|⟨j,e,f1,f2,f3⟩
  .exact absurd rfl (f2 x hx)
  have U:e=x:=by
   have p:=((stamped_iff s c).1 z).2.2;obtain⟨i,f⟩:=yl hx;rcases hKK i j with I|rfl|I
   .exfalso;have a:=(dB.1 f2);have b:=(dB.1 f);have:=hJA.1 p i j b.1 a.1 I;rw[b.2,a.2]at this;exact this f3.symm
   .rw[f2]at f;exact Option.some.inj f
   exfalso;have a:=(dB.1 f2);have b:=(dB.1 f);have:=hJA.1 p j i a.1 b.1 I;rw[b.2,a.2]at this;exact this f3
  subst U;refine⟨_,w,h,?_,K,bD.refl r⟩;simp[Instr.lookup,run_underlying D,Go.MapKept.run_getObj_map B,run_checkKey n o,run_findKey n f1,Result.andThen]⟩
theorem ND{a b:ByteArray}(h:a.toList=b.toList):a=b:=by rw[Go.ByteArray.toList_eq,Go.ByteArray.toList_eq]at h;cases a;cases b;simp only at h;congr;exact Array.toList_inj.1 h
theorem ek(A:Ar)[c:aV A](a b:ByteArray):A .jX .eql a b=decide (a=b):=by
 rw[c.jX];simp only[jX];by_cases h:a=b
 .simp[h]
 rw[ag h];simp only[beq_eq_false_iff_ne,ne_eq];exact λe=>h (ND e)
theorem aq(A:Ar)[c:aV A](a b:Int):A .az .eql a b=decide (a=b):=by
 rw[c.az];simp only[az];by_cases h:a=b
 .simp[h]
 simp[h]
theorem av(A:Ar)[c:aV A](a b:Int):A .az .neq a b=decide (a≠b):=by
 rw[c.az];simp only[az];by_cases h:a=b
 .simp[h]
 simp[h]
theorem aJ(A:Ar)[h:aV A](a b:Int):A .az .lss a b=decide (a<b):=by rw[h.az];rfl
theorem cZ(A:Ar)[h:aV A](a b:Int):A .az .geq a b=decide (a>=b):=by rw[h.az];rfl
theorem aO(A:Ar)[h:aV A](a b:Int):A .az .gtr a b=decide (a>b):=by rw[h.az];rfl
theorem VJ(A:Ar)[h:aV A](a b:Int):A .az .leq a b=decide (a<=b):=by rw[h.az];rfl
structure oF{α:Type}(xs:List α)(p:α->Bool)(z:Int):Prop where
 out:(z=-1/\∀x∈xs,p x=false)\/∃i x,aM z i/\xs[i]? =some x/\p x=true/\∀j,j<i->∀y,xs[j]? =some y->p y=false
theorem IW(A:Ar)[h:aV A]{key:Int}{n:Nat}(e1:A .az .lss key 0=false)(e:A .az .geq key (A .nat n)=false):aM key key.toNat/\key.toNat<n:=by rw[aJ A]at e1;rw[cZ A,h.nat]at e;have a:=ra e1;have g:=ra e;simp only[kH]at g;exact⟨⟨by omega⟩,by omega⟩
theorem Sl.ep{a:Type}{A:Ar}[aV A]{e:Nat}{s:Sh a}{h:ab}{b:Option Addr}{len cap:Nat}{xs:List a}(q:Sl e s h (.slice b len cap) xs){i:Nat}{x:a}(hx:xs[i]? =some x){n:Int}(v:n=(i:Int)){o m:Nat}(D:o+m<=s.n)
 {k:List Value->Prop} (u:∀cs,s.R h cs x->k ((cs.drop o).take m)):vX h (A .off (A .fM b n s.n) o) m k:=by
 obtain⟨z,Q,p,B,C,r⟩:=q.out;cases p;rcases r with rfl| ⟨dM,off,c,fr,rfl,l,g⟩
 .simp at hx
 subst v;have w:=jo l g hx;have hR:=g.2 i x hx;refine⟨_,?_,u _ hR⟩;rw[aV.fM (A:=A),aV.off (A:=A)];simp only[fM,hJY,zw,bL];obtain⟨-,hl,c',d,E,f,y⟩:=w;refine⟨rfl,by rw[dW,ec,hl];omega,c',d,E,f,λj t=>?_⟩;have:=y (o+j) (by omega);simp only at this |-;rw[hU,if_pos t,nM,<-this];congr 1;omega
theorem Rows.at{a:Type}{s:Sh a}{h:ab}{cs:List Value}{ys:List a}(r:Rows s h cs 0 ys){j:Nat}{y:a}(b:ys[j]? =some y):s.R h ((cs.drop (j*s.n)).take s.n) y:=by have:=r.2 j y b;simpa using this
theorem cM.write{v:Type}{e:Nat}{s:Sh v}{h:ab}{n cap:Nat}{xs ys:List v}(o:cM e s h n cap xs)(A:e∉s.tys){i:Nat}(r:i<=xs.length)(z:i+ys.length<=cap)(J:i+ys.length<=2^40)
 {cs:List Value} (hl:cs.length=ys.length*s.n) (E:Rows s h cs 0 ys) {k:ab->Prop}
 (B:∀h',Kp [n] h h'->(∀tys,e∉tys->cf tys h h')->cM e s h' n cap (xs.take i++ys++xs.drop (i+ys.length))->k h'):HG h ⟨n,i*s.n,none⟩ cs k:=by
 obtain⟨c,q,x,p⟩:=o.out;have D:=o.le;have K:=o.bd;have Y:i*s.n+cs.length<=c.length:=by rw[p,hl,<-hJH];exact xt _ z
 refine⟨c.toArray,e,(0,0),rfl,q,by simpa using Y,by simp,λh' g=>?_⟩;have u:∀tys,e∉tys->cf tys h h':=λtys w=>by rw[g];exact cf.set q w
 have t:=u s.tys A;have l:(xs.take i++ys++xs.drop (i+ys.length)).length=max xs.length (i+ys.length):=by simp only[dr,dW,ec];omega
 refine B h' (by rw[g];exact Kp.set (by simp)) u ⟨⟨fa c (i*s.n) cs,by rw[g];simp[ae],⟨?_,λj y d=>?_⟩,by rw[dP,p]⟩,by rw[l];omega,by rw[l];omega⟩
 .rw[dP,p,l];simp only[qp];exact xt _ (by omega)
 simp only[qp];have e1:∀a b:Nat,a<b->a*s.n+s.n<=b*s.n:=λa b W=>by rw[<-hJI];exact xt _ W
 have P:∀y,xs[j]? =some y->(j<i\/i+ys.length<=j)->s.R h' (((fa c (i*s.n) cs).drop (j*s.n)).take s.n) y:=λy F f=>by
  rw[oO Y]
  .have:=x.2 j y F;simp only[qp]at this;exact s.mono t this
  rcases f with f|f
  .exact .inl (e1 j i f)
  right;rw[hl,<-hJH];exact xt _ f
 rw[hKj]at d;split at d
 .rename_i O;rw[hKj]at d;split at d
  .rename_i C;simp only[dW]at C;rw[hU,if_pos (by omega)]at d;exact P y d (.inl (by omega))
  rename_i C;simp only[dW,dr]at C O;rw[dW,zv r]at d;have hR:=E.at d;have Z:j-i<ys.length:=(dB.1 d).1;have:((fa c (i*s.n) cs).drop (j*s.n)).take s.n=(cs.drop ((j-i)*s.n)).take s.n:=by
   apply rv;intro m;rw[hU,hU];split
   .rename_i G;have H:=e1 (j-i) ys.length Z;have I:j*s.n=i*s.n+(j-i)*s.n:=by rw[<-hJH];congr 1;omega
    rw[nM,nM,jG cs c _ _ Y,if_pos (by omega)];congr 1;omega
   rfl
  rw[this];exact s.mono t hR
 rename_i O;simp only[dr,dW,zv r]at O d;rw[nM]at d;have:i+ys.length+(j-(i+ys.length))=j:=by omega
 rw[this]at d;exact P y d (.inr (by omega))
theorem cM.shrink{b:Type}{e:Nat}{s:Sh b}{h:ab}{n cap:Nat}{xs:List b}(o:cM e s h n cap xs)(k:Nat):cM e s h n cap (xs.take k):=by
 obtain⟨c,d,a,f⟩:=o.out;have l:=o.le;have D:=o.bd;refine⟨⟨c,d,⟨?_,λi x hx=>?_⟩,f⟩,by rw[dW];omega,by rw[dW];omega⟩
 .have:=a.1;refine hJX ?_ this;exact iQA (xt _ (by rw[dW];omega)) _
 rw[hU]at hx;split at hx
 .exact a.2 i x hx
 cases hx
theorem cM.UN{g:Type}{e:Nat}{s:Sh g}{h:ab}{n cap:Nat}{xs:List g}(o:cM e s h n cap xs)(l:e∉s.tys){p:Nat}{cs:List Value}(u:xs.length*s.n<=p)(r:p+cs.length<=cap*s.n){k:ab->Prop}
 (q:∀h',Kp [n] h h'->(∀tys,e∉tys->cf tys h h')->cM e s h' n cap xs->k h'):HG h ⟨n,p,none⟩ cs k:=by
 obtain⟨c,b,d,i⟩:=o.out;refine⟨c.toArray,e,(0,0),rfl,b,by simp;omega,by simp,λh' a=>?_⟩;have t:∀tys,e∉tys->cf tys h h':=λtys m=>by rw[a];exact cf.set b m
 refine q h' (by rw[a];exact Kp.set (by simp)) t ⟨⟨fa c p cs,by rw[a];simp[ae],⟨by rw[dP];exact d.1,λj y f=>?_⟩,by rw[dP,i]⟩,o.le,o.bd⟩;have O:j<xs.length:=(dB.1 f).1;have:j*s.n+s.n<=xs.length*s.n:=by rw[<-hJI];exact xt _ O
 simp only[qp];rw[oO (by omega) (.inl (by omega))];have:=d.2 j y f;simp only[qp]at this;exact s.mono (t s.tys l) this
theorem oB{o:Type}{e:Nat}{s:Sh o}{h:ab}{b:Option Addr}{len cap n:Nat}{xs ys:List o}(q:Sl e s h (.slice b len cap) xs)(G:cap<len+n){size bytes:Nat}(P:size=s.n)(T:bytes<=128)(J:len+n<=2^39)
 {new:List Value} (x:gE new=true) (hl:new.length=n*s.n) (H:ys.length<=n) (A:∀h',Le h h'->Rows s h' new 0 ys)
 {k:Value->ab->Prop} (z:∀g c h',h g=none->Le h h'->len+n<=c->cM e s h' g c (xs++ys)->k (.slice (some ⟨g,0,none⟩) (len+n) c) h'):
 pq h b len cap n size bytes e new k:=by
 subst P;obtain⟨cs,p,d,C,t⟩:=q.iu;have l:=q.len;have Q:(2:Nat)^39=549755813888:=rfl;have U:(2:Nat)^40=1099511627776:=rfl;have O:(2:Nat)^48=281474976710656:=rfl;refine⟨x,λF=>by omega,λ_=>⟨?_,by omega,cs,p,λg c h' r e1 u v i=>?_⟩⟩
 .have:2*(len+n)*bytes<=2*(len+n)*128:=hKU _ T;omega
 have a:Le h h':=by rw[i];exact Le.set e1
 refine z g c h' e1 a u ⟨⟨cs++new++r,by rw[i,ae],?_,?_⟩,by rw[dr];omega,by rw[dr];omega⟩
 .have hx:=t h' (a.t _) [] (new++r);have B:=A h' a;refine⟨?_,λj y f=>?_⟩
  .simp only[dr,d,hl,l,qp];rw[<-hJH];have:(xs.length+ys.length)*s.n<=(xs.length+n)*s.n:=xt _ (by omega);omega
  rw[hKj]at f;split at f
  .have:=hx.2 j y f;simpa using this
  rename_i W;have hR:=B.at f;have Z:j-xs.length<ys.length:=(dB.1 f).1;simp only[qp];have w:((cs++new++r).drop (j*s.n)).take s.n=(new.drop ((j-xs.length)*s.n)).take s.n:=by
   apply rv;intro m;rw[hU,hU];split
   .rename_i I;have D:(j-xs.length)*s.n+s.n<=n*s.n:=by rw[<-hJI];exact xt _ (by omega)
    have E:j*s.n=xs.length*s.n+(j-xs.length)*s.n:=by rw[<-hJH];congr 1;omega
    rw[nM,nM,ym,hJP (by rw[d,l];omega),hJQ (by rw[d,hl,l];omega)];congr 1;rw[d,l];omega
   rfl
  rw[w];exact hR
 simp only[dr,d,hl,v];rw[<-hJH,<-hJH];congr 1;omega
theorem bZ{A:Ar}[h:aV A]{z:Int}{i n:Nat}(a:aM z i):A .mW (A .nat n) z=n-i:=by have:=a.eq;simp only[h.mW,h.nat,kH];omega
theorem cQ{A:Ar}[h:aV A]{z:Int}{i:Nat}(a:aM z i):A .mW z 0=i:=by have:=a.eq;simp only[h.mW];omega
theorem EK{A:Ar}[h:aV A]{z w:Int}{i j:Nat}(b:aM z i)(a:aM w j):A .mW z w=i-j:=by have:=b.eq;have:=a.eq;simp only[h.mW];omega
theorem sF{A:Ar}[h:aV A]{z:Int}{i c s n:Nat}(a:aM z i)(b:i<c):A .cut (some ⟨n,0,none⟩) z (A .nat c) s=some ⟨n,i*s,none⟩:=by have:=a.eq;simp only[h.cut,h.nat,kH];rw[if_neg (by omega)];simp[bL,this]
theorem Rows.drop{b:Type}{s:Sh b}{h:ab}{c:List Value}{off:Nat}{xs:List b}(r:Rows s h c off xs){i:Nat}(d:i<=xs.length):Rows s h c (off+i*s.n) (xs.drop i):=by
 refine⟨?_,λj x a=>?_⟩
 .have:=r.1;rw[ec];have:i*s.n+(xs.length-i)*s.n=xs.length*s.n:=by rw[<-hJH];congr 1;omega
  omega
 rw[nM]at a;have:=r.2 _ x a;rw[hJH]at this;rw[hKi];exact this
theorem Rows.take{b:Type}{s:Sh b}{h:ab}{c:List Value}{off:Nat}{xs:List b}(r:Rows s h c off xs)(i:Nat):Rows s h c off (xs.take i):=by
 refine⟨?_,λj x a=>?_⟩
 .have:=r.1;refine hJX (iQA (xt _ ?_) _) this;rw[dW];omega
 rw[hU]at a;split at a
 .exact r.2 _ x a
 cases a
theorem Sl.gT{d:Type}{A:Ar}[a:aV A]{e:Nat}{s:Sh d}{h:ab}{b:Option Addr}{n c:Nat}{xs:List d}(q:Sl e s h (.slice b n c) xs){z:Int}{i:Nat}(r:aM z i)(o:i<=n){m:Nat}(p:m=n-i){c':Nat}(l:c'=c-i):
 Sl e s h (.slice (A .cut b z (A .nat c) s.n) m c') (xs.drop i):=by
 obtain⟨t,cap,j,u,v,k⟩:=q.out;cases j;subst p l;have J:=r.eq;refine⟨_,_,by rw[ec],by rw[ec];omega,by rw[ec];omega,?_⟩;rcases k with rfl| ⟨dM,off,cc,fr,rfl,g,f⟩
 .simp
 simp only[a.cut,a.nat,kH];by_cases C:(c:Int)=z
 .left;have:i=xs.length:=by omega
  rw[this];simp
 right;rw[if_neg C];exact⟨dM,off+i*s.n,cc,fr,by simp[bL,J],g,f.drop o⟩
theorem Sl.Pe{a:Type}{A:Ar}[k:aV A]{e:Nat}{s:Sh a}{h:ab}{b:Option Addr}{n c:Nat}{xs:List a}(q:Sl e s h (.slice b n c) xs){i:Nat}(p:i<=n):
 Sl e s h (.slice (A .cut b 0 (A .nat c) s.n) i c) (xs.take i):=by
 obtain⟨l,cap,f,m,o,j⟩:=q.out;cases f;have hl:(xs.take i).length=i:=by rw[dW];omega
 refine⟨_,_,by rw[hl],by rw[hl];omega,by rw[hl];omega,?_⟩;rcases j with rfl| ⟨dM,off,cc,fr,rfl,g,d⟩
 .simp
 right;refine⟨dM,off,cc,fr,?_,g,d.take i⟩;simp only[k.cut];split
 .rfl
 simp[bL]
theorem vM{a:Type}{e:Nat}{s:Sh a}{h:ab}{b cap:Nat}{xs ys:List a}(o:cM e s h b cap xs)(m:e∉s.tys){i:Nat}(p:i<=xs.length){x:Option Addr}{n j len:Nat}(q:Sl e s h (.slice x n j) ys)(y:n<=len)(w:i+n<=cap)(v:i+n<=2^40){size:Nat}(P:size=s.n)
 {k:Value->ab->Prop} (r:∀h',Kp [b] h h'->(∀tys,e∉tys->cf tys h h')->cM e s h' b cap (xs.take i++ys++xs.drop (i+n))->k (.int .i64 ((min n len:Nat):Int)) h'):
 tG h (some ⟨b,i*s.n,none⟩) len x n size k:=by
 subst P;obtain⟨cs,c,d,f,g⟩:=q.iu;have l:=q.len;have B:min n len=n:=by omega
 refine⟨cs,by rw[B];exact c,f,.inr ⟨_,rfl,?_⟩⟩;refine o.write (ys:=ys) m p (by omega) (by omega) (by rw[d,l]) ?_ (λh' t u o'=>r h' t u (by rw[l];exact o'));have:=g h (cf.refl _ _) [] [];simpa using this
theorem lC{d:Type}{e:Nat}{s:Sh d}{h:ab}{b x:Option Addr}{len cap n l:Nat}{xs ys:List d}(q:Sl e s h (.slice b len cap) xs)(v:Sl e s h (.slice x n l) ys)(m:cap<len+n){size bytes:Nat}(P:size=s.n)(T:bytes<=128)(p:len+n<=2^39)
 {k:Value->ab->Prop} (o:∀a c h',h a=none->Le h h'->len+n<=c->cM e s h' a c (xs++ys)->k (.slice (some ⟨a,0,none⟩) (len+n) c) h'):
 fq h b len cap x n size bytes e k:=by
 subst P;obtain⟨cs,f,g,i,j⟩:=v.iu;refine⟨cs,f,oB q m rfl T p i g (by rw[v.len];exact mr _) (λh' hl=>?_) o⟩;have:=j h' (hl.t _) [] [];simpa using this
theorem aM.add{A:Ar}[h:aV A]{z w:Int}{i j:Nat}(b:aM z i)(a:aM w j)(e:i+j<2^62):aM (A .aC .add .i64 z w) (i+j):=by constructor;have c:=b.eq;have d:=a.eq;rw[h.aC];simp only[aC];rw[IntWalk.i64_in _ (by omega)];omega
theorem aM.sub{A:Ar}[h:aV A]{z w:Int}{i j:Nat}(b:aM z i)(a:aM w j)(e:i<2^62)(f:j<=i):aM (A .aC .sub .i64 z w) (i-j):=by constructor;have c:=b.eq;have d:=a.eq;rw[h.aC];simp only[aC];rw[IntWalk.i64_in _ (by omega)];omega
theorem rG{w:Int}{m bytes:Nat}(c:aM w m)(e:m<=2^39)(b:bytes<=128):0<=w/\w<=2^48/\w*(bytes:Int)<=2^48:=by
 have h:=c.eq;have O:(2:Int)^48=281474976710656:=rfl;have Q:(2:Nat)^39=549755813888:=rfl;have d:m*bytes<=549755813888*128:=hKJ (by omega) b;have a:w*(bytes:Int)=((m*bytes:Nat):Int):=by rw[h];simp
 rw[O,a];omega
theorem ly{d:Type}{e:Nat}{s:Sh d}{h:ab}{b:Option Addr}{len cap n:Nat}{xs:List d}(q:Sl e s h (.slice b len cap) xs)(i:cap<len+n){size bytes:Nat}(f:size=s.n)(T:bytes<=128)(l:len+n<=2^39){z:List Value}(g:gE z=true)(C:z.length=s.n)
 {k:Value->ab->Prop} (j:∀a c h',h a=none->Le h h'->len+n<=c->cM e s h' a c xs->k (.slice (some ⟨a,0,none⟩) (len+n) c) h'):
 aQm h b len cap n size bytes e z k:=
 ⟨oB q i f T l (tR g n) (by rw[eB,C]) (ys:=[]) (by simp) (λh' _=>Gb) (by simpa using j)⟩
structure aT{α:Type}(e:Nat)(s:Sh α)(h0 h:ab)(v:Value)(xs:List α):Prop where
 out:(∃b,v=.slice b 0 0/\xs=[])\/∃nb cap,v=.slice (some ⟨nb,0,none⟩) xs.length cap/\h0 nb=none/\cM e s h nb cap xs
theorem aT.nil{a:Type}{e:Nat}{s:Sh a}{h0 h:ab}{b:Option Addr}:aT e s h0 h (.slice b 0 0) ([]:List a):=⟨.inl ⟨b,rfl,rfl⟩⟩
theorem aT.sl{a:Type}{e:Nat}{s:Sh a}{h0 h:ab}{v:Value}{xs:List a}(q:aT e s h0 h v xs):Sl e s h v xs:=by
 rcases q.out with⟨b,rfl,rfl⟩|⟨n,cap,rfl,-,o⟩
 .exact Sl.nil
 exact o.sl rfl
theorem aT.mono{b:Type}{e:Nat}{s:Sh b}{h0 h h':ab}{v:Value}{xs:List b}(q:aT e s h0 h v xs)(hl:cf (e::s.tys) h h'):aT e s h0 h' v xs:=by
 rcases q.out with a| ⟨n,cap,a,c,o⟩
 .exact⟨.inl a⟩
 exact⟨.inr ⟨n,cap,a,c,o.mono hl⟩⟩
theorem aT.base{b:Type}{e:Nat}{s:Sh b}{h0 a h:ab}{v:Value}{xs:List b}(q:aT e s a h v xs)(hl:Le h0 a):aT e s h0 h v xs:=by
 rcases q.out with g| ⟨n,cap,c,d,o⟩
 .exact⟨.inl g⟩
 exact⟨.inr ⟨n,cap,c,hl.none d,o⟩⟩
theorem cM.buf{a:Type}{e:Nat}{s:Sh a}{h0 h:ab}{b cap n:Nat}{xs:List a}(o:cM e s h b cap xs)(Q:h0 b=none)(c:n=xs.length):aT e s h0 h (.slice (some ⟨b,0,none⟩) n cap) xs:=by subst c;exact⟨.inr ⟨b,cap,rfl,Q,o⟩⟩
theorem aT.own{a:Type}{e:Nat}{s:Sh a}{h0 h:ab}{b:Option Addr}{l c:Nat}{xs:List a}(q:aT e s h0 h (.slice b l c) xs)(hl:0<l):∃n,b=some ⟨n,0,none⟩/\h0 n=none/\l=xs.length/\cM e s h n c xs:=by
 rcases q.out with⟨b,g,rfl⟩|⟨n,cap,g,d,o⟩
 .cases g;omega
 cases g;exact⟨n,rfl,d,rfl,o⟩
theorem aT.append{F:Type}{e:Nat}{s:Sh F}{h0 h:ab}{b x:Option Addr}{len cap n K:Nat}{xs ys:List F}(q:aT e s h0 h (.slice b len cap) xs)(E:Sl e s h (.slice x n K) ys)(M:e∉s.tys){size bytes:Nat}(P:size=s.n)(T:bytes<=128)(N:len+n<=2^39)
 {k:Value->ab->Prop} (d:Le h0 h) (v:∀m f c' h',m=len+n->Le h0 h'->(∀tys,e∉tys->cf tys h h')->(∀j o,h j=some o->(∀c fr,o≠.cells c e fr)->h' j=some o)->aT e s h0 h' (.slice f m c') (xs++ys)->k (.slice f m c') h'):
 fq h b len cap x n size bytes e k:=by
 subst P;obtain⟨cs,J,p,w,y⟩:=E.iu;have l:=q.sl.len;have C:=E.len;have g:cap<len+n->pq h b len cap n s.n bytes e cs k:=λz=>by
  refine oB q.sl z rfl T N w p (ys:=ys) (by rw[C];exact mr _) (λh' hl=>?_) (λD c h' e1 r U o=>?_)
  .have:=y h' (hl.t _) [] [];simpa using this
  exact v _ _ _ h' rfl (d.trans r) (λtys _=>r.t tys) (λj o a _=>r j o a) (o.buf (d.none e1) (by rw[dr,l,C]))
 refine⟨cs,J,?_⟩;by_cases W:len+n<=cap
 .refine⟨w,λ_=>?_,λz=>by omega⟩;by_cases R:n=0
  .have G:cs=[]:=ee (by rw[p,R];simp);have H:ys=[]:=ee (by omega);refine .inl ⟨G,v _ _ _ h rfl d (λ_ _=>cf.refl _ _) (λ_ _ a _=>a) ?_⟩;rw[H,wS,R];exact q
  rcases q.out with⟨f,t,u⟩|⟨D,V,t,u,o⟩
  .cases t;omega
  cases t;refine .inr ⟨⟨D,xs.length*s.n,none⟩,by simp[bL],?_⟩;have O:Rows s h cs 0 ys:=by have:=y h (cf.refl _ _) [] [];simpa using this
  refine o.write (ys:=ys) M (i:=xs.length) (by omega) (by omega) (by omega) (by rw[p,C]) O (λh' B Q o'=>?_);rw[hJz,Yd (by omega),wS]at o';refine v _ _ _ h' rfl (d.aE (by simpa using u) B) Q (λj S a I=>?_) (o'.buf u (by rw[dr,C]));refine B j S a ?_;intro A;simp at A;obtain⟨c,L,-⟩:=o.out;rw[A,L]at a;cases a;exact I _ _ rfl
 exact g (by omega)
theorem bC{b:Type}{e:Nat}{s:Sh b}{h:ab}{n:Nat}{cs:List Value}{x:b}(c:h n=some (.cells (List.toArray cs) e (0,0)))(r:s.R h cs x):Sl e s h (.slice (some ⟨n,0,none⟩) 1 1) [x]:=by
 have l:=s.len r;refine Sl.fresh (xs:=[x]) c ⟨by simp[l],λj y a=>?_⟩ (by simp) (by simp);have A:j=0:=by have:=(dB.1 a).1;simp at this;exact this
 subst A;simp at a;subst a;simp;rw[hO (by omega)];exact r
theorem rC{A:Ar}[h:aV A]{m:Int}{s n:Nat}:A .cut (some ⟨n,0,none⟩) 0 m s=some ⟨n,0,none⟩:=by
 simp only[h.cut];split
 .rfl
 simp[bL]
theorem aM.nat{A:Ar}[h:aV A](n:Nat):aM (A .nat n) n:=⟨by rw[h.nat];rfl⟩
theorem aM.vf{A:Ar}[a:aV A]{z:Int}{i:Nat}(h:aM z i):A .az .lss z 0=false:=by have:=h.eq;rw[aJ A];exact ag (by omega)
theorem lN{f:Type}{e:Nat}{s:Sh f}{h:ab}{n:Nat}{c d:Value}{x y:f}(b:s.n=1)(g:h n=some (.cells (List.toArray [c,d]) e (0,0)))(r:s.R h [c] x)(i:s.R h [d] y):Sl e s h (.slice (some ⟨n,0,none⟩) 2 2) [x,y]:=by
 refine Sl.fresh (xs:=[x,y]) g ⟨by simp[b],λj z a=>?_⟩ (by simp) (by simp)
 match j,a with
 |0,a=>simp at a;subst a;simpa[b]using r
 |1,a=>simp at a;subst a;simpa[b]using i
 |j+2,a=>simp at a
theorem qq{g:Type}{e:Nat}{s:Sh g}{h:ab}{n:Nat}{c d f:Value}{x y w:g}(b:s.n=1)(i:h n=some (.cells (List.toArray [c,d,f]) e (0,0)))(r:s.R h [c] x)(k:s.R h [d] y)(l:s.R h [f] w):Sl e s h (.slice (some ⟨n,0,none⟩) 3 3) [x,y,w]:=by
 refine Sl.fresh (xs:=[x,y,w]) i ⟨by simp[b],λj z a=>?_⟩ (by simp) (by simp)
 match j,a with
 |0,a=>simp at a;subst a;simpa[b]using r
 |1,a=>simp at a;subst a;simpa[b]using k
 |2,a=>simp at a;subst a;simpa[b]using l
 |j+3,a=>simp at a
theorem eX{a:Type}{L:List (List a)}{i:Nat}{x:List a}(h:L[i]? =some x):(L.take (i+1)).flatten=(L.take i).flatten++x:=by rw[xx,h];simp
theorem sB{a:Type}(L:List (List a))(i:Nat):(L.take i).flatten.length<=L.flatten.length:=by have:=congrArg List.length (congrArg List.flatten (hJO i L));rw[List.flatten_append,dr]at this;omega
def dE(l:List Int):Nat:=nQ l 0 l.length
def gH(l:List Int):Bool:=decide (dE l<l.length/\l.getD (dE l) 0=0)
theorem aKk(l:List Int):dE l<=l.length:=(yZ l 0 l.length (qT _)).1
theorem kV{l:List Int}(h:gH l=true):dE l<l.length:=(qH h).1
theorem Sl.qu{a:Type}{A:Ar}[k:aV A]{e:Nat}{s:Sh a}{h:ab}{b:Option Addr}{n c:Nat}{xs:List a}(q:Sl e s h (.slice b n c) xs){z:Int}{i:Nat}(u:i<=n){m c':Nat}(o:m=i)(l:c'=i):
 Sl e s h (.slice (A .cut b 0 z s.n) m c') (xs.take i):=by
 obtain⟨p,cap,f,r,t,j⟩:=q.out;cases f;subst o l;have hl:(xs.take c').length=c':=by rw[dW];omega
 refine⟨_,_,by rw[hl],by rw[hl];exact mr _,by rw[hl];omega,?_⟩;rcases j with rfl| ⟨dM,off,cc,fr,rfl,g,d⟩
 .simp
 right;refine⟨dM,off,cc,fr,?_,g,d.take _⟩;simp only[k.cut];split
 .rfl
 simp[bL]
theorem IH.le{h h':ab}{a:Addr}{n:Nat}{cs:List Value}(q:IH h a n cs)(l:Le h h'):IH h' a n cs:=by obtain⟨b,d,c,e,fr,f,g⟩:=q;exact⟨b,d,c,e,fr,l _ _ f,g⟩
theorem Sl.KL{d:Type}{A:Ar}[aV A]{e:Nat}{s:Sh d}{h:ab}{b:Option Addr}{len cap:Nat}{xs:List d}(q:Sl e s h (.slice b len cap) xs){i:Nat}{x:d}(hx:xs[i]? =some x){n:Int}(p:n=(i:Int))
 {k:List Value->Prop} (o:∀cs,s.R h cs x->(∀h' a,Le h h'->a cs->vX h' (A.fM b n s.n) s.n a)->k cs):vX h (A.fM b n s.n) s.n k:=by
 obtain⟨t,Q,j,u,v,m⟩:=q.out;cases j;rcases m with rfl| ⟨dM,off,c,fr,rfl,f,g⟩
 .simp at hx
 subst p;have r:IH h (A.fM (some ⟨dM,off,none⟩) (i:Int) s.n) s.n ((c.toList.drop (off+i*s.n)).take s.n):=by rw[A.pd];simp only[fM,hJY,zw,bL];exact jo f g hx
 exact⟨_,r,o _ (g.2 i x hx) (λh' a l K=>⟨_,r.le l,K⟩)⟩
theorem Mh{a:Type}{xs:List a}{i:Nat}(x:a)(h:i<xs.length):xs.take i++[x]++xs.drop (i+1)=xs.set i x:=by rw[iXe,if_pos h];simp
theorem cM.setAt{c:Type}{A:Ar}[aV A]{e:Nat}{s:Sh c}{h:ab}{b cap:Nat}{xs:List c}(o:cM e s h b cap xs)(d:e∉s.tys){i:Nat}(g:i<xs.length){n:Int}(q:n=(i:Int)){z:Nat}(f:z=s.n)
 {cs:List Value} {x:c} (hx:s.R h cs x) {k:ab->Prop}
 (m:∀h',Kp [b] h h'->(∀tys,e∉tys->cf tys h h')->cM e s h' b cap (xs.set i x)->k h'):HG h (A.fM (some ⟨b,0,none⟩) n z) cs k:=by
 subst q f;have l:=s.len hx;have p:=o.le;have D:=o.bd;rw[A.pd];simp only[fM,hJY,zw,bL,qp];refine o.write (ys:=[x]) d (i:=i) (by omega) (by simp;omega) (by simp;omega) (by simp[l]) ⟨by simp[l],λj y a=>?_⟩ (λh' r t o'=>m h' r t ?_)
 .have J:j=0:=by have:=(dB.1 a).1;simp at this;exact this
  subst J;simp at a;subst a;simp;rw[hO (by omega)];exact hx
 rw[<-Mh x g];exact o'
theorem cM.kp{a:Type}{e:Nat}{s:Sh a}{h h':ab}{n cap:Nat}{xs:List a}(o:cM e s h n cap xs){bs:List Nat}(k:Kp bs h h')(g:n∉bs)(t:cf s.tys h h'):cM e s h' n cap xs:=by obtain⟨c,b,d,f⟩:=o.out;exact⟨⟨c,k _ _ b g,d.mono t,f⟩,o.le,o.bd⟩
theorem cM.has{a:Type}{e:Nat}{s:Sh a}{h:ab}{n cap:Nat}{xs:List a}(o:cM e s h n cap xs):h n≠none:=by obtain⟨c,b,-⟩:=o.out;rw[b];simp
theorem Ec{b:Type}{e:Nat}{s:Sh b}{h:ab}{n:Nat}{cs:List Value}{x:b}(c:h n=some (.cells (List.toArray cs) e (0,0)))(r:s.R h cs x):cM e s h n 1 [x]:=by
 have l:=s.len r;refine⟨⟨cs,c,⟨by simp[l],λj y a=>?_⟩,by simp[l]⟩,by simp,by simp⟩;have A:j=0:=by have:=(dB.1 a).1;simp at this;exact this
 subst A;simp at a;subst a;simp;rw[hO (by omega)];exact r
theorem Kz{c cs new:List Value}{p off n:Nat}(d:p+n<=c.length)(a:cs=(c.drop p).take n)(hl:off+new.length<=n):fa c (p+off) new=fa c p (fa cs off new):=by
 have C:cs.length=n:=by rw[a,dW,ec];omega
 have iX:(fa cs off new).length=n:=by rw[dP,C]
 apply rv;intro j;rw[jG new c _ _ (by omega),jG (fa cs off new) c _ _ (by rw[iX];exact d),iX];by_cases h:p<=j/\j<p+n
 .rw[if_pos h,jG new cs _ _ (by rw[C];exact hl)];by_cases b:p+off<=j/\j<p+off+new.length
  .rw[if_pos b,if_pos (by omega)];congr 1;omega
  rw[if_neg b,if_neg (by omega),a,hU,if_pos (by omega),nM];congr 1;omega
 rw[if_neg h,if_neg (by omega)]
theorem cM.Mi{a:Type}{A:Ar}[F:aV A]{e:Nat}{s:Sh a}{h:ab}{b cap:Nat}{xs:List a}(o:cM e s h b cap xs)(u:e∉s.tys){i:Nat}{x:a}(j:xs[i]? =some x){n:Int}(l:n=(i:Int)){z:Nat}(f:z=s.n)
 {off:Nat} {new:List Value} (hl:off+new.length<=s.n) {m:a} (hx:∀cs,s.R h cs x->s.R h (fa cs off new) m) {k:ab->Prop}
 (v:∀h',Kp [b] h h'->(∀tys,e∉tys->cf tys h h')->cM e s h' b cap (xs.set i m)->k h'):HG h (A .off (A .fM (some ⟨b,0,none⟩) n z) off) new k:=by
 have Z:=(dB.1 j).1;obtain⟨c,d,r,t⟩:=o.out;have hR:=r.2 i x j;rw[qp]at hR;have w:=o.le;have Y:i*s.n+s.n<=c.length:=by rw[t,<-hJI];exact xt _ (by omega)
 have key:=(o.setAt (A:=A) u Z l f (hx _ hR) (k:=k) v).out;subst l f;rw[A.pd]at key;rw[aV.off (A:=A),aV.fM (A:=A)];simp only[fM,hJY,zw,bL,qp]at key |-;obtain⟨c',y,E,B,g,C,D,q⟩:=key;rw[d]at g;cases g;refine⟨c.toArray,e,(0,0),rfl,d,by simp;omega,by simp,λh' p=>q h' ?_⟩;rw[p];simp only;rw[Kz (c:=c) (n:=s.n) Y rfl hl]
open Go.ChangeMaps (setBlock)
variable {a:Type}{xs:List a}{b cap i m n:Nat}{s:Sh a}{d:TypeDesc}{k:Value->ab->Prop}{h:ab}
variable {P:Program}
structure It(h:ab)(r m:Nat)(left:List (Value×Value))(last:Option (Value×Value)):Prop where
 out:∃es clock since seen c0,h m=some (.map es clock)/\h r=some (.mapIter (some m) since seen c0)/\(∀x∈es.toList,x.born<since)/\since<=c0/\since<=clock/\(es.toList.map (·.born)).Nodup/\
  left=(leftOf es seen).toList.map (λe=>(e.key,e.val))/\∀p,last=some p->∃e∈es.toList,(e.key,e.val)=p/\∃PA:Array Nat,seen=PA.push e.born/\c0=clock
structure iV{α:Type}(e:Nat)(s:Sh α)(h0 h:ab)(v:Value)(xs:List α)(p:Nat):Prop where
 out:(∃b,v=.slice b 0 0/\xs=[])\/∃nb cap pre,v=.slice (some ⟨nb,pre.length*s.n,none⟩) xs.length (cap-pre.length)/\h0 nb=none/\cM e s h nb cap (pre++xs)/\(pre++xs).length<=p
structure Fs{α:Type}(s:Sh α)(h:ab)(v:Value)(xs:List α):Prop where
 out:∃b cap,v=.slice b xs.length cap/\xs.length<=2^50/\(xs=[]\/∃dM off c e fr,b=some ⟨dM,off,none⟩/\h dM=some (.cells c e fr)/\Rows s h c.toList off xs)
theorem Sl.Ap{A:Ar}[aV A]{e:Nat}{b:Option Addr}{len:Nat}(q:Sl e s h (.slice b len cap) xs){x:a}(hx:xs[i]? =some x){n:Int}(p:n=(i:Int)){o1 o2:Nat}(r:o1+o2+m<=s.n)
 {k:List Value->Prop} (l:∀cs,s.R h cs x->k ((cs.drop (o1+o2)).take m)):vX h (A .off (A .off (A .fM b n s.n) o1) o2) m k:=by
 have:=(q.ep (A:=A) hx p (o:=o1+o2) (m:=m) r l).out;obtain⟨t,Q,f,w,y,j⟩:=q.out;cases f;rcases j with rfl| ⟨dM,off,c,fr,rfl,u,v⟩
 .simp at hx
 obtain⟨cs,g,d⟩:=this;refine⟨cs,?_,d⟩;rw[aV.fM (A:=A),aV.off (A:=A)]at g |-;simp only[fM,hJY,bL]at g |-;simpa[hKi]using g
theorem cM.Bn{d:Type}{e:Nat}{s:Sh d}{xs ys:List d}(o:cM e s h b cap xs)(p:e∉s.tys)(r:i<=xs.length){x:Option Addr}{l:Nat}(q:Sl e s h (.slice x n l) ys)(z:i+n<=cap)(y:i+n<=2^40)
 {size bytes:Nat} (P:size=s.n) 
 (a:∀h' m,m=i+n->Kp [b] h h'->(∀tys,e∉tys->cf tys h h')->cM e s h' b cap (xs.take i++ys++xs.drop (i+n))->k (.slice (some ⟨b,0,none⟩) m cap) h'):
 fq h (some ⟨b,0,none⟩) i cap x n size bytes e k:=by
 subst P;obtain⟨cs,f,c,g,j⟩:=q.iu;have C:=q.len;refine⟨cs,f,g,λ_=>?_,λA=>by omega⟩;by_cases R:n=0
 .have u:cs=[]:=ee (by rw[c,R];simp);have H:ys=[]:=ee (by omega);refine .inl ⟨u,a h _ rfl (Kp.refl _ _) (λ_ _=>cf.refl _ _) ?_⟩;rw[H,wS,R,hKz,hJO];exact o
 refine .inr ⟨⟨b,i*s.n,none⟩,by simp[bL],?_⟩;have t:Rows s h cs 0 ys:=by have:=j h (cf.refl _ _) [] [];simpa using this
 refine o.write (ys:=ys) p (i:=i) r (by omega) (by omega) (by rw[c,C]) t (λh' v w o'=>?_);rw[<-C]at o';exact a h' _ rfl v w o'
theorem cM.Sq{e:Nat}(o:cM e s h b cap xs)(f:e∉s.tys){p:Nat}{z:List Value}(c:gE z=true)(j:z.length=s.n)(i:xs.length<=p)(d:p+n<=cap){k:ab->Prop}
 (g:∀h',Kp [b] h h'->(∀tys,e∉tys->cf tys h h')->cM e s h' b cap xs->k h'):uq h (some ⟨b,p*s.n,none⟩) n z k:=by
 refine⟨c,.inr ⟨_,rfl,?_⟩⟩;refine o.UN f (xt _ i) ?_ g;rw[eB,j,<-hJH];exact xt _ d
theorem erase_eq(h:i<xs.length):(xs.take i++xs.drop (i+1)++xs.drop (i+(xs.length-(i+1)))).take (xs.length-1)=xs.eraseIdx i:=by rw[hKs (by simp;omega),hKI,hO (by simp;omega)]
def eS(h:ab)(n:Nat):ab:=λb=>if b=n then none else h b
theorem nC(h:ab)(n:Nat):Le (eS h n) h:=λb o a=>by
 unfold eS at a;split at a
 .cases a
 exact a
theorem ju(h:ab)(n:Nat):eS h n n=none:=by unfold eS;rw[if_pos rfl]
theorem jS(a:b≠n):eS h n b=h b:=by unfold eS;rw[if_neg a]
variable {P:Program}
theorem Mk{mt i t:TypeId}(v:P.underlying mt=some (.map i t))(a:P.underlying i=some d){z:Value}(y:∀w,(zeroValue t).run P w=.ok z w){l:List (Value×Value)}(q:Mp h m d l){key:Value}(b:IsKey d key)(A:∀p∈l,p.1≠key)
  (K:k (.tuple #[z,.bool false]) h):dF (λ_=>P) (λ_=>Instr.lookup mt (.map (some m)) key true) h k:=
 ⟨λw f=>by
  obtain⟨s,c,g,o,B,r⟩:=q.out;have u:=f _ _ g;have n:∀x∈s.toList,x.key≠key:=λx hx=>by
   have:(x.key,x.val)∈l:=by rw[<-o];exact hJK.2 ⟨x,hx,rfl⟩
   exact A _ this
  rcases findNow_spec b s.toList 0 r with⟨f1,_⟩|⟨j,e,f1,f2,f3⟩
  .refine⟨.tuple #[z,.bool false],w,h,?_,K,bD.refl f⟩;simp[Instr.lookup,run_underlying v,Go.MapKept.run_getObj_map u,run_checkKey a b,run_findKey a f1,y,Result.andThen]
  exact absurd f3 (n e (kF f2))⟩
theorem Pz{mt t u:TypeId}(D:P.underlying mt=some (.map t u))(n:P.underlying t=some d){l:List (Value×Value)}(q:Mp h m d l){key v:Value}(o:IsKey d key)(Z:(key,v)∈l)
  (K:k (.tuple #[v,.bool true]) h):dF (λ_=>P) (λ_=>Instr.lookup mt (.map (some m)) key true) h k:=
 ⟨λw r=>by
  obtain⟨s,c,g,y,z,A⟩:=q.out;have B:=r _ _ g;rw[<-y]at Z;obtain⟨x,hx,C⟩:=hJK.1 Z;cases C;rcases findNow_spec o s.toList 0 A with⟨f1,f2⟩|⟨j,e,f1,f2,f3⟩
  .exact absurd rfl (f2 x hx)
  have U:e=x:=by
   have p:=((stamped_iff s c).1 z).2.2;obtain⟨i,f⟩:=yl hx;rcases hKK i j with I|rfl|I
   .exfalso;have a:=(dB.1 f2);have b:=(dB.1 f);have:=hJA.1 p i j b.1 a.1 I;rw[b.2,a.2]at this;exact this f3.symm
   .rw[f2]at f;exact Option.some.inj f
   exfalso;have a:=(dB.1 f2);have b:=(dB.1 f);have:=hJA.1 p j i a.1 b.1 I;rw[b.2,a.2]at this;exact this f3
  subst U;refine⟨_,w,h,?_,K,bD.refl r⟩;simp[Instr.lookup,run_underlying D,Go.MapKept.run_getObj_map B,run_checkKey n o,run_findKey n f1,Result.andThen]⟩
end Go.Sx
