import Derived.Test.YthnbpiejemlbeaaGreatSxB
import Derived.Laws.LoneSync
import Derived.Lib.Bytealg
import Derived.Maps.RangeRun
set_option linter.all false
namespace Go.Sx
def Le(h h':ad):Prop:=∀b o,h b=some o->h' b=some o
theorem Le.refl(h:ad):Le h h:=λ_ _ x=>x
theorem Le.trans{a b c:ad}(x:Le a b)(y:Le b c):Le a c:=λk o q=>y k o (x k o q)
theorem Le.set{h:ad}{n:Nat}{o:Obj}(c:h n=none):Le h (bL h n o):=λb q a=>by
 unfold bL;split
 .rename_i e;rw[e,c]at a;cases a
 exact a
theorem ae{h:ad}{n:Nat}{o:Obj}:bL h n o n=some o:=by unfold bL;rw[if_pos rfl]
theorem ck{h:ad}{n b:Nat}{o:Obj}(a:b≠n):bL h n o b=h b:=by unfold bL;rw[if_neg a]
theorem ek{h:ad}{n:Nat}{o o':Obj}:bL (bL h n o) n o'=bL h n o':=by funext b;unfold bL;split<;>rfl
def cO(tys:List Nat)(h h':ad):Prop:=∀b c e fr,e∈tys->h b=some (.cells c e fr)->h' b=some (.cells c e fr)
theorem Le.t{h h':ad}(x:Le h h')(tys:List Nat):cO tys h h':=λb c e fr _ q=>x b _ q
theorem cO.refl(tys:List Nat)(h:ad):cO tys h h:=λ_ _ _ _ _ x=>x
theorem cO.trans{tys:List Nat}{a b c:ad}(x:cO tys a b)(y:cO tys b c):cO tys a c:=λk d e fr m q=>y k d e fr m (x k d e fr m q)
theorem cO.set{tys:List Nat}{h:ad}{n e:Nat}{c:Array Value}{fr:Nat×Nat}{o:Obj}(g:h n=some (.cells c e fr))(f:e∉tys):cO tys h (bL h n o):=λb d i K m a=>by
 unfold bL;split
 .rename_i q;rw[q,g]at a;cases a;exact absurd m f
 exact a
theorem cO.sub{tys K:List Nat}{h h':ad}(x:cO tys h h')(s:∀t∈K,t∈tys:=by decide):cO K h h':=λb c e fr m q=>x b c e fr (s e m) q
structure Sh(α:Type)where
 n:Nat
 R:ad->List Value->α->Prop
 len:∀ {h cs x},R h cs x->cs.length=n
 one:∀ {h cs x},R h cs x->jv cs=true
 tys:List Nat
 mono:∀ {h h' cs x},cO tys h h'->R h cs x->R h' cs x
def Rows{α:Type}(s:Sh α)(h:ad)(c:List Value)(off:Nat)(xs:List α):Prop:=
 off+xs.length*s.n<=c.length/\∀i x,xs[i]? =some x->s.R h ((c.drop (off+i*s.n)).take s.n) x
theorem Rows.mono{a:Type}{s:Sh a}{h h':ad}{c:List Value}{off:Nat}{xs:List a}(hl:cO s.tys h h')(r:Rows s h c off xs):Rows s h' c off xs:=
 ⟨r.1,λi x hx=>s.mono hl (r.2 i x hx)⟩
structure Sl{α:Type}(e:Nat)(s:Sh α)(h:ad)(v:Value)(xs:List α):Prop where
 out:∃b cap,v=.slice b xs.length cap/\xs.length<=cap/\xs.length<=2^40/\
  (xs=[]\/∃lE off c fr,b=some ⟨lE,off,none⟩/\h lE=some (.cells c e fr)/\Rows s h c.toList off xs)
theorem Sl.mono{d:Type}{e:Nat}{s:Sh d}{h h':ad}{v:Value}{xs:List d}(hl:cO (e::s.tys) h h')(q:Sl e s h v xs):Sl e s h' v xs:=by
 obtain⟨b,cap,j,k,l,a⟩:=q.out;refine⟨b,cap,j,k,l,?_⟩;rcases a with a| ⟨lE,off,c,fr,g,f,i⟩
 .exact .inl a
 exact .inr ⟨lE,off,c,fr,g,hl _ _ _ _ (by simp) f,i.mono (hl.sub λt m=>by simp[m])⟩
def vA{α:Type}(e:Nat)(s:Sh α):Sh (List α)where
 n:=1
 R h cs xs:=∃v,cs=[v]/\Sl e s h v xs
 len:=by rintro h cs x ⟨v,rfl,-⟩;rfl
 one:=by rintro h cs x ⟨v,rfl,q⟩;obtain⟨b,cap,rfl,-⟩:=q.out;rfl
 tys:=e::s.tys
 mono:=by rintro h h' cs x hl ⟨v,rfl,q⟩;exact⟨v,rfl,q.mono hl⟩
theorem oz{a:Type}{s:Sh a}{h:ad}{c:Array Value}{e:Nat}{fr:Nat×Nat}{l off:Nat}{xs:List a}(b:h l=some (.cells c e fr))(r:Rows s h c.toList off xs){i:Nat}{x:a}
 (hx:xs[i]? =some x):NQ h ⟨l,off+i*s.n,none⟩ s.n ((c.toList.drop (off+i*s.n)).take s.n):=by
 refine⟨rfl,s.len (r.2 i x hx),c,e,fr,b,λj d=>?_⟩;rw[qH,if_pos d,rB];simp
theorem Sl.load{a:Type}{A:Ar}[bI A]{e:Nat}{s:Sh a}{h:ad}{b:Option Addr}{len cap:Nat}{xs:List a}(q:Sl e s h (.slice b len cap) xs){i:Nat}{x:a}(hx:xs[i]? =some x){n:Int}(m:n=(i:Int))
 {k:List Value->Prop} (l:∀cs,s.R h cs x->k cs):zF h (A.je b n s.n) s.n k:=by
 obtain⟨o,t,f,p,r,j⟩:=q.out;cases f;rcases j with rfl| ⟨lE,off,c,fr,rfl,d,g⟩
 .simp at hx
 subst m;refine⟨_,?_,l _ (g.2 i x hx)⟩;rw[A.wG];simp only[je,jKv,HH,cI];exact oz d g hx
theorem Sl.len{a:Type}{e:Nat}{s:Sh a}{h:ad}{b:Option Addr}{len cap:Nat}{xs:List a}(q:Sl e s h (.slice b len cap) xs):len=xs.length:=by obtain⟨d,i,c,-⟩:=q.out;cases c;rfl
theorem Sl.bp{a:Type}{e:Nat}{s:Sh a}{h:ad}{b:Option Addr}{len cap:Nat}{xs:List a}(q:Sl e s h (.slice b len cap) xs)(hl:0<len:=by omega):b.isSome=true:=by
 obtain⟨g,k,d,i,j,f⟩:=q.out;cases d;rcases f with rfl| ⟨lE,off,c,fr,rfl,-⟩
 .simp at hl
 rfl
theorem Sl.bound{a:Type}{e:Nat}{s:Sh a}{h:ad}{b:Option Addr}{len cap:Nat}{xs:List a}(q:Sl e s h (.slice b len cap) xs):len<=2^40/\len<=cap:=by obtain⟨g,i,c,d,f,-⟩:=q.out;cases c;exact⟨f,d⟩
theorem Sl.kL{f:Type}{e:Nat}{s:Sh f}{h:ad}{b:Option Addr}{len cap:Nat}{xs:List f}(q:Sl e s h (.slice b len cap) xs):
 ∃cs,bQH h b (len*s.n) cs/\cs.length=len*s.n/\jv cs=true/\∀h',cO s.tys h h'->∀p r,Rows s h' (p++cs++r) p.length xs:=by
 obtain⟨w,B,l,y,z,n⟩:=q.out;cases l;rcases n with rfl| ⟨lE,off,c,fr,rfl,k,g⟩
 .exact⟨[],.inl ⟨by simp,rfl⟩,by simp,rfl,λh' _ p r=>⟨by simp,λi x hx=>by simp at hx⟩⟩
 refine⟨(c.toList.drop off).take (xs.length*s.n),.inr ⟨_,rfl,rfl,?_,c,e,fr,k,λj d=>?_⟩,?_,?_,λh' hl p r=>⟨?_,λi x hx=>?_⟩⟩
 .have:=g.1;simp at this |-;omega
 .rw[qH,if_pos d,rB];simp
 .have:=g.1;simp at this |-;omega
 ·-- jv
  have key:∀m,m<=xs.length->jv ((c.toList.drop off).take (m*s.n))=true:=λm=>by
   induction m with
   |zero=>intro _;simp[jv]
   |succ m v=>
    intro A;have hx:xs[m]? =some xs[m]:=by simp[show m<xs.length by omega]
    have a:=s.one (g.2 m _ hx);have o:(c.toList.drop off).take ((m+1)*s.n)=(c.toList.drop off).take (m*s.n)++(c.toList.drop (off+m*s.n)).take s.n:=by rw[jKi,List.take_add,jKS]
    rw[o];exact CN (v (by omega)) a
  exact key _ (kB _)
 .have:=g.1;simp at this |-;omega
 have a:=g.2 i x hx;have u:i<xs.length:=(ff.1 hx).1;have t:=g.1;have e1:i*s.n+s.n<=xs.length*s.n:=by rw[<-jKi];exact za _ u
 have:((p++(c.toList.drop off).take (xs.length*s.n)++r).drop (p.length+i*s.n)).take s.n=(c.toList.drop (off+i*s.n)).take s.n:=by
  apply yr;intro j;simp only[qH];split
  .rename_i d;rw[rB,ym,kQe (by omega),kQa (by simp at t |-;omega),qH,if_pos (by omega),rB,rB];congr 1;omega
  rfl
 rw[this];exact s.mono hl a
theorem Sl.fresh{a:Type}{e:Nat}{s:Sh a}{h:ad}{n:Nat}{c:List Value}{xs:List a}{cap:Nat}(b:h n=some (.cells c.toArray e (0,0)))(r:Rows s h c 0 xs)(hl:xs.length<=2^40)(d:xs.length<=cap):
 Sl e s h (.slice (zsA n) xs.length cap) xs:=
 ⟨zsA n,cap,rfl,d,hl,.inr ⟨n,0,c.toArray,(0,0),rfl,b,by simpa using r⟩⟩
theorem Sl.nil{a:Type}{e:Nat}{s:Sh a}{h:ad}{b:Option Addr}{cap:Nat}:Sl e s h (.slice b 0 cap) ([]:List a):=
 ⟨b,cap,rfl,by simp,by simp,.inl rfl⟩
theorem ba{t:Bool}{x y:Unit->Prop}(h:t=true->x ())(a:t=false->y ()):Ps t x y:=by
 cases t
 .exact a rfl
 exact h rfl
structure cZ{α:Type}(e:Nat)(s:Sh α)(h:ad)(nb cap:Nat)(xs:List α):Prop where
 out:∃c,h nb=zcL e c/\Rows s h c 0 xs/\c.length=cap*s.n
 le:xs.length<=cap
 bd:xs.length<=2^40
theorem cZ.sl{a:Type}{e:Nat}{s:Sh a}{h:ad}{b cap:Nat}{xs:List a}(o:cZ e s h b cap xs){n:Nat}(g:n=xs.length):Sl e s h (.slice (zsA b) n cap) xs:=by obtain⟨c,d,f,-⟩:=o.out;subst g;exact Sl.fresh d f o.bd o.le
theorem cZ.mono{a:Type}{e:Nat}{s:Sh a}{h h':ad}{n cap:Nat}{xs:List a}(hl:cO (e::s.tys) h h')(o:cZ e s h n cap xs):cZ e s h' n cap xs:=by obtain⟨c,b,d,f⟩:=o.out;exact⟨⟨c,hl _ _ _ _ (by simp) b,d.mono (hl.sub λt g=>by simp[g]),f⟩,o.le,o.bd⟩
theorem dt{j:Type}{e:Nat}{s:Sh j}{h:ad}{x:Option Addr}{n o:Nat}{xs:List j}(q:Sl e s h (.slice x n o) xs)(z:e∉s.tys){a:Option Addr}{size bytes:Nat}(w:size=s.n)(W:bytes<=128)
 {k:Value->ad->Prop} (M:n=0->k (.slice a 0 0) h)
 (G:∀b cap h',h b=none->0<n->Le h h'->cZ e s h' b cap xs->k (.slice (zsA b) n cap) h'):iq h a 0 0 x n size bytes e k:=by
 subst w;obtain⟨cs,t,f,u,v⟩:=q.kL;have g:=q.len;obtain⟨C,Z⟩:=q.bound;refine⟨cs,t,u,λA=>?_,λB=>?_⟩
 .have i:n=0:=by omega
  have m:cs=[]:=kh (by rw[f,i];simp);subst i;exact .inl ⟨m,M rfl⟩
 refine⟨?_,?_,[],.inl ⟨by simp,rfl⟩,λb c h' r e1 y p d=>?_⟩
 .have Q:(2:Nat)^40=1099511627776:=rfl;have U:(2:Nat)^48=281474976710656:=rfl;have:2*(0+n)*bytes<=2*(0+n)*128:=kXe _ W;omega
 .have Q:(2:Nat)^40=1099511627776:=rfl;have U:(2:Nat)^48=281474976710656:=rfl;omega
 have l:Le h h':=by rw[d];exact Le.set e1
 have:=G b c h' e1 (by omega) l ⟨⟨cs++r,?_,?_,?_⟩,by omega,by omega⟩
 .simpa using this
 .rw[d,ae];simp
 .have:=v h' (l.t _) [] r;simpa using this
 simp only[cy,f,p];rw[<-jKm];congr 1;omega
def vC:Env->List (Nat×SV)->Env
 |env,[]=>env
 |env,(t,x)::r=>vC (env.set t x) r
def UT:Env->List Nat->Env
 |env,[]=>env
 |env,t::r=>UT (env.set t .u) r
theorem aX.go{G:Type}{w:List Nat}{b:(Ex->Env->Loc->ad->Prop)->Env->Loc->ad->Prop}{K:Ex->Env->Loc->ad->Prop}{env:Env}{L:Loc}{h:ad}
 (v:G->List (Nat×SV)) (l:G->Loc) (I:Nat->G->ad->Prop) (q:Nat) (i:G)
 (t:Wk env L (vC (UT env w) (v i)) (l i)) (p:I q i h)
 (step:∀n g h',I n g h'->b (λe c L' s=>match e with
  | .normal=>∃m a,m<n/\Wk c L' (vC (UT env w) (v a)) (l a)/\I m a s
  |e=>K e c L' s) (vC (UT env w) (v g)) (l g) h'):aX w b K env L h:=
 ⟨λn z f d=>∃g,z=vC (UT env w) (v g)/\f=l g/\I n g d,q,⟨_,_,t,i,rfl,rfl,p⟩,λn z f d ⟨g,e1,r,p⟩=>by
  subst e1 r;have:=step n g d p;have key:(λ(e:Ex) (c:Env) (L':Loc) (s:ad)=>match e with
   | .normal=>∃m a,m<n/\Wk c L' (vC (UT env w) (v a)) (l a)/\I m a s
   |e=>K e c L' s)=(λe c L' h'=>match e with
   | .normal=>∃m z f,m<n/\Wk c L' z f/\∃g,z=vC (UT env w) (v g)/\f=l g/\I m g h'
   |e=>K e c L' h'):=by
   funext e c L' s;cases e with
   |normal=>
    apply propext;constructor
    .rintro⟨m,a,d,k,o⟩;exact⟨m,_,_,d,k,a,rfl,rfl,o⟩
    rintro⟨m,_,_,d,k,a,rfl,rfl,o⟩;exact⟨m,a,d,k,o⟩
   |exit j=>rfl
   |ret=>rfl
  rw[key]at this;exact this⟩
def Kp(bs:List Nat)(h h':ad):Prop:=∀b o,h b=some o->b∉bs->h' b=some o
theorem Kp.refl(bs:List Nat)(h:ad):Kp bs h h:=λ_ _ x _=>x
theorem Kp.trans{bs:List Nat}{a b c:ad}(x:Kp bs a b)(y:Kp bs b c):Kp bs a c:=λk o q h=>y k o (x k o q h) h
theorem Le.kp{h h':ad}(x:Le h h')(bs:List Nat):Kp bs h h':=λb o q _=>x b o q
theorem Kp.set{bs:List Nat}{h:ad}{n:Nat}{o:Obj}(c:n∈bs):Kp bs h (bL h n o):=λb q a k=>by
 rw[ck (λe=>k (by rw[e];exact c))];exact a
theorem Kp.sub{bs Y:List Nat}{h h':ad}(x:Kp bs h h')(s:∀b∈bs,b∈Y:=by decide):Kp Y h h':=λb o q k=>x b o q (λe=>k (s b e))
theorem Le.aV{h a c:ad}{bs:List Nat}(x:Le h a)(n:∀b∈bs,h b=none)(y:Kp bs a c):Le h c:=λb o q=>y b o (x b o q) (λe=>by rw[n b e]at q;cases q)
theorem Le.none{h h':ad}(x:Le h h'){b:Nat}(q:h' b=none):h b=none:=by
 cases a:h b with
 |none=>rfl
 |some o=>rw[x b o a]at q;cases q
theorem KY{a:Type}{s:Sh a}{h:ad}{c:List Value}:Rows s h c 0 []:=⟨by simp,λi x hx=>by simp at hx⟩
theorem sJ{g:Type}{e:Nat}{s:Sh g}{h:ad}{l:Nat}{A:Ar}[bI A]{bytes:Nat}{z:List Value}{k:Value->ad->Prop}(f:z.length=s.n)(hl:l<=2^40)(c:bytes<=128)
 (d:∀n h',h n=none->Le h h'->cZ e s h' n l []->k (.slice (zsA n) l l) h'):
 qf h e (A .nat l) (A .nat l) bytes z k:=by
 have Q:(2:Nat)^40=1099511627776:=rfl;have U:(2:Int)^48=281474976710656:=rfl;rw[bI.nat (A:=A)];refine⟨by simp only[rz];omega,⟨by rw[U];simp only[rz];omega,?_⟩,λn h' e1 a=>?_⟩
 .rw[U];simp only[rz];have:bytes*l<=128*l:=za _ c;have b:((bytes*l:Nat):Int)<=((128*l:Nat):Int):=kXI.2 this;simp only[kXH]at b;omega
 simp only[rz,HH]at a |-;refine d n h' e1 (by rw[a];exact Le.set e1) ⟨⟨iJ l z,by rw[a,ae],KY,?_⟩,by simp,by simp⟩;rw[fZ,f]
theorem mH:∀(s:List Value) (c:List Value) (o j:Nat),o+s.length<=c.length->(ia c o s)[j]? =if o<=j/\j<o+s.length then s[j-o]? else c[j]?
 | [],c,o,j,_=>by simp[ia];omega
 |v::r,c,o,j,hl=>by
  simp only[wS]at hl;unfold ia;rw[mH r (c.set o v) (o+1) j (by simp;omega)];by_cases h:o+1<=j/\j<o+1+r.length
  .rw[if_pos h,if_pos ⟨by omega,by simp;omega⟩];rw[show j-o=(j-(o+1))+1 by omega];simp
  rw[if_neg h];by_cases a:o=j
  .subst a;rw[if_pos ⟨kB _,by simp⟩];simp[jKx (show o<c.length by omega)]
  rw[kQK a,if_neg (by simp;omega)]
theorem EK{v c:List Value}{o n:Nat}(hl:o+v.length<=c.length)(a:n=v.length):((ia c o v).drop o).take n=v:=by
 subst a;apply yr;intro j;rw[qH];split
 .rename_i h;rw[rB,mH v c o _ hl,if_pos ⟨by omega,by omega⟩];congr 1;omega
 rename_i h;rw[yo (by omega)]
theorem tL{v c:List Value}{o p n:Nat}(hl:o+v.length<=c.length)(hd:p+n<=o\/o+v.length<=p):((ia c o v).drop p).take n=(c.drop p).take n:=by
 apply yr;intro j;rw[qH,qH];split
 .rename_i h;rw[rB,rB,mH v c o _ hl,if_neg (by omega)]
 rfl
theorem cZ.store{p:Type}{A:Ar}[bI A]{e:Nat}{s:Sh p}{h:ad}{d cap:Nat}{xs:List p}(o:cZ e s h d cap xs)(w:e∉s.tys){i:Nat}(F:i<=xs.length)(v:i<cap)(M:cap<=2^40){n:Int}(D:n=(i:Int)){z:Nat}(E:z=s.n)
 {cs:List Value} {x:p} (hx:s.R h cs x) {k:ad->Prop}
 (B:∀h',Kp [d] h h'->(∀tys,e∉tys->cO tys h h')->cZ e s h' d cap (if i<xs.length then xs.set i x else xs++[x])->k h'):GG h (A.je (zsA d) n z) cs k:=by
 subst D E;obtain⟨c,q,u,g⟩:=o.out;have l:=s.len hx;have b:=o.le;have W:i*s.n+s.n<=c.length:=by rw[g,<-jKi];exact za _ v
 rw[A.wG];simp only[je,jKv,HH,cI,tT];refine⟨c.toArray,e,(0,0),rfl,q,by simp;omega,by simp,λh' f=>?_⟩;have t:∀tys,e∉tys->cO tys h h':=λtys S=>by rw[f];exact cO.set q S
 refine B h' (by rw[f];exact Kp.set (by simp)) t ⟨⟨ia c (i*s.n) cs,by rw[f];simp[ae],?_,by rw[eZ,g]⟩,?_,?_⟩
 .have r:=t s.tys w;have C:∀j y,(if i<xs.length then xs.set i x else xs++[x])[j]? =some y->(j=i/\y=x)\/(j≠i/\xs[j]? =some y):=λj y a=>by
   split at a
   .rename_i U;by_cases m:j=i
    .subst m;rw[jKx U]at a;exact .inl ⟨rfl,(Option.some.inj a).symm⟩
    rw[kQK (Ne.symm m)]at a;exact .inr ⟨m,a⟩
   rename_i J;have:i=xs.length:=by omega
   by_cases m:j=i
   .subst m;rw[kQe (by omega),this]at a;simp at a;exact .inl ⟨rfl,a.symm⟩
   rw[jKO]at a;split at a
   .exact .inr ⟨m,a⟩
   rename_i Q;rw[jKD]at a;split at a
   .omega
   cases a
  refine⟨?_,λj y a=>?_⟩
  .rw[eZ,g];simp only[tT];refine za _ ?_;split
   .simp;exact b
   simp;omega
  simp only[tT];rcases C j y a with⟨rfl,rfl⟩|⟨S,X⟩
  .rw[EK (by omega) l.symm];exact s.mono r hx
  have Q:j<xs.length:=(ff.1 X).1;rw[tL (by omega)]
  .have:=u.2 j y X;simp only[tT]at this;exact s.mono r this
  rcases wM j i with U|J
  .left;rw[<-jKi];exact za _ U
  right;rw[l,<-jKi];exact za _ (by omega)
 .split
  .simp;exact b
  simp;omega
 split
 .simp;exact o.bd
 simp;omega
theorem Sl.form{a:Type}{e:Nat}{s:Sh a}{h:ad}{v:Value}{xs:List a}(q:Sl e s h v xs):∃b l c,v=.slice b l c:=by obtain⟨b,cap,d,-⟩:=q.out;exact⟨b,_,cap,d⟩
structure aZ(z:Int)(i:Nat):Prop where
 eq:z=(i:Int)
theorem aZ.ix{z:Int}{i len:Nat}(a:aZ z i)(h:i<len):0<=z/\z<(len:Int):=by have:=a.eq;omega
theorem aZ.lt{A:Ar}[h:bI A]{z:Int}{i len:Nat}(a:aZ z i)(c:A .aN .lss z (A .nat len)=true):i<len:=by have:=a.eq;simp only[h.nat,h.aN,aN,NB,rz]at c;omega
theorem aZ.ge{A:Ar}[h:bI A]{z:Int}{i len:Nat}(a:aZ z i)(c:A .aN .lss z (A .nat len)=false):len<=i:=by have:=a.eq;simp only[h.nat,h.aN,aN,decide_eq_false_iff_not,rz]at c;omega
theorem aZ.succ{A:Ar}[h:bI A]{z:Int}{i:Nat}(a:aZ z i)(b:i<2^62:=by omega):aZ (A .aT .add .i64 z 1) (i+1):=by constructor;have:=a.eq;rw[h.aT];simp only[aT];rw[IntWalk.i64_in _ (by omega)];omega
theorem cB{a:Type}(xs:List a)(i:Nat)(h:i<xs.length:=by omega):∃x,xs[i]? =some x:=⟨xs[i],by simp[h]⟩
theorem aJ{a:Type}{xs:List a}{i:Nat}(h:i<xs.length):∃x,xs[i]? =some x:=⟨xs[i],by simp[h]⟩
variable {P:Program}
theorem fw.ext{f:FuncId}{args:List Value}{h:ad}{k:Value->ad->Prop}
 (r:∀w,DC h w->∃v w' h',(callFunc f args.toArray).run P w=.ok (.value v) w'/\k v h'/\bT h w h' w'):fw (λ_=>P) (λ_=>Cs f args) h k:=
 ⟨λw d=>by
  obtain⟨v,w',h',a,b,c⟩:=r w d;refine⟨v,w',h',?_,b,c⟩;simp only[Cs];rw[nX,a];rfl⟩
structure jr(P:Program)(f:FuncId)(fn:Func):Prop where
 hf:P.funcs[f]? =some fn
 vY:(fn.name== "runtime.NumGoroutine")=false
 hb:fn.body.isNone=true
 hn:Extern.findNext fn=none
structure oh(h:ad)(a:Addr)(v:Value):Prop where
 out:a.spot=none/\∃c e,h a.block=some (.cells c e (0,0))/\c[a.off]? =some v
theorem oh.cell{h:ad}{a:Addr}{v:Value}(c:oh h a v){w:World}(g:DC h w):w.cell? a=some v/\w.frozen? a=false:=by
 obtain⟨d,c,e,b,f⟩:=c.out;have b:=g _ _ b;constructor
 .simp[World.cell?,b,d,f]
 simp[World.frozen?,b]
theorem oh.set{h:ad}{a:Addr}{v:Value}(q:oh h a v)(x:Value){k:ad->Prop}(j:∀c e h',h a.block=some (.cells c e (0,0))->h'=bL h a.block (.cells (c.setIfInBounds a.off x) e (0,0))->k h'){w:World}(f:DC h w):
 ∃h',k h'/\bT h w h' (w.setCell a x):=by
 obtain⟨g,c,e,d,l⟩:=q.out;refine⟨_,j c e _ d rfl,?_⟩;refine bT.set f d ?_ ?_ ?_ ?_
 .simp[World.setCell,kXf,f _ _ d,g]
 .intro b i;simp[World.setCell,kXf,Ne.symm i]
 .simp[World.setCell]
 exact⟨rfl,rfl,rfl⟩
theorem xD{f:FuncId}{fn:Func}(o:jr P f fn)(m:Mark)(e:Extern.find fn=some (λ_=>do mark m;pure Extern.Race.none_)){h:ad}{k:Value->ad->Prop}(a:k (.tuple #[]) h):
 fw (λ_=>P) (λ_=>Cs f []) h k:=
 fw.ext λw b=>⟨_,w,h,run_call_mark0 o.hf o.vY o.hb o.hn m e w,a,bT.refl b⟩
theorem FX{f:FuncId}{fn:Func}(o:jr P f fn)(m:Addr->Mark)(e:Extern.find fn=some (Extern.Race.marked m)){a:Addr}{h:ad}{k:Value->ad->Prop}(b:k (.tuple #[]) h):
 fw (λ_=>P) (λ_=>Cs f [.pointer (some a)]) h k:=
 fw.ext λw c=>⟨_,w,h,run_call_marked o.hf o.vY o.hb o.hn m e a w,b,bT.refl c⟩
theorem Mn{f:FuncId}{fn:Func}(o:jr P f fn){j:IntKind}(e:Extern.find fn=some (Extern.Atomic.loadT (.int j))){a:Addr}{h:ad}{x:Int}(c:oh h a (.int j x)){k:Value->ad->Prop}(d:k (.int j x) h):
 fw (λ_=>P) (λ_=>Cs f [.pointer (some a)]) h k:=
 fw.ext λw b=>⟨_,w,h,run_call_load o.hf o.vY o.hb o.hn j e (c.cell b).1,d,bT.refl b⟩
theorem aJS{f:FuncId}{fn:Func}(o:jr P f fn){j:IntKind}(l:Extern.find fn=some (Extern.Atomic.casT (.int j))){a:Addr}{h:ad}{x y:Int}(b:oh h a (.int j x)){k:Value->ad->Prop}
 (m:∀c e h',h a.block=some (.cells c e (0,0))->h'=bL h a.block (.cells (c.setIfInBounds a.off (.int j y)) e (0,0))->k (.bool true) h'):
 fw (λ_=>P) (λ_=>Cs f [.pointer (some a),.int j x,.int j y]) h k:=
 fw.ext λw d=>by
  obtain⟨h',g,i⟩:=b.set (.int j y) (k:=k (.bool true)) m d;exact⟨_,_,h',run_call_cas_hit o.hf o.vY o.hb o.hn j l (b.cell d).1 (b.cell d).2,g,i⟩
theorem Cr{f:FuncId}{fn:Func}(o:jr P f fn)(l:Extern.find fn=some Extern.Atomic.storeT){a:Addr}{h:ad}{v:Value}{j:IntKind}{y:Int}(b:oh h a v){k:Value->ad->Prop}
 (m:∀c e h',h a.block=some (.cells c e (0,0))->h'=bL h a.block (.cells (c.setIfInBounds a.off (.int j y)) e (0,0))->k (.tuple #[]) h'):
 fw (λ_=>P) (λ_=>Cs f [.pointer (some a),.int j y]) h k:=
 fw.ext λw d=>by
  obtain⟨h',g,i⟩:=b.set (.int j y) (k:=k (.tuple #[])) m d;exact⟨_,_,h',run_call_store o.hf o.vY o.hb o.hn l (b.cell d).1 (b.cell d).2,g,i⟩
theorem JH{f:FuncId}{fn:Func}(o:jr P f fn){j:IntKind}(l:Extern.find fn=some (Extern.Atomic.update (Op.intArith .add) j true)){a:Addr}{h:ad}{x y:Int}(b:oh h a (.int j x)){k:Value->ad->Prop}
 (m:∀c e h',h a.block=some (.cells c e (0,0))->h'=bL h a.block (.cells (c.setIfInBounds a.off (.int j (j.wrap (x+y)))) e (0,0))->k (.int j (j.wrap (x+y))) h'):
 fw (λ_=>P) (λ_=>Cs f [.pointer (some a),.int j y]) h k:=
 fw.ext λw d=>by
  obtain⟨h',g,i⟩:=b.set (.int j (j.wrap (x+y))) (k:=k (.int j (j.wrap (x+y)))) m d;exact⟨_,_,h',run_call_add o.hf o.vY o.hb o.hn j l (b.cell d).1 (b.cell d).2 (by simp[Op.intArith]),g,i⟩
theorem aJR{f:FuncId}{fn:Func}(o:jr P f fn)(e:Extern.find fn=some Extern.BytealgCompare.compare){a b:ByteArray}{h:ad}{k:Value->ad->Prop}
 (c:k (.int .i64 (Lib.compareBytes a.data.toList b.data.toList)) h):fw (λ_=>P) (λ_=>Cs f [.string a,.string b]) h k:=
 fw.ext λw d=>by
  refine⟨_,w,h,?_,c,bT.refl d⟩;rw[run_callFunc_extern o.hf o.vY o.hb o.hn e];rw[show [Value.string a,Value.string b].toArray= #[.string a,.string b]from rfl,Lib.run_compareString];rfl
theorem EM{s d t:TypeId}(f:P.underlying s=some (.pointer t))(hd:P.underlying d=some .unsafePointer)(g:(P.info? t).map (λi=>decide (i.size=0))=some false)
 {a:Addr} {v:Value} {h:ad} (c:oh h a v) {k:Value->ad->Prop} (e:k (.pointer (some a)) h):fw (λ_=>P) (λ_=>Go.convert s d (.pointer (some a))) h k:=
 ⟨λw b=>⟨_,w,h,run_convert_to_unsafe f hd g (c.cell b).1,e,bT.refl b⟩⟩
theorem aZ.fKM{A:Ar}[h:bI A]{z w:Int}{i j:Nat}(b:aZ z i)(a:aZ w j)(f:i<2^61)(g:j<2^61):
 aZ (A .conv .i64 (A .aT .shr .u64 (A .conv .u64 (A .aT .add .i64 z w)) 1)) ((i+j) / 2):=by
 constructor;have c:=b.eq;have d:=a.eq;simp only[h.conv,h.aT,aT];rw[IntWalk.i64_in (z+w) (by omega)];have e1:IntKind.u64.wrap (z+w)=((i+j:Nat):Int):=by
  have:z+w=((i+j:Nat):Int):=by omega
  rw[this];simp only[IntKind.wrap,IntKind.bits];simp;omega
 rw[e1];have e:(2:Int)^(min (1:Int).toNat IntKind.u64.bits)=2:=by decide
 rw[e,jKN _ (by omega)];rw[IntWalk.i64_in _ (by omega)];omega
theorem aZ.yY{A:Ar}[h:bI A]{z w:Int}{i j:Nat}(b:aZ z i)(a:aZ w j):A .aN .lss z w=decide (i<j):=by have c:=b.eq;have d:=a.eq;simp only[h.aN,aN];rw[decide_eq_decide];omega
def rV(l:List Int)(i j:Nat):Nat:=
 if i<j then
  if l.getD ((i+j) / 2) 0<0 then rV l ((i+j) / 2+1) j else rV l i ((i+j) / 2)
 else i
 termination_by j-i
 decreasing_by all_goals omega
theorem DZ(l:List Int)(i j:Nat)(h:i<=j):rV l i j<=j/\i<=rV l i j:=by
 fun_induction rV l i j with
 |case1 i j b c a=>have:=a (by omega);omega
 |case2 i j b c a=>have:=a (by omega);omega
 |case3 i j b=>omega
theorem xJ(l:List Int)(p:Nat)(U:∀k,k<p->l.getD k 0<0)(i j:Nat)(J:∀k,p<=k->k<j->¬l.getD k 0<0)(e:i<=p)(f:p<=j):rV l i j=p:=by
 fun_induction rV l i j with
 |case1 i j c a b=>
  refine b J ?_ f;rcases wM ((i+j) / 2) p with h|h
  .omega
  exact absurd a (J _ h (by omega))
 |case2 i j c a b=>
  refine b (λk d g=>J k d (by omega)) e ?_;rcases wM ((i+j) / 2) p with h|h
  .exact absurd (U _ h) a
  omega
 |case3 i j c=>omega
theorem bh{h:ad}{b o n e:Nat}{c cs:List Value}{fr:Nat×Nat}{k:List Value->Prop}(g:h b=some (.cells (List.toArray c) e fr))(a:(c.drop o).take n=cs)(j:cs.length=n)(f:k cs):zF h ⟨b,o,none⟩ n k:=by refine⟨cs,⟨rfl,j,_,_,_,g,λi d=>?_⟩,f⟩;rw[<-a,qH,if_pos d,rB];simp
theorem cr{h:ad}{b o n e:Nat}{c cs:List Value}{fr:Nat×Nat}{k:List Value->Prop}(g:h b=some (.cells (List.toArray c) e fr))(d:k cs)(a:(c.drop o).take n=cs:=by exact rfl)(f:cs.length=n:=by exact rfl):zF h ⟨b,o,none⟩ n k:=bh g a f d
theorem ju{h:ad}{b o e:Nat}{c cs:List Value}{k:ad->Prop}(g:h b=zcL e c)(n:o+cs.length<=c.length)(a:∀h',h'=bL h b (.cells (ia c o cs).toArray e (0,0))->k h'):GG h ⟨b,o,none⟩ cs k:=
 ⟨_,_,_,rfl,g,by simpa using n,by simp,λh' e=>a h' (by simpa using e)⟩
open Go.MapKept
variable {P:Program}
structure Mp(h:ad)(m:Nat)(d:TypeDesc)(l:List (Value×Value)):Prop where
 out:∃es clock,h m=some (.map es clock)/\es.toList.map (λe=>(e.key,e.val))=l/\Stamped es clock/\∀x∈es.toList,IsKey d x.key
theorem Mp.new{h:ad}{m:Nat}{d:TypeDesc}(g:h m=some (.map #[] 0)):Mp h m d []:=⟨#[],0,g,rfl,stamped_empty 0,by simp⟩
theorem Mp.kp{h h':ad}{m:Nat}{d:TypeDesc}{l:List (Value×Value)}{bs:List Nat}(q:Mp h m d l)(k:Kp bs h h')(i:m∉bs):Mp h' m d l:=by obtain⟨e,c,g,a,b,f⟩:=q.out;exact⟨e,c,k _ _ g i,a,b,f⟩
theorem cO.Ff{tys:List Nat}{h:ad}{n:Nat}{e:Array MapEntry}{c:Nat}{o:Obj}(f:h n=some (.map e c)):cO tys h (bL h n o):=λb d g K m a=>by
 unfold bL;split
 .rename_i q;rw[q,f]at a;cases a
 exact a
theorem bT.Ff{h:ad}{w:World}(d:DC h w){n:Nat}{e:Array MapEntry}{c:Nat}{o:Obj}(b:h n=some (.map e c)):bT h w (bL h n o) { w with heap:=w.heap.setIfInBounds n o }:=by have a:=heap_set (o':=o) (d _ _ b);exact bT.set d b a.1 a.2 (by simp) ⟨rfl,rfl,rfl⟩
theorem IW{mt t r:TypeId}{d:TypeDesc}(y:P.underlying mt=some (.map t r))(hd:P.underlying t=some d){h:ad}{m:Nat}{l:List (Value×Value)}(q:Mp h m d l){key v:Value}(a:IsKey d key)(D:∀p∈l,p.1≠key)
 {k:Value->ad->Prop} (K:∀h',Mp h' m d (l++[(key,v)])->Kp [m] h h'->(∀tys,cO tys h h')->k undef h'):
 fw (λ_=>P) (λ_=>do Instr.mapUpdate mt (.map (some m)) key v;pure undef) h k:=
 ⟨λw o=>by
  obtain⟨s,c,g,f,u,i⟩:=q.out;have n:=o _ _ g;have b:∀x∈s.toList,x.key≠key:=λx hx=>by
   have:(x.key,x.val)∈l:=by rw[<-f];exact xz.2 ⟨x,hx,rfl⟩
   exact D _ this
  rcases findNow_spec a s.toList 0 i with⟨f1,_⟩|⟨j,e,f1,f2,f3⟩
  .refine⟨undef,_,_,?_,K _ ⟨s.push { key:=key,val:=v,born:=c },c+1,ae,?_,stamped_push u b,?_⟩ (Kp.set (by simp)) (λtys=>cO.Ff g),bT.Ff o g⟩
   .simp[Instr.mapUpdate,run_underlying y,Go.MapKept.run_getObj_map n,run_checkKey hd a,run_findKey hd f1,Go.MapKept.run_setObj_map _ n,Result.andThen]
   .simp[f]
   intro x hx;simp only[Array.toList_push,wy,SW]at hx;rcases hx with hx|rfl
   .exact i x hx
   exact a
  exact absurd f3 (b e (cK f2))⟩
theorem vD{mt f t:TypeId}{d:TypeDesc}(r:P.underlying mt=some (.map f t))(hd:P.underlying f=some d){z:Value}(u:∀w,(zeroValue t).run P w=.ok z w){h:ad}{m:Nat}{l:List (Value×Value)}(q:Mp h m d l){key:Value}(a:IsKey d key)(D:∀p∈l,p.1≠key)
 {k:Value->ad->Prop} (K:k z h):fw (λ_=>P) (λ_=>Instr.lookup mt (.map (some m)) key false) h k:=
 ⟨λw b=>by
  obtain⟨s,c,g,i,v,n⟩:=q.out;have o:=b _ _ g;have S:∀x∈s.toList,x.key≠key:=λx hx=>by
   have:(x.key,x.val)∈l:=by rw[<-i];exact xz.2 ⟨x,hx,rfl⟩
   exact D _ this
  rcases findNow_spec a s.toList 0 n with⟨f1,_⟩|⟨j,e,f1,f2,f3⟩
  .refine⟨z,w,h,?_,K,bT.refl b⟩;simp[Instr.lookup,run_underlying r,Go.MapKept.run_getObj_map o,run_checkKey hd a,run_findKey hd f1,u,Result.andThen]
  exact absurd f3 (S e (cK f2))⟩
theorem Ak{mt t r:TypeId}{d:TypeDesc}(D:P.underlying mt=some (.map t r))(hd:P.underlying t=some d){h:ad}{m:Nat}{l:List (Value×Value)}(q:Mp h m d l){key v:Value}(n:IsKey d key)(f:(key,v)∈l)
 {k:Value->ad->Prop} (K:k v h):fw (λ_=>P) (λ_=>Instr.lookup mt (.map (some m)) key false) h k:=
 ⟨λw o=>by
  obtain⟨s,c,g,u,y,z⟩:=q.out;have A:=o _ _ g;rw[<-u]at f;obtain⟨x,hx,B⟩:=xz.1 f;cases B;rcases findNow_spec n s.toList 0 z with⟨f1,f2⟩|⟨j,e,f1,f2,f3⟩
  .exact absurd rfl (f2 x hx)
  have Q:e=x:=by
   have p:=((stamped_iff s c).1 y).2.2;obtain⟨i,b⟩:=rK hx;rcases kQm i j with U|rfl|U
   .exfalso;have a:=(ff.1 f2);have C:=(ff.1 b);have:=wL.1 p i j C.1 a.1 U;rw[C.2,a.2]at this;exact this f3.symm
   .rw[f2]at b;exact Option.some.inj b
   exfalso;have a:=(ff.1 f2);have C:=(ff.1 b);have:=wL.1 p j i a.1 C.1 U;rw[C.2,a.2]at this;exact this f3
  subst Q;refine⟨_,w,h,?_,K,bT.refl o⟩;simp[Instr.lookup,run_underlying D,Go.MapKept.run_getObj_map A,run_checkKey hd n,run_findKey hd f1,Result.andThen]⟩
theorem Ur{a b:ByteArray}(h:a.toList=b.toList):a=b:=by rw[Go.ByteArray.toList_eq,Go.ByteArray.toList_eq]at h;cases a;cases b;simp only at h;congr;exact Array.toList_inj.1 h
theorem eK(A:Ar)[c:bI A](a b:ByteArray):A .kM .eql a b=decide (a=b):=by
 rw[c.kM];simp only[kM];by_cases h:a=b
 .simp[h]
 rw[bn h];simp only[beq_eq_false_iff_ne,ne_eq];exact λe=>h (Ur e)
theorem au(A:Ar)[c:bI A](a b:Int):A .aN .eql a b=decide (a=b):=by
 rw[c.aN];simp only[aN];by_cases h:a=b
 .simp[h]
 simp[h]
theorem az(A:Ar)[c:bI A](a b:Int):A .aN .neq a b=decide (a≠b):=by
 rw[c.aN];simp only[aN];by_cases h:a=b
 .simp[h]
 simp[h]
theorem aR(A:Ar)[h:bI A](a b:Int):A .aN .lss a b=decide (a<b):=by rw[h.aN];rfl
theorem cH(A:Ar)[h:bI A](a b:Int):A .aN .geq a b=decide (a>=b):=by rw[h.aN];rfl
theorem bC(A:Ar)[h:bI A](a b:Int):A .aN .gtr a b=decide (a>b):=by rw[h.aN];rfl
theorem QA(A:Ar)[h:bI A](a b:Int):A .aN .leq a b=decide (a<=b):=by rw[h.aN];rfl
structure ur{α:Type}(xs:List α)(p:α->Bool)(z:Int):Prop where
 out:(z=-1/\∀x∈xs,p x=false)\/∃i x,aZ z i/\xs[i]? =some x/\p x=true/\∀j,j<i->∀y,xs[j]? =some y->p y=false
theorem Ol(A:Ar)[h:bI A]{key:Int}{n:Nat}(e1:A .aN .lss key 0=false)(e:A .aN .geq key (A .nat n)=false):aZ key key.toNat/\key.toNat<n:=by rw[aR A]at e1;rw[cH A,h.nat]at e;have a:=kz e1;have g:=kz e;simp only[rz]at g;exact⟨⟨by omega⟩,by omega⟩
theorem Sl.cu{a:Type}{A:Ar}[bI A]{e:Nat}{s:Sh a}{h:ad}{b:Option Addr}{len cap:Nat}{xs:List a}(q:Sl e s h (.slice b len cap) xs){i:Nat}{x:a}(hx:xs[i]? =some x){n:Int}(v:n=(i:Int)){o m:Nat}(D:o+m<=s.n)
 {k:List Value->Prop} (u:∀cs,s.R h cs x->k ((cs.drop o).take m)):zF h (A .off (A .je b n s.n) o) m k:=by
 obtain⟨y,E,p,B,C,r⟩:=q.out;cases p;rcases r with rfl| ⟨lE,off,c,fr,rfl,l,g⟩
 .simp at hx
 subst v;have w:=oz l g hx;have hR:=g.2 i x hx;refine⟨_,?_,u _ hR⟩;rw[bI.je (A:=A),bI.off (A:=A)];simp only[je,jKv,HH,cI];obtain⟨-,hl,c',d,K,f,z⟩:=w;refine⟨rfl,by rw[eA,iz,hl];omega,c',d,K,f,λj t=>?_⟩;have:=z (o+j) (by omega);simp only at this |-;rw[qH,if_pos t,rB,<-this];congr 1;omega
theorem Rows.at{a:Type}{s:Sh a}{h:ad}{cs:List Value}{ys:List a}(r:Rows s h cs 0 ys){j:Nat}{y:a}(b:ys[j]? =some y):s.R h ((cs.drop (j*s.n)).take s.n) y:=by have:=r.2 j y b;simpa using this
theorem cZ.write{v:Type}{e:Nat}{s:Sh v}{h:ad}{n cap:Nat}{xs ys:List v}(o:cZ e s h n cap xs)(z:e∉s.tys){i:Nat}(r:i<=xs.length)(x:i+ys.length<=cap)(I:i+ys.length<=2^40)
 {cs:List Value} (hl:cs.length=ys.length*s.n) (D:Rows s h cs 0 ys) {k:ad->Prop}
 (B:∀h',Kp [n] h h'->(∀tys,e∉tys->cO tys h h')->cZ e s h' n cap (xs.take i++ys++xs.drop (i+ys.length))->k h'):GG h ⟨n,i*s.n,none⟩ cs k:=by
 obtain⟨c,p,w,g⟩:=o.out;have C:=o.le;have Q:=o.bd;have W:i*s.n+cs.length<=c.length:=by rw[g,hl,<-jKm];exact za _ x
 refine⟨c.toArray,e,(0,0),rfl,p,by simpa using W,by simp,λh' f=>?_⟩;have u:∀tys,e∉tys->cO tys h h':=λtys S=>by rw[f];exact cO.set p S
 have t:=u s.tys z;have l:(xs.take i++ys++xs.drop (i+ys.length)).length=max xs.length (i+ys.length):=by simp only[cy,eA,iz];omega
 refine B h' (by rw[f];exact Kp.set (by simp)) u ⟨⟨ia c (i*s.n) cs,by rw[f];simp[ae],⟨?_,λj y d=>?_⟩,by rw[eZ,g]⟩,by rw[l];omega,by rw[l];omega⟩
 .rw[eZ,g,l];simp only[tT];exact za _ (by omega)
 simp only[tT];have e1:∀a b:Nat,a<b->a*s.n+s.n<=b*s.n:=λa b Y=>by rw[<-jKi];exact za _ Y
 have X:∀y,xs[j]? =some y->(j<i\/i+ys.length<=j)->s.R h' (((ia c (i*s.n) cs).drop (j*s.n)).take s.n) y:=λy E hd=>by
  rw[tL W]
  .have:=w.2 j y E;simp only[tT]at this;exact s.mono t this
  rcases hd with hd|hd
  .exact .inl (e1 j i hd)
  right;rw[hl,<-jKm];exact za _ hd
 rw[jKO]at d;split at d
 .rename_i q;rw[jKO]at d;split at d
  .rename_i A;simp only[eA]at A;rw[qH,if_pos (by omega)]at d;exact X y d (.inl (by omega))
  rename_i A;simp only[eA,cy]at A q;rw[eA,jKf r]at d;have hR:=D.at d;have J:j-i<ys.length:=(ff.1 d).1;have:((ia c (i*s.n) cs).drop (j*s.n)).take s.n=(cs.drop ((j-i)*s.n)).take s.n:=by
   apply yr;intro m;rw[qH,qH];split
   .rename_i G;have F:=e1 (j-i) ys.length J;have H:j*s.n=i*s.n+(j-i)*s.n:=by rw[<-jKm];congr 1;omega
    rw[rB,rB,mH cs c _ _ W,if_pos (by omega)];congr 1;omega
   rfl
  rw[this];exact s.mono t hR
 rename_i q;simp only[cy,eA,jKf r]at q d;rw[rB]at d;have:i+ys.length+(j-(i+ys.length))=j:=by omega
 rw[this]at d;exact X y d (.inr (by omega))
theorem cZ.shrink{b:Type}{e:Nat}{s:Sh b}{h:ad}{n cap:Nat}{xs:List b}(o:cZ e s h n cap xs)(k:Nat):cZ e s h n cap (xs.take k):=by
 obtain⟨c,d,a,f⟩:=o.out;have l:=o.le;have j:=o.bd;refine⟨⟨c,d,⟨?_,λi x hx=>?_⟩,f⟩,by rw[eA];omega,by rw[eA];omega⟩
 .have:=a.1;refine jKl ?_ this;exact kXF (za _ (by rw[eA];omega)) _
 rw[qH]at hx;split at hx
 .exact a.2 i x hx
 cases hx
theorem cZ.aXK{g:Type}{e:Nat}{s:Sh g}{h:ad}{n cap:Nat}{xs:List g}(o:cZ e s h n cap xs)(l:e∉s.tys){p:Nat}{cs:List Value}(u:xs.length*s.n<=p)(r:p+cs.length<=cap*s.n){k:ad->Prop}
 (m:∀h',Kp [n] h h'->(∀tys,e∉tys->cO tys h h')->cZ e s h' n cap xs->k h'):GG h ⟨n,p,none⟩ cs k:=by
 obtain⟨c,b,d,i⟩:=o.out;refine⟨c.toArray,e,(0,0),rfl,b,by simp;omega,by simp,λh' a=>?_⟩;have t:∀tys,e∉tys->cO tys h h':=λtys S=>by rw[a];exact cO.set b S
 refine m h' (by rw[a];exact Kp.set (by simp)) t ⟨⟨ia c p cs,by rw[a];simp[ae],⟨by rw[eZ];exact d.1,λj y f=>?_⟩,by rw[eZ,i]⟩,o.le,o.bd⟩;have q:j<xs.length:=(ff.1 f).1;have:j*s.n+s.n<=xs.length*s.n:=by rw[<-jKi];exact za _ q
 simp only[tT];rw[tL (by omega) (.inl (by omega))];have:=d.2 j y f;simp only[tT]at this;exact s.mono (t s.tys l) this
theorem sQ{o:Type}{e:Nat}{s:Sh o}{h:ad}{b:Option Addr}{len cap n:Nat}{xs ys:List o}(q:Sl e s h (.slice b len cap) xs)(H:cap<len+n){size bytes:Nat}(C:size=s.n)(W:bytes<=128)(K:len+n<=2^39)
 {new:List Value} (x:jv new=true) (hl:new.length=n*s.n) (N:ys.length<=n) (A:∀h',Le h h'->Rows s h' new 0 ys)
 {k:Value->ad->Prop} (z:∀g c h',h g=none->Le h h'->len+n<=c->cZ e s h' g c (xs++ys)->k (.slice (zsA g) (len+n) c) h'):
 uv h b len cap n size bytes e new k:=by
 subst C;obtain⟨cs,p,d,D,t⟩:=q.kL;have l:=q.len;have Q:(2:Nat)^39=549755813888:=rfl;have T:(2:Nat)^40=1099511627776:=rfl;have U:(2:Nat)^48=281474976710656:=rfl;refine⟨x,λG=>by omega,λ_=>⟨?_,by omega,cs,p,λg c h' r e1 u v i=>?_⟩⟩
 .have:2*(len+n)*bytes<=2*(len+n)*128:=kXe _ W;omega
 have a:Le h h':=by rw[i];exact Le.set e1
 refine z g c h' e1 a u ⟨⟨cs++new++r,by rw[i,ae],?_,?_⟩,by rw[cy];omega,by rw[cy];omega⟩
 .have hx:=t h' (a.t _) [] (new++r);have B:=A h' a;refine⟨?_,λj y f=>?_⟩
  .simp only[cy,d,hl,l,tT];rw[<-jKm];have:(xs.length+ys.length)*s.n<=(xs.length+n)*s.n:=za _ (by omega);omega
  rw[jKO]at f;split at f
  .have:=hx.2 j y f;simpa using this
  rename_i L;have hR:=B.at f;have J:j-xs.length<ys.length:=(ff.1 f).1;simp only[tT];have w:((cs++new++r).drop (j*s.n)).take s.n=(new.drop ((j-xs.length)*s.n)).take s.n:=by
   apply yr;intro m;rw[qH,qH];split
   .rename_i I;have E:(j-xs.length)*s.n+s.n<=n*s.n:=by rw[<-jKi];exact za _ (by omega)
    have F:j*s.n=xs.length*s.n+(j-xs.length)*s.n:=by rw[<-jKm];congr 1;omega
    rw[rB,rB,ym,kQe (by rw[d,l];omega),kQa (by rw[d,hl,l];omega)];congr 1;rw[d,l];omega
   rfl
  rw[w];exact hR
 simp only[cy,d,hl,v];rw[<-jKm,<-jKm];congr 1;omega
theorem cJ{A:Ar}[h:bI A]{z:Int}{i n:Nat}(a:aZ z i):A .nt (A .nat n) z=n-i:=by have:=a.eq;simp only[h.nt,h.nat,rz];omega
theorem dy{A:Ar}[h:bI A]{z:Int}{i:Nat}(a:aZ z i):A .nt z 0=i:=by have:=a.eq;simp only[h.nt];omega
theorem JO{A:Ar}[h:bI A]{z w:Int}{i j:Nat}(b:aZ z i)(a:aZ w j):A .nt z w=i-j:=by have:=b.eq;have:=a.eq;simp only[h.nt];omega
theorem xF{A:Ar}[h:bI A]{z:Int}{i c s n:Nat}(a:aZ z i)(b:i<c):A .cut (zsA n) z (A .nat c) s=some ⟨n,i*s,none⟩:=by have:=a.eq;simp only[h.cut,h.nat,rz];rw[if_neg (by omega)];simp[cI,this]
theorem Rows.drop{b:Type}{s:Sh b}{h:ad}{c:List Value}{off:Nat}{xs:List b}(r:Rows s h c off xs){i:Nat}(d:i<=xs.length):Rows s h c (off+i*s.n) (xs.drop i):=by
 refine⟨?_,λj x a=>?_⟩
 .have:=r.1;rw[iz];have:i*s.n+(xs.length-i)*s.n=xs.length*s.n:=by rw[<-jKm];congr 1;omega
  omega
 rw[rB]at a;have:=r.2 _ x a;rw[jKm]at this;rw[kQc];exact this
theorem Rows.take{b:Type}{s:Sh b}{h:ad}{c:List Value}{off:Nat}{xs:List b}(r:Rows s h c off xs)(i:Nat):Rows s h c off (xs.take i):=by
 refine⟨?_,λj x a=>?_⟩
 .have:=r.1;refine jKl (kXF (za _ ?_) _) this;rw[eA];omega
 rw[qH]at a;split at a
 .exact r.2 _ x a
 cases a
theorem Sl.jD{d:Type}{A:Ar}[a:bI A]{e:Nat}{s:Sh d}{h:ad}{b:Option Addr}{n c:Nat}{xs:List d}(q:Sl e s h (.slice b n c) xs){z:Int}{i:Nat}(t:aZ z i)(p:i<=n){m:Nat}(r:m=n-i){c':Nat}(o:c'=c-i):
 Sl e s h (.slice (A .cut b z (A .nat c) s.n) m c') (xs.drop i):=by
 obtain⟨u,cap,k,v,w,l⟩:=q.out;cases k;subst r o;have f:=t.eq;refine⟨_,_,by rw[iz],by rw[iz];omega,by rw[iz];omega,?_⟩;rcases l with rfl| ⟨lE,off,cc,fr,rfl,g,j⟩
 .simp
 simp only[a.cut,a.nat,rz];by_cases G:(c:Int)=z
 .left;have:i=xs.length:=by omega
  rw[this];simp
 right;rw[if_neg G];exact⟨lE,off+i*s.n,cc,fr,by simp[cI,f],g,j.drop p⟩
theorem Sl.Ht{a:Type}{A:Ar}[k:bI A]{e:Nat}{s:Sh a}{h:ad}{b:Option Addr}{n c:Nat}{xs:List a}(q:Sl e s h (.slice b n c) xs){i:Nat}(p:i<=n):
 Sl e s h (.slice (A .cut b 0 (A .nat c) s.n) i c) (xs.take i):=by
 obtain⟨l,cap,f,m,o,j⟩:=q.out;cases f;have hl:(xs.take i).length=i:=by rw[eA];omega
 refine⟨_,_,by rw[hl],by rw[hl];omega,by rw[hl];omega,?_⟩;rcases j with rfl| ⟨lE,off,cc,fr,rfl,g,d⟩
 .simp
 right;refine⟨lE,off,cc,fr,?_,g,d.take i⟩;simp only[k.cut];split
 .rfl
 simp[cI]
theorem AZ{a:Type}{e:Nat}{s:Sh a}{h:ad}{b cap:Nat}{xs ys:List a}(o:cZ e s h b cap xs)(m:e∉s.tys){i:Nat}(p:i<=xs.length){x:Option Addr}{n j len:Nat}(q:Sl e s h (.slice x n j) ys)(z:n<=len)(y:i+n<=cap)(w:i+n<=2^40){size:Nat}(t:size=s.n)
 {k:Value->ad->Prop} (r:∀h',Kp [b] h h'->(∀tys,e∉tys->cO tys h h')->cZ e s h' b cap (xs.take i++ys++xs.drop (i+n))->k (.int .i64 ((min n len:Nat):Int)) h'):
 yK h (some ⟨b,i*s.n,none⟩) len x n size k:=by
 subst t;obtain⟨cs,c,d,f,g⟩:=q.kL;have l:=q.len;have G:min n len=n:=by omega
 refine⟨cs,by rw[G];exact c,f,.inr ⟨_,rfl,?_⟩⟩;refine o.write (ys:=ys) m p (by omega) (by omega) (by rw[d,l]) ?_ (λh' u v o'=>r h' u v (by rw[l];exact o'));have:=g h (cO.refl _ _) [] [];simpa using this
theorem jq{d:Type}{e:Nat}{s:Sh d}{h:ad}{b x:Option Addr}{len cap n l:Nat}{xs ys:List d}(q:Sl e s h (.slice b len cap) xs)(v:Sl e s h (.slice x n l) ys)(m:cap<len+n){size bytes:Nat}(r:size=s.n)(W:bytes<=128)(p:len+n<=2^39)
 {k:Value->ad->Prop} (o:∀a c h',h a=none->Le h h'->len+n<=c->cZ e s h' a c (xs++ys)->k (.slice (zsA a) (len+n) c) h'):
 iq h b len cap x n size bytes e k:=by
 subst r;obtain⟨cs,f,g,i,j⟩:=v.kL;refine⟨cs,f,sQ q m rfl W p i g (by rw[v.len];exact kB _) (λh' hl=>?_) o⟩;have:=j h' (hl.t _) [] [];simpa using this
theorem aZ.add{A:Ar}[h:bI A]{z w:Int}{i j:Nat}(b:aZ z i)(a:aZ w j)(e:i+j<2^62):aZ (A .aT .add .i64 z w) (i+j):=by constructor;have c:=b.eq;have d:=a.eq;rw[h.aT];simp only[aT];rw[IntWalk.i64_in _ (by omega)];omega
theorem aZ.sub{A:Ar}[h:bI A]{z w:Int}{i j:Nat}(b:aZ z i)(a:aZ w j)(e:i<2^62)(f:j<=i):aZ (A .aT .sub .i64 z w) (i-j):=by constructor;have c:=b.eq;have d:=a.eq;rw[h.aT];simp only[aT];rw[IntWalk.i64_in _ (by omega)];omega
theorem wK{w:Int}{m bytes:Nat}(c:aZ w m)(e:m<=2^39)(b:bytes<=128):0<=w/\w<=2^48/\w*(bytes:Int)<=2^48:=by
 have h:=c.eq;have U:(2:Int)^48=281474976710656:=rfl;have j:(2:Nat)^39=549755813888:=rfl;have d:m*bytes<=549755813888*128:=kQH (by omega) b;have a:w*(bytes:Int)=((m*bytes:Nat):Int):=by rw[h];simp
 rw[U,a];omega
theorem oJ{d:Type}{e:Nat}{s:Sh d}{h:ad}{b:Option Addr}{len cap n:Nat}{xs:List d}(q:Sl e s h (.slice b len cap) xs)(g:cap<len+n){size bytes:Nat}(j:size=s.n)(W:bytes<=128)(i:len+n<=2^39){z:List Value}(o:jv z=true)(L:z.length=s.n)
 {k:Value->ad->Prop} (f:∀a c h',h a=none->Le h h'->len+n<=c->cZ e s h' a c xs->k (.slice (zsA a) (len+n) c) h'):
 bZv h b len cap n size bytes e z k:=
 ⟨sQ q g j W i (yV o n) (by rw[fZ,L]) (ys:=[]) (by simp) (λh' _=>KY) (by simpa using f)⟩
structure bt{α:Type}(e:Nat)(s:Sh α)(h0 h:ad)(v:Value)(xs:List α):Prop where
 out:(∃b,v=.slice b 0 0/\xs=[])\/∃nb cap,v=.slice (zsA nb) xs.length cap/\h0 nb=none/\cZ e s h nb cap xs
theorem bt.nil{a:Type}{e:Nat}{s:Sh a}{h0 h:ad}{b:Option Addr}:bt e s h0 h (.slice b 0 0) ([]:List a):=⟨.inl ⟨b,rfl,rfl⟩⟩
theorem bt.sl{a:Type}{e:Nat}{s:Sh a}{h0 h:ad}{v:Value}{xs:List a}(q:bt e s h0 h v xs):Sl e s h v xs:=by
 rcases q.out with⟨b,rfl,rfl⟩|⟨n,cap,rfl,-,o⟩
 .exact Sl.nil
 exact o.sl rfl
theorem bt.mono{b:Type}{e:Nat}{s:Sh b}{h0 h h':ad}{v:Value}{xs:List b}(q:bt e s h0 h v xs)(hl:cO (e::s.tys) h h'):bt e s h0 h' v xs:=by
 rcases q.out with a| ⟨n,cap,a,c,o⟩
 .exact⟨.inl a⟩
 exact⟨.inr ⟨n,cap,a,c,o.mono hl⟩⟩
theorem bt.base{b:Type}{e:Nat}{s:Sh b}{h0 a h:ad}{v:Value}{xs:List b}(q:bt e s a h v xs)(hl:Le h0 a):bt e s h0 h v xs:=by
 rcases q.out with g| ⟨n,cap,c,d,o⟩
 .exact⟨.inl g⟩
 exact⟨.inr ⟨n,cap,c,hl.none d,o⟩⟩
theorem cZ.buf{a:Type}{e:Nat}{s:Sh a}{h0 h:ad}{b cap n:Nat}{xs:List a}(o:cZ e s h b cap xs)(j:h0 b=none)(c:n=xs.length):bt e s h0 h (.slice (zsA b) n cap) xs:=by subst c;exact⟨.inr ⟨b,cap,rfl,j,o⟩⟩
theorem bt.own{a:Type}{e:Nat}{s:Sh a}{h0 h:ad}{b:Option Addr}{l c:Nat}{xs:List a}(q:bt e s h0 h (.slice b l c) xs)(hl:0<l):∃n,b=zsA n/\h0 n=none/\l=xs.length/\cZ e s h n c xs:=by
 rcases q.out with⟨b,g,rfl⟩|⟨n,cap,g,d,o⟩
 .cases g;omega
 cases g;exact⟨n,rfl,d,rfl,o⟩
theorem bt.append{F:Type}{e:Nat}{s:Sh F}{h0 h:ad}{b x:Option Addr}{len cap n J:Nat}{xs ys:List F}(q:bt e s h0 h (.slice b len cap) xs)(E:Sl e s h (.slice x n J) ys)(L:e∉s.tys){size bytes:Nat}(P:size=s.n)(W:bytes<=128)(M:len+n<=2^39)
 {k:Value->ad->Prop} (r:Le h0 h) (v:∀m d c' h',m=len+n->Le h0 h'->(∀tys,e∉tys->cO tys h h')->(∀j o,h j=some o->(∀c fr,o≠.cells c e fr)->h' j=some o)->bt e s h0 h' (.slice d m c') (xs++ys)->k (.slice d m c') h'):
 iq h b len cap x n size bytes e k:=by
 subst P;obtain⟨cs,I,f,w,y⟩:=E.kL;have l:=q.sl.len;have H:=E.len;have g:cap<len+n->uv h b len cap n s.n bytes e cs k:=λz=>by
  refine sQ q.sl z rfl W M w f (ys:=ys) (by rw[H];exact kB _) (λh' hl=>?_) (λD c h' e1 p T o=>?_)
  .have:=y h' (hl.t _) [] [];simpa using this
  exact v _ _ _ h' rfl (r.trans p) (λtys _=>p.t tys) (λj o a _=>p j o a) (o.buf (r.none e1) (by rw[cy,l,H]))
 refine⟨cs,I,?_⟩;by_cases V:len+n<=cap
 .refine⟨w,λ_=>?_,λz=>by omega⟩;by_cases C:n=0
  .have G:cs=[]:=kh (by rw[f,C];simp);have N:ys=[]:=kh (by omega);refine .inl ⟨G,v _ _ _ h rfl r (λ_ _=>cO.refl _ _) (λ_ _ a _=>a) ?_⟩;rw[N,vv,C];exact q
  rcases q.out with⟨d,t,u⟩|⟨D,U,t,u,o⟩
  .cases t;omega
  cases t;refine .inr ⟨⟨D,xs.length*s.n,none⟩,by simp[cI],?_⟩;have O:Rows s h cs 0 ys:=by have:=y h (cO.refl _ _) [] [];simpa using this
  refine o.write (ys:=ys) L (i:=xs.length) (by omega) (by omega) (by omega) (by rw[f,H]) O (λh' B Q o'=>?_);rw[Bk,RR (by omega),vv]at o';refine v _ _ _ h' rfl (r.aV (by simpa using u) B) Q (λj R a S=>?_) (o'.buf u (by rw[cy,H]));refine B j R a ?_;intro A;simp at A;obtain⟨c,K,-⟩:=o.out;rw[A,K]at a;cases a;exact S _ _ rfl
 exact g (by omega)
theorem bf{b:Type}{e:Nat}{s:Sh b}{h:ad}{n:Nat}{cs:List Value}{x:b}(c:h n=zcL e cs)(r:s.R h cs x):Sl e s h (.slice (zsA n) 1 1) [x]:=by
 have l:=s.len r;refine Sl.fresh (xs:=[x]) c ⟨by simp[l],λj y a=>?_⟩ (by simp) (by simp);have F:j=0:=by have:=(ff.1 a).1;simp at this;exact this
 subst F;simp at a;subst a;simp;rw[ie (by omega)];exact r
theorem wH{A:Ar}[h:bI A]{m:Int}{s n:Nat}:A .cut (zsA n) 0 m s=zsA n:=by
 simp only[h.cut];split
 .rfl
 simp[cI]
theorem aZ.nat{A:Ar}[h:bI A](n:Nat):aZ (A .nat n) n:=⟨by rw[h.nat];rfl⟩
theorem aZ.yW{A:Ar}[a:bI A]{z:Int}{i:Nat}(h:aZ z i):A .aN .lss z 0=false:=by have:=h.eq;rw[aR A];exact bn (by omega)
theorem oN{f:Type}{e:Nat}{s:Sh f}{h:ad}{n:Nat}{c d:Value}{x y:f}(b:s.n=1)(g:h n=zcL e [c,d])(r:s.R h [c] x)(i:s.R h [d] y):Sl e s h (.slice (zsA n) 2 2) [x,y]:=by
 refine Sl.fresh (xs:=[x,y]) g ⟨by simp[b],λj z a=>?_⟩ (by simp) (by simp)
 match j,a with
 |0,a=>simp at a;subst a;simpa[b]using r
 |1,a=>simp at a;subst a;simpa[b]using i
 |j+2,a=>simp at a
theorem ke{g:Type}{e:Nat}{s:Sh g}{h:ad}{n:Nat}{c d f:Value}{x y w:g}(b:s.n=1)(i:h n=zcL e [c,d,f])(r:s.R h [c] x)(k:s.R h [d] y)(l:s.R h [f] w):Sl e s h (.slice (zsA n) 3 3) [x,y,w]:=by
 refine Sl.fresh (xs:=[x,y,w]) i ⟨by simp[b],λj z a=>?_⟩ (by simp) (by simp)
 match j,a with
 |0,a=>simp at a;subst a;simpa[b]using r
 |1,a=>simp at a;subst a;simpa[b]using k
 |2,a=>simp at a;subst a;simpa[b]using l
 |j+3,a=>simp at a
theorem gX{a:Type}{L:List (List a)}{i:Nat}{x:List a}(h:L[i]? =some x):(L.take (i+1)).flatten=(L.take i).flatten++x:=by rw[qM,h];simp
theorem xC{a:Type}(L:List (List a))(i:Nat):(L.take i).flatten.length<=L.flatten.length:=by have:=congrArg List.length (congrArg List.flatten (jKu i L));rw[List.flatten_append,cy]at this;omega
def dC(l:List Int):Nat:=rV l 0 l.length
def iQ(l:List Int):Bool:=decide (dC l<l.length/\l.getD (dC l) 0=0)
theorem cZa(l:List Int):dC l<=l.length:=(DZ l 0 l.length (nr _)).1
theorem jk{l:List Int}(h:iQ l=true):dC l<l.length:=(lA h).1
theorem Sl.sA{a:Type}{A:Ar}[k:bI A]{e:Nat}{s:Sh a}{h:ad}{b:Option Addr}{n c:Nat}{xs:List a}(q:Sl e s h (.slice b n c) xs){z:Int}{i:Nat}(u:i<=n){m c':Nat}(o:m=i)(l:c'=i):
 Sl e s h (.slice (A .cut b 0 z s.n) m c') (xs.take i):=by
 obtain⟨p,cap,f,r,t,j⟩:=q.out;cases f;subst o l;have hl:(xs.take c').length=c':=by rw[eA];omega
 refine⟨_,_,by rw[hl],by rw[hl];exact kB _,by rw[hl];omega,?_⟩;rcases j with rfl| ⟨lE,off,cc,fr,rfl,g,d⟩
 .simp
 right;refine⟨lE,off,cc,fr,?_,g,d.take _⟩;simp only[k.cut];split
 .rfl
 simp[cI]
theorem NQ.le{h h':ad}{a:Addr}{n:Nat}{cs:List Value}(q:NQ h a n cs)(l:Le h h'):NQ h' a n cs:=by obtain⟨b,d,c,e,fr,f,g⟩:=q;exact⟨b,d,c,e,fr,l _ _ f,g⟩
theorem Sl.bQT{d:Type}{A:Ar}[bI A]{e:Nat}{s:Sh d}{h:ad}{b:Option Addr}{len cap:Nat}{xs:List d}(q:Sl e s h (.slice b len cap) xs){i:Nat}{x:d}(hx:xs[i]? =some x){n:Int}(p:n=(i:Int))
 {k:List Value->Prop} (o:∀cs,s.R h cs x->(∀h' a,Le h h'->a cs->zF h' (A.je b n s.n) s.n a)->k cs):zF h (A.je b n s.n) s.n k:=by
 obtain⟨t,w,j,u,v,m⟩:=q.out;cases j;rcases m with rfl| ⟨lE,off,c,fr,rfl,f,g⟩
 .simp at hx
 subst p;have r:NQ h (A.je (some ⟨lE,off,none⟩) (i:Int) s.n) s.n ((c.toList.drop (off+i*s.n)).take s.n):=by rw[A.wG];simp only[je,jKv,HH,cI];exact oz f g hx
 exact⟨_,r,o _ (g.2 i x hx) (λh' a l H=>⟨_,r.le l,H⟩)⟩
theorem Sz{a:Type}{xs:List a}{i:Nat}(x:a)(h:i<xs.length):xs.take i++[x]++xs.drop (i+1)=xs.set i x:=by rw[kZe,if_pos h];simp
theorem cZ.setAt{c:Type}{A:Ar}[bI A]{e:Nat}{s:Sh c}{h:ad}{b cap:Nat}{xs:List c}(o:cZ e s h b cap xs)(d:e∉s.tys){i:Nat}(f:i<xs.length){n:Int}(p:n=(i:Int)){z:Nat}(q:z=s.n)
 {cs:List Value} {x:c} (hx:s.R h cs x) {k:ad->Prop}
 (g:∀h',Kp [b] h h'->(∀tys,e∉tys->cO tys h h')->cZ e s h' b cap (xs.set i x)->k h'):GG h (A.je (zsA b) n z) cs k:=by
 subst p q;have l:=s.len hx;have m:=o.le;have Q:=o.bd;rw[A.wG];simp only[je,jKv,HH,cI,tT];refine o.write (ys:=[x]) d (i:=i) (by omega) (by simp;omega) (by simp;omega) (by simp[l]) ⟨by simp[l],λj y a=>?_⟩ (λh' r t o'=>g h' r t ?_)
 .have F:j=0:=by have:=(ff.1 a).1;simp at this;exact this
  subst F;simp at a;subst a;simp;rw[ie (by omega)];exact hx
 rw[<-Sz x f];exact o'
theorem cZ.kp{a:Type}{e:Nat}{s:Sh a}{h h':ad}{n cap:Nat}{xs:List a}(o:cZ e s h n cap xs){bs:List Nat}(k:Kp bs h h')(g:n∉bs)(t:cO s.tys h h'):cZ e s h' n cap xs:=by obtain⟨c,b,d,f⟩:=o.out;exact⟨⟨c,k _ _ b g,d.mono t,f⟩,o.le,o.bd⟩
theorem cZ.has{a:Type}{e:Nat}{s:Sh a}{h:ad}{n cap:Nat}{xs:List a}(o:cZ e s h n cap xs):h n≠none:=by obtain⟨c,b,-⟩:=o.out;rw[b];simp
theorem bt.kp{c:Type}{e:Nat}{s:Sh c}{h0 h h':ad}{v:Value}{xs:List c}(q:bt e s h0 h v xs){bs:List Nat}(k:Kp bs h h')(f:∀n∈bs,h0 n≠none)(t:cO s.tys h h'):bt e s h0 h' v xs:=by
 rcases q.out with g| ⟨b,cap,d,a,o⟩
 .exact⟨.inl g⟩
 exact⟨.inr ⟨b,cap,d,a,o.kp k (λm=>f b m a) t⟩⟩
theorem DJ{b:Type}{e:Nat}{s:Sh b}{h:ad}{n:Nat}{cs:List Value}{x:b}(c:h n=zcL e cs)(r:s.R h cs x):cZ e s h n 1 [x]:=by
 have l:=s.len r;refine⟨⟨cs,c,⟨by simp[l],λj y a=>?_⟩,by simp[l]⟩,by simp,by simp⟩;have F:j=0:=by have:=(ff.1 a).1;simp at this;exact this
 subst F;simp at a;subst a;simp;rw[ie (by omega)];exact r
theorem Qf{c cs new:List Value}{p off n:Nat}(d:p+n<=c.length)(a:cs=(c.drop p).take n)(hl:off+new.length<=n):ia c (p+off) new=ia c p (ia cs off new):=by
 have q:cs.length=n:=by rw[a,eA,iz];omega
 have oC:(ia cs off new).length=n:=by rw[eZ,q]
 apply yr;intro j;rw[mH new c _ _ (by omega),mH (ia cs off new) c _ _ (by rw[oC];exact d),oC];by_cases h:p<=j/\j<p+n
 .rw[if_pos h,mH new cs _ _ (by rw[q];exact hl)];by_cases b:p+off<=j/\j<p+off+new.length
  .rw[if_pos b,if_pos (by omega)];congr 1;omega
  rw[if_neg b,if_neg (by omega),a,qH,if_pos (by omega),rB];congr 1;omega
 rw[if_neg h,if_neg (by omega)]
theorem cZ.KT{a:Type}{A:Ar}[E:bI A]{e:Nat}{s:Sh a}{h:ad}{b cap:Nat}{xs:List a}(o:cZ e s h b cap xs)(t:e∉s.tys){i:Nat}{x:a}(f:xs[i]? =some x){n:Int}(j:n=(i:Int)){z:Nat}(l:z=s.n)
 {off:Nat} {new:List Value} (hl:off+new.length<=s.n) {x':a} (hx:∀cs,s.R h cs x->s.R h (ia cs off new) x') {k:ad->Prop}
 (u:∀h',Kp [b] h h'->(∀tys,e∉tys->cO tys h h')->cZ e s h' b cap (xs.set i x')->k h'):GG h (A .off (A .je (zsA b) n z) off) new k:=by
 have w:=(ff.1 f).1;obtain⟨c,d,q,r⟩:=o.out;have hR:=q.2 i x f;rw[tT]at hR;have v:=o.le;have W:i*s.n+s.n<=c.length:=by rw[r,<-jKi];exact za _ (by omega)
 have key:=(o.setAt (A:=A) t w j l (hx _ hR) (k:=k) u).out;subst j l;rw[A.wG]at key;rw[bI.off (A:=A),bI.je (A:=A)];simp only[je,jKv,HH,cI,tT]at key |-;obtain⟨c',y,K,B,g,C,D,p⟩:=key;rw[d]at g;cases g;refine⟨c.toArray,e,(0,0),rfl,d,by simp;omega,by simp,λh' m=>p h' ?_⟩;rw[m];simp only;rw[Qf (c:=c) (n:=s.n) W rfl hl]
theorem Sl.tQ{d:Type}{A:Ar}[bI A]{e:Nat}{s:Sh d}{h:ad}{b:Option Addr}{len cap:Nat}{xs:List d}(q:Sl e s h (.slice b len cap) xs){i:Nat}{x:d}(hx:xs[i]? =some x){n:Int}(y:n=(i:Int)){o m:Nat}(F:o+m<=s.n)
 {k:List Value->Prop} (w:∀cs,s.R h cs x->(∀h' a,Le h h'->a ((cs.drop o).take m)->zF h' (A .off (A .je b n s.n) o) m a)->k ((cs.drop o).take m)):zF h (A .off (A .je b n s.n) o) m k:=by
 obtain⟨C,G,t,D,E,u⟩:=q.out;cases t;rcases u with rfl| ⟨lE,off,c,fr,rfl,r,g⟩
 .simp at hx
 subst y;have z:=oz r g hx;have hR:=g.2 i x hx;have X:NQ h (A .off (A .je (some ⟨lE,off,none⟩) (i:Int) s.n) o) m ((((c.toList.drop (off+i*s.n)).take s.n).drop o).take m):=by rw[bI.je (A:=A),bI.off (A:=A)];simp only[je,jKv,HH,cI];obtain⟨-,hl,c',f,K,p,B⟩:=z;refine⟨rfl,by rw[eA,iz,hl];omega,c',f,K,p,λj v=>?_⟩;have:=B (o+j) (by omega);simp only at this |-;rw[qH,if_pos v,rB,<-this];congr 1;omega
 exact⟨_,X,w _ hR (λh' a l H=>⟨_,X.le l,H⟩)⟩
open Go.ChangeMaps (setBlock)
variable {a:Type}{A:Ar}{n:Int}{left:List (Value×Value)}{xs:List a}{bytes cap e i m p r size:Nat}{b:Option Addr}{s:Sh a}{d:TypeDesc}{k:Value->ad->Prop}{h h' h0:ad}
variable {P:Program}
theorem Mp.XA{l:List (Value×Value)}(q:Mp h m d l):(l.map (·.1)).Nodup:=by obtain⟨e,c,g,a,b,f⟩:=q.out;rw[<-a,jKq];exact b.2.2
theorem aXH{mt G I:TypeId}(M:P.underlying mt=some (.map G I))(hd:P.underlying G=some d){l:List (Value×Value)}(q:Mp h m d l){key v y:Value}(t:IsKey d key)(K:l[i]? =some (key,y))
  (L:∀h',Mp h' m d (l.set i (key,v))->Kp [m] h h'->(∀tys,cO tys h h')->k undef h'):
 fw (λ_=>P) (λ_=>do Instr.mapUpdate mt (.map (some m)) key v;pure undef) h k:=
 ⟨λw F=>by
  obtain⟨s,c,g,z,A,B⟩:=q.out;have D:=F _ _ g;have p:s.toList[i]?.map (λe=>(e.key,e.val))=some (key,y):=by rw[<-kS,z];exact K
  obtain⟨x,hx,J⟩:∃x,s.toList[i]? =some x/\(x.key,x.val)=(key,y):=by
   cases hx:s.toList[i]? with
   |none=>rw[hx]at p;cases p
   |some x=>rw[hx]at p;exact⟨x,rfl,Option.some.inj p⟩
  have O:x.key=key:=(Prod.mk.inj J).1;rcases findNow_spec t s.toList 0 B with⟨f1,f2⟩|⟨j,e,f1,f2,f3⟩
  .exact absurd O (f2 x (cK hx))
  have E:=((stamped_iff s c).1 A).2.2;have N:j=i:=by
   have r:=ff.1 f2;have C:=ff.1 hx;rcases kQm i j with a|heq|a
   .exfalso;have:=wL.1 E i j C.1 r.1 a;rw[C.2,r.2]at this;exact this (O.trans f3.symm)
   .exact heq.symm
   exfalso;have:=wL.1 E j i r.1 C.1 a;rw[C.2,r.2]at this;exact this (f3.trans O.symm)
  subst N;rw[hx]at f2;cases f2;have Q:s[j]? =some x:=by rw[<-kQb];exact hx
  let f:MapEntry->MapEntry:=λe=>{ e with key:=key,val:=v };have b:∀e,s[j]? =some e->(f e).key=e.key:=λe o=>by
   rw[Q]at o;cases o;exact O.symm
  refine⟨undef,_,_,?_,L _ ⟨s.modify j f,c,ae,?_,stamped_modify A j f (λ_ _=>rfl) (λe _ o=>b e o),isKey_modify B j f b⟩ (Kp.set (by simp)) (λtys=>cO.Ff g),bT.Ff F g⟩
  .have H:(Instr.keyThatStays (((s[j]?).map (·.key)).getD key) key).run P w=.ok key w:=by rw[Q];simp only[Option.map_some,jKv,O];exact run_keyThatStays t
   simp[Instr.mapUpdate,run_underlying M,Go.MapKept.run_getObj_map D,run_checkKey hd t,run_findKey hd f1,H,Go.MapKept.run_setObj_map _ D,Result.andThen,f]
  rw[<-z];apply yr;intro n;rw[kS,kQb,kXf,VS,kS,kQb,vi];by_cases u:j=n
  .subst u;have a:j<s.toList.length:=(ff.1 hx).1;rw[if_pos rfl,if_pos rfl,if_pos a,Q];rfl
  rw[if_neg u,if_neg u]⟩
structure It(h:ad)(r m:Nat)(left:List (Value×Value))(last:Option (Value×Value)):Prop where
 out:∃es clock since seen c0,h m=some (.map es clock)/\h r=some (.mapIter (some m) since seen c0)/\(∀x∈es.toList,x.born<since)/\since<=c0/\since<=clock/\(es.toList.map (·.born)).Nodup/\
  left=(leftOf es seen).toList.map (λe=>(e.key,e.val))/\∀p,last=some p->∃e∈es.toList,(e.key,e.val)=p/\∃Wu:Array Nat,seen=Wu.push e.born/\c0=clock
theorem It.kp{l:Option (Value×Value)}(q:It h r m left l){bs:List Nat}(k:Kp bs h h')(j:r∉bs)(i:m∉bs):It h' r m left l:=by obtain⟨b,c,s,e,a,d,f,g⟩:=q.out;exact⟨b,c,s,e,a,k _ _ d i,k _ _ f j,g⟩
theorem SA{mt f t:TypeId}(u:P.underlying mt=some (.map f t)){l:List (Value×Value)}(q:Mp h m d l)
  (K:∀r h',h r=none->Le h h'->It h' r m l none->k (.zP r) h'):
 fw (λ_=>P) (λ_=>Instr.range mt (.map (some m))) h k:=
 ⟨λw a=>by
  obtain⟨s,c,g,i,b,x⟩:=q.out;have j:=a _ _ g;have n:h w.heap.size=none:=by
   cases he:h w.heap.size with
   |none=>rfl
   |some o=>have:=a _ _ he;simp at this
  refine⟨_,_,_,run_range_map w mt f t m s c u j,K w.heap.size (bL h w.heap.size (.mapIter (some m) c #[] c)) n (Le.set n) ?_,?_⟩
  .have S:m≠w.heap.size:=λe=>by rw[<-e,g]at n;cases n
   refine⟨s,c,c,#[],c,by rw[ck S];exact g,ae,b.1,kB _,kB _,b.2.1,?_,λp v=>(by cases v)⟩;rw[<-i];simp[leftOf];rw[List.filter_eq_self.2 (λ_ _=>rfl)]
  exact bT.new a _⟩
theorem vS{a:Array MapEntry}{s:Array Nat}{e:MapEntry}:(leftOf a (s.push e.born)).toList=(leftOf a s).toList.filter (λx=>x.born !=e.born):=by
 simp only[leftOf,kQZ,kQG];refine List.filter_congr (λx _=>?_);simp only[kZd,Array.mem_push,kZc];by_cases hx:x.born=e.born
 .simp[hx]
 by_cases h:x.born∈s<;>simp[hx,h]
theorem Ws{ty:TypeId}{t:Option (Value×Value)}(q:It h r m left t)
  (h0:left=[]->k (.tuple #[.bool false]) h)
 (L:∀key val C h',(key,val)∈left->(∀p∈left,p=(key,val)\/p∈C)->(∀p∈C,p∈left)->C.length<left.length->It h' r m C (some (key,val))->Kp [r] h h'->(∀tys,cO tys h h')->k (.tuple #[.bool true,key,val]) h'):
 fw (λ_=>P) (λ_=>Instr.next (.zP r) false ty) h k:=
 ⟨λw o=>by
  obtain⟨g,l,i,s,A,v,j,B,I,K,D,n,R⟩:=q.out;rcases run_next_at (P:=P) w ty r m i A s g l (o _ _ j) (o _ _ v) B I with⟨f1,f2⟩|⟨e,f1,u,f2,f3⟩
  .refine⟨_,_,_,f2,h0 ?_,bT.refl o⟩;rw[n];have:(leftOf g s).toList=[]:=by apply kh;simpa using f1
   rw[this];rfl
  have S:e∈g.toList:=by have:e∈(leftOf g s).toList:=f1;simp only[leftOf,kQZ,jKn]at this;exact this.1
  have H:m≠r:=λe=>by rw[e,j]at v;cases v
  refine⟨_,_,bL h r (.mapIter (some m) i (s.push e.born) l),f3,L e.key e.val ((leftOf g (s.push e.born)).toList.map (λe=>(e.key,e.val))) _ ?_ ?_ ?_ ?_ ?_ (Kp.set (by simp)) ?_,?_⟩
  .rw[n];exact xz.2 ⟨e,f1,rfl⟩
  .intro p f;rw[n]at f;obtain⟨x,hx,rfl⟩:=xz.1 f;by_cases d:x.born=e.born
   .left;have y:x∈g.toList:=by simp only[leftOf,kQZ,jKn]at hx;exact hx.1
    obtain⟨a,G⟩:=rK y;obtain⟨b,F⟩:=rK S;have:a=b:=by
     obtain⟨Q,J⟩:=ff.1 G;obtain⟨W,Z⟩:=ff.1 F;have f:=wL.1 D;rcases kQm a b with U|heq|U
     .exfalso;have:=f a b (by simpa using Q) (by simpa using W) U;rw[jKY,jKY,J,Z]at this;exact this d
     .exact heq
     exfalso;have:=f b a (by simpa using W) (by simpa using Q) U;rw[jKY,jKY,J,Z]at this;exact this d.symm
    subst this;rw[G]at F;cases F;rfl
   right;refine xz.2 ⟨x,?_,rfl⟩;rw[vS,jKn];exact⟨hx,by simpa using d⟩
  .intro p f;obtain⟨x,hx,rfl⟩:=xz.1 f;rw[vS,jKn]at hx;rw[n];exact xz.2 ⟨x,hx.1,rfl⟩
  .rw[n,vi,vi,vS];refine Nat.lt_of_le_of_ne (jKe _ _) (λM=>?_);have:=kXE.1 M e f1;simp at this
  .exact⟨g,l,i,s.push e.born,l,by rw[ck H];exact v,ae,B,K,K,D,rfl,λp f=>by cases f;exact⟨e,S,rfl,s,rfl,rfl⟩⟩
  .intro tys b c O fr _ d;rw[ck (λe=>by rw[e,j]at d;cases d)];exact d
  have N:u.heap=w.heap/\u.os=w.os/\u.tape=w.tape/\u.output=w.output:=by
   rcases f2 with rfl|rfl
   .exact⟨rfl,rfl,rfl,rfl⟩
   exact⟨rfl,rfl,rfl,rfl⟩
  have d:u.heap[r]? =some (.mapIter (some m) i s A):=by rw[N.1];exact o _ _ j
  have E:=heap_set (o':=Obj.mapIter (some m) i (s.push e.born) l) d;exact bT.set o j E.1 (λb z=>by rw[<-N.1];exact E.2 b z) (by simp[setBlock,N.1]) ⟨N.2.1,N.2.2.1,N.2.2.2⟩⟩
theorem SB{p:Value×Value}(q:It h r m left (some p))(K:k (.tuple #[p.1,p.2]) h):
 fw (λ_=>P) (λ_=>Instr.entry (.zP r)) h k:=
 ⟨λw a=>by
  obtain⟨f,c,s,n,d,j,l,u,v,b,o,x,t⟩:=q.out;obtain⟨e,g,i,W,rfl,rfl⟩:=t p rfl;refine⟨_,w,h,run_entry_at w r m s W f d e (a _ _ l) (a _ _ j) g o,?_,bT.refl a⟩;rw[<-i]at K;exact K⟩
structure ly{α:Type}(e:Nat)(s:Sh α)(h0 h:ad)(v:Value)(xs:List α)(p:Nat):Prop where
 out:(∃b,v=.slice b 0 0/\xs=[])\/∃nb cap pre,v=.slice (some ⟨nb,pre.length*s.n,none⟩) xs.length (cap-pre.length)/\h0 nb=none/\cZ e s h nb cap (pre++xs)/\(pre++xs).length<=p
theorem bt.t{v:Value}(q:bt e s h0 h v xs)(d:xs.length<=p):ly e s h0 h v xs p:=by
 rcases q.out with g| ⟨n,cap,b,c,o⟩
 .exact⟨.inl g⟩
 exact⟨.inr ⟨n,cap,[],by simpa using b,c,by simpa using o,by simpa using d⟩⟩
theorem ly.sl{v:Value}(q:ly e s h0 h v xs p):Sl e s h v xs:=by
 rcases q.out with⟨b,rfl,rfl⟩|⟨n,cap,pre,rfl,-,o,-⟩
 .exact Sl.nil
 have l:=o.le;have j:=o.bd;rw[cy]at l j;obtain⟨c,d,f,g⟩:=o.out;have:=f.drop (i:=pre.length) (by simp);rw[jKX,tT]at this;exact⟨_,_,rfl,by omega,by omega,.inr ⟨n,_,_,_,rfl,d,this⟩⟩
theorem ly.mono{b:Type}{s:Sh b}{v:Value}{xs:List b}(q:ly e s h0 h v xs p)(hl:cO (e::s.tys) h h'):ly e s h0 h' v xs p:=by
 rcases q.out with a| ⟨n,cap,pre,a,c,o,d⟩
 .exact⟨.inl a⟩
 exact⟨.inr ⟨n,cap,pre,a,c,o.mono hl,d⟩⟩
theorem ly.base{b:Type}{s:Sh b}{a:ad}{v:Value}{xs:List b}(q:ly e s a h v xs p)(hl:Le h0 a):ly e s h0 h v xs p:=by
 rcases q.out with g| ⟨n,cap,pre,c,d,o,f⟩
 .exact⟨.inl g⟩
 exact⟨.inr ⟨n,cap,pre,c,hl.none d,o,f⟩⟩
theorem ly.tail{d:Type}[g:bI A]{s:Sh d}{len:Nat}{x:d}{r:List d}(q:ly e s h0 h (.slice b len cap) (x::r) p){z:Int}(v:aZ z 1){c':Nat}(t:m=len-1)(k:c'=cap-1):
 ly e s h0 h (.slice (A .cut b z (A .nat cap) s.n) m c') r p:=by
 have j:=v.eq;rcases q.out with⟨b,f,a⟩|⟨n,c,pre,f,a,o,u⟩
 .cases a
 cases f;subst t k;have l:=o.le;rw[cy,wS]at l;simp only[g.cut,g.nat,rz];refine⟨?_⟩;by_cases G:((c-pre.length:Nat):Int)=z
 .left;rw[if_pos G];have i:r=[]:=kh (by omega);refine⟨some ⟨n,pre.length*s.n,none⟩,?_,i⟩;rw[i];simp only[wS,yk];rw[show c-pre.length-1=0 by omega]
 right;rw[if_neg G];refine⟨n,c,pre++[x],?_,a,by simpa using o,by simpa using u⟩;simp[cI,j,jKm];omega
theorem ly.append{G:Type}{s:Sh G}{x:Option Addr}{len n L:Nat}{xs ys:List G}(q:ly e s h0 h (.slice b len cap) xs p)(F:Sl e s h (.slice x n L) ys)(O:e∉s.tys)(T:size=s.n)(W:bytes<=128)(P:len+n<=2^39)(X:p+n<=2^40)(Z:len<=p)
  (r:Le h0 h) (w:∀m f c' h',m=len+n->Le h0 h'->(∀tys,e∉tys->cO tys h h')->ly e s h0 h' (.slice f m c') (xs++ys) (p+n)->(∀j o,h j=some o->(∀c fr,o≠.cells c e fr)->h' j=some o)->k (.slice f m c') h'):
 iq h b len cap x n size bytes e k:=by
 subst T;obtain⟨cs,J,g,A,B⟩:=F.kL;have l:=q.sl.len;have H:=F.len;refine⟨cs,J,?_⟩;by_cases wq:len+n<=cap
 .refine⟨A,λ_=>?_,λhg=>by omega⟩;by_cases E:n=0
  .have I:cs=[]:=kh (by rw[g,E];simp);have N:ys=[]:=kh (by omega);refine .inl ⟨I,w _ _ _ h rfl r (λ_ _=>cO.refl _ _) ?_ (λ_ _ a _=>a)⟩;rw[N,vv,E];exact q
  rcases q.out with⟨f,u,v⟩|⟨d,K,pre,u,v,o,Q⟩
  .cases u;omega
  cases u;have y:=o.le;have U:=Q;rw[cy]at y U;refine .inr ⟨⟨d,(pre++xs).length*s.n,none⟩,by simp[cI,jKm],?_⟩;have R:Rows s h cs 0 ys:=by have:=B h (cO.refl _ _) [] [];simpa using this
  refine o.write (ys:=ys) O (i:=(pre++xs).length) (kB _) (by rw[cy];omega) (by rw[cy];omega) (by rw[g,H]) R (λh' D V o'=>?_);rw[Bk,RR (by omega),vv,ym]at o';refine w _ _ _ h' rfl (r.aV (by simpa using v) D) V ⟨.inr ⟨d,K,pre,by rw[cy,H],v,o',by simp;omega⟩⟩ (λj z a S=>?_);refine D j z a ?_;intro C;simp at C;obtain⟨c,M,-⟩:=o.out;rw[C,M]at a;cases a;exact S _ _ rfl
 refine sQ q.sl (by omega) rfl W P A g (ys:=ys) (by rw[H];exact kB _) (λh' hl=>?_) (λd c h' e1 t Y o=>?_)
 .have:=B h' (hl.t _) [] [];simpa using this
 refine w _ _ _ h' rfl (r.trans t) (λtys _=>t.t tys) ⟨.inr ⟨d,c,[],by simp[l,H],r.none e1,by simpa using o,by simp;omega⟩⟩ (λj z a _=>t j z a)
structure Hb{α:Type}(s:Sh α)(h:ad)(v:Value)(xs:List α):Prop where
 out:∃b cap,v=.slice b xs.length cap/\xs.length<=2^50/\(xs=[]\/∃lE off c e fr,b=some ⟨lE,off,none⟩/\h lE=some (.cells c e fr)/\Rows s h c.toList off xs)
theorem Hb.mono{d:Type}{s:Sh d}{v:Value}{xs:List d}(hl:Le h h')(q:Hb s h v xs):Hb s h' v xs:=by
 obtain⟨b,cap,j,k,a⟩:=q.out;refine⟨b,cap,j,k,?_⟩;rcases a with a| ⟨lE,off,c,e,fr,g,f,i⟩
 .exact .inl a
 exact .inr ⟨lE,off,c,e,fr,g,hl _ _ f,i.mono (hl.t _)⟩
theorem Hb.load[bI A]{len:Nat}(q:Hb s h (.slice b len cap) xs){x:a}(hx:xs[i]? =some x)(m:n=(i:Int))
 {k:List Value->Prop} (l:∀cs,s.R h cs x->k cs):zF h (A.je b n s.n) s.n k:=by
 obtain⟨o,r,f,p,j⟩:=q.out;cases f;rcases j with rfl| ⟨lE,off,c,e,fr,rfl,d,g⟩
 .simp at hx
 subst m;refine⟨_,?_,l _ (g.2 i x hx)⟩;rw[A.wG];simp only[je,jKv,HH,cI];exact oz d g hx
theorem Hb.len{len:Nat}(q:Hb s h (.slice b len cap) xs):len=xs.length:=by obtain⟨d,i,c,-⟩:=q.out;cases c;rfl
theorem Hb.bound{len:Nat}(q:Hb s h (.slice b len cap) xs):len<=2^50:=by obtain⟨e,i,c,d,-⟩:=q.out;cases c;exact d
theorem Hb.bp{len:Nat}(q:Hb s h (.slice b len cap) xs)(hl:0<len:=by omega):b.isSome=true:=by
 obtain⟨g,j,d,i,f⟩:=q.out;cases d;rcases f with rfl| ⟨lE,off,c,e,fr,rfl,-⟩
 .simp at hl
 rfl
theorem Hb.form{v:Value}(q:Hb s h v xs):∃b l c,v=.slice b l c:=by obtain⟨b,cap,d,-⟩:=q.out;exact⟨b,_,cap,d⟩
theorem Sl.BY[bI A]{len:Nat}(q:Sl e s h (.slice b len cap) xs){x:a}(hx:xs[i]? =some x)(p:n=(i:Int)){o1 o2:Nat}(r:o1+o2+m<=s.n)
 {k:List Value->Prop} (l:∀cs,s.R h cs x->k ((cs.drop (o1+o2)).take m)):zF h (A .off (A .off (A .je b n s.n) o1) o2) m k:=by
 have:=(q.cu (A:=A) hx p (o:=o1+o2) (m:=m) r l).out;obtain⟨t,z,f,w,y,j⟩:=q.out;cases f;rcases j with rfl| ⟨lE,off,c,fr,rfl,u,v⟩
 .simp at hx
 obtain⟨cs,g,d⟩:=this;refine⟨cs,?_,d⟩;rw[bI.je (A:=A),bI.off (A:=A)]at g |-;simp only[je,jKv,cI]at g |-;simpa[kQc]using g
theorem cZ.Bf{f:Type}{s:Sh f}{b:Nat}{xs ys:List f}(o:cZ e s h b cap xs)(t:e∉s.tys)(u:i<=xs.length){x:Option Addr}{n:Nat}(q:Sl e s h (.slice x n p) ys)(B:i+n<=cap)(A:i+n<=2^40)
  (w:size=s.n) 
 (a:∀h' m,m=i+n->Kp [b] h h'->(∀tys,e∉tys->cO tys h h')->cZ e s h' b cap (xs.take i++ys++xs.drop (i+n))->k (.slice (zsA b) m cap) h'):
 iq h (zsA b) i cap x n size bytes e k:=by
 subst w;obtain⟨cs,g,c,j,l⟩:=q.kL;have H:=q.len;refine⟨cs,g,j,λ_=>?_,λC=>by omega⟩;by_cases d:n=0
 .have r:cs=[]:=kh (by rw[c,d];simp);have N:ys=[]:=kh (by omega);refine .inl ⟨r,a h _ rfl (Kp.refl _ _) (λ_ _=>cO.refl _ _) ?_⟩;rw[N,vv,d,kQt,jKu];exact o
 refine .inr ⟨⟨b,i*s.n,none⟩,by simp[cI],?_⟩;have v:Rows s h cs 0 ys:=by have:=l h (cO.refl _ _) [] [];simpa using this
 refine o.write (ys:=ys) t (i:=i) u (by omega) (by omega) (by rw[c,H]) v (λh' y z o'=>?_);rw[<-H]at o';exact a h' _ rfl y z o'
theorem cZ.Zt{b:Nat}(o:cZ e s h b cap xs)(f:e∉s.tys){n:Nat}{z:List Value}(c:jv z=true)(j:z.length=s.n)(i:xs.length<=p)(d:p+n<=cap){k:ad->Prop}
 (g:∀h',Kp [b] h h'->(∀tys,e∉tys->cO tys h h')->cZ e s h' b cap xs->k h'):zH h (some ⟨b,p*s.n,none⟩) n z k:=by
 refine⟨c,.inr ⟨_,rfl,?_⟩⟩;refine o.aXK f (za _ i) ?_ g;rw[fZ,j,<-jKm];exact za _ d
theorem erase_eq(h:i<xs.length):(xs.take i++xs.drop (i+1)++xs.drop (i+(xs.length-(i+1)))).take (xs.length-1)=xs.eraseIdx i:=by rw[kQl (by simp;omega),jKM,ie (by simp;omega)]
theorem aJY[h:bI A]{b s off:Nat}(a:n=(i:Int)):A .off (A .je (zsA b) n s) off=⟨b,i*s+off,none⟩:=by subst a;rw[h.je,h.off];simp only[je,jKv,HH,cI,tT]
theorem cZ.dQb{r β:Type}[I:bI A]{s1:Sh r}{s2:Sh β}(X:s1.n=s2.n)(f:r->β){d:ad}{g:Nat}{xs:List r}(o:cZ e s1 h g cap xs)(Q:d g=h g){x:r}(w:xs[i]? =some x)(G:n=(i:Int)){B:Nat}(H:B=s1.n)
 {off:Nat} {new:List Value} (hl:off+new.length<=s1.n) {x':β} (hx:∀a cs,Kp [g] d a->(∀tys,e∉tys->cO tys d a)->s1.R h cs x->s2.R a (ia cs off new) x')
 (T:∀a cs j y,Kp [g] d a->(∀tys,e∉tys->cO tys d a)->j≠i->xs[j]? =some y->s1.R h cs y->s2.R a cs (f y)) {k:ad->Prop}
 (F:∀a,Kp [g] d a->(∀tys,e∉tys->cO tys d a)->cZ e s2 a g cap ((xs.map f).set i x')->k a):GG d (A .off (A .je (zsA g) n B) off) new k:=by
 have J:=(ff.1 w).1;obtain⟨c,D,v,s⟩:=o.out;have hR:=v.2 i x w;rw[tT]at hR;have l:=o.le;have W:i*s1.n+s1.n<=c.length:=by rw[s,<-jKi];exact za _ (by omega)
 have u:=Q.trans D;rw[aJY (A:=A) G];subst H;refine⟨c.toArray,e,(0,0),rfl,u,by simp;omega,by simp,λa p=>?_⟩;simp only at p;have C:Kp [g] d a:=by rw[p];exact Kp.set (by simp)
 have U:∀tys,e∉tys->cO tys d a:=λtys E=>by rw[p];exact cO.set u E
 refine F a C U ⟨⟨ia c (i*s1.n+off) new,by rw[p];simp[ae],⟨?_,λj y b=>?_⟩,?_⟩,by simp;exact l,by simp;exact o.bd⟩
 .rw[eZ,s,<-X];simp only[tT,nM,vi];exact za _ l
 .simp only[tT];rw[<-X];have t:ia c (i*s1.n+off) new=ia c (i*s1.n) (ia ((c.drop (i*s1.n)).take s1.n) off new):=Qf W rfl hl;have q:((c.drop (i*s1.n)).take s1.n).length=s1.n:=by rw[eA,iz];omega
  rw[VS]at b;split at b
  .rename_i e1;subst e1;split at b
   .cases b;rw[t,EK (by rw[eZ,q];exact W) (by rw[eZ,q])];exact hx a _ C U hR
   cases b
  rename_i e1;rw[kS]at b;cases m:xs[j]? with
  |none=>rw[m]at b;cases b
  |some z=>
   rw[m]at b;simp at b;subst b;have L:=(ff.1 m).1;rw[t,tL (by rw[eZ,q];exact W)]
   .have:=v.2 j z m;rw[tT]at this;exact T a _ j z C U (λe=>e1 e.symm) m this
   rw[eZ,q];rcases wM j i with U|K
   .left;rw[<-jKi];exact za _ U
   right;rw[<-jKi];exact za _ (by omega)
 rw[eZ,s,X]
def jL(h:ad)(n:Nat):ad:=λb=>if b=n then none else h b
theorem tZ(h:ad)(n:Nat):Le (jL h n) h:=λb o a=>by
 unfold jL at a;split at a
 .cases a
 exact a
theorem nV(h:ad)(n:Nat):jL h n n=none:=by unfold jL;rw[if_pos rfl]
theorem pA{n b:Nat}(a:b≠n):jL h n b=h b:=by unfold jL;rw[if_neg a]
theorem bt.JV{E:Type}{s:Sh E}{x:Option Addr}{len n F:Nat}{xs ys:List E}(q:bt e s h0 h (.slice b len cap) xs)(D:Sl e s h (.slice x n F) ys)(z:e∉s.tys)(C:size=s.n)(W:bytes<=128)(B:len+n<=2^39)
  (r:Le h0 h) (A:∀m f c' h',m=len+n->Le h0 h'->(∀j o,h j=some o->b≠zsA j->h' j=some o)->bt e s h0 h' (.slice f m c') (xs++ys)->(∀j,f=zsA j->b=zsA j\/h j=none\/m=0)->k (.slice f m c') h'):
 iq h b len cap x n size bytes e k:=by
 rcases q.out with⟨K,w,p⟩|⟨d,L,w,p,o⟩
 .cases w;have y:bt e s h h (.slice b 0 0) xs:=⟨.inl ⟨b,rfl,p⟩⟩;refine y.append D z C W B (Le.refl _) (λm f c' h' v l t H i=>?_);refine A m f c' h' v (r.trans l) (λj o a _=>l j o a) (i.base r) (λj a=>?_);rcases i.out with⟨u,g,c⟩|⟨G,J,g,c,o2⟩
  .right;right;cases g;rfl
  cases g;cases a;right;left;exact c
 cases w;have y:bt e s (jL h d) h (.slice (zsA d) xs.length cap) xs:=⟨.inr ⟨d,cap,rfl,nV h d,o⟩⟩;refine y.append D z C W B (tZ h d) (λm f c' h' v l t H i=>?_);have N:∀j o,h j=some o->j≠d->h' j=some o:=λj o a S=>l j o (by rw[pA S];exact a);have I:Le h0 h':=λj o a=>by
  have S:j≠d:=λe=>by rw[e,p]at a;cases a
  exact N j o (r j o a) S
 refine A m f c' h' v I (λj o a S=>N j o a (λe=>S (by rw[e]))) ?_ (λj a=>?_)
 .rcases i.out with⟨u,g,c⟩|⟨G,J,g,c,o2⟩
  .exact⟨.inl ⟨u,g,c⟩⟩
  refine⟨.inr ⟨G,J,g,?_,o2⟩⟩;by_cases S:G=d
  .rw[S];exact p
  rw[pA S]at c;exact r.none c
 rcases i.out with⟨u,g,c⟩|⟨G,J,g,c,o2⟩
 .right;right;cases g;rfl
 cases g;cases a;by_cases S:j=d
 .left;rw[S]
 right;left;rw[pA S]at c;exact c
theorem ly.JV{O:Type}{s:Sh O}{x:Option Addr}{len n P:Nat}{xs ys:List O}(q:ly e s h0 h (.slice b len cap) xs p)(L:Sl e s h (.slice x n P) ys)(F:e∉s.tys)(K:size=s.n)(W:bytes<=128)(I:len+n<=2^39)(D:p+n<=2^40)(Z:len<=p)
  (w:Le h0 h) (H:∀m i c' h',m=len+n->Le h0 h'->(∀j o,h j=some o->(∀a,b=some a->a.block≠j)->h' j=some o)->ly e s h0 h' (.slice i m c') (xs++ys) (p+n)->(∀r,i=some r->(∃a,b=some a/\a.block=r.block)\/h r.block=none\/m=0)->k (.slice i m c') h'):
 iq h b len cap x n size bytes e k:=by
 rcases q.out with⟨V,A,v⟩|⟨f,E,pre,A,v,o,Q⟩
 .cases A;have C:ly e s h h (.slice b 0 0) xs p:=⟨.inl ⟨b,rfl,v⟩⟩;refine C.append L F K W I D Z (Le.refl _) (λm i c' h' z l t u R=>?_);refine H m i c' h' z (w.trans l) (λj o d _=>l j o d) (u.base w) (λr B=>?_);rcases u.out with⟨y,g,c⟩|⟨G,T,J,g,c,o2,-⟩
  .right;right;cases g;rfl
  cases g;cases B;right;left;exact c
 cases A;have C:ly e s (jL h f) h (.slice (some ⟨f,pre.length*s.n,none⟩) xs.length (E-pre.length)) xs p:=⟨.inr ⟨f,E,pre,rfl,nV h f,o,Q⟩⟩;refine C.append L F K W I D Z (tZ h f) (λm i c' h' z l t u R=>?_);have N:∀j o,h j=some o->j≠f->h' j=some o:=λj o d S=>l j o (by rw[pA S];exact d);have U:Le h0 h':=λj o d=>by
  have S:j≠f:=λe=>by rw[e,v]at d;cases d
  exact N j o (w j o d) S
 refine H m i c' h' z U (λj o d S=>N j o d (λe=>S _ rfl e.symm)) ?_ (λr B=>?_)
 .rcases u.out with⟨y,g,c⟩|⟨G,T,J,g,c,o2,M⟩
  .exact⟨.inl ⟨y,g,c⟩⟩
  refine⟨.inr ⟨G,T,J,g,?_,o2,M⟩⟩;by_cases S:G=f
  .rw[S];exact v
  rw[pA S]at c;exact w.none c
 rcases u.out with⟨y,g,c⟩|⟨G,T,J,g,c,o2,M⟩
 .right;right;cases g;rfl
 cases g;cases B;by_cases S:G=f
 .left;exact⟨_,rfl,S.symm⟩
 right;left;rw[pA S]at c;exact c
variable {P:Program}
end Go.Sx
