import Derived.Test.YthnbpiejemlbeaaGreatSxB
import Derived.Laws.LoneSync
import Derived.Lib.Bytealg
import Derived.Maps.RangeRun
set_option linter.all false
namespace Go.Sx
def Le(h h':ab):Prop:=∀b o,h b=some o->h' b=some o
theorem Le.refl(h:ab):Le h h:=λ_ _ x=>x
theorem Le.trans{a b c:ab}(x:Le a b)(y:Le b c):Le a c:=λk o q=>y k o (x k o q)
theorem Le.set{h:ab}{n:Nat}{o:Obj}(c:h n=none):Le h (bu h n o):=λb q a=>by
 unfold bu;split
 .rename_i e;rw[e,c]at a;cases a
 exact a
theorem ae{h:ab}{n:Nat}{o:Obj}:bu h n o n=some o:=by unfold bu;rw[if_pos rfl]
theorem bN{h:ab}{n b:Nat}{o:Obj}(a:b≠n):bu h n o b=h b:=by unfold bu;rw[if_neg a]
theorem dD{h:ab}{n:Nat}{o o':Obj}:bu (bu h n o) n o'=bu h n o':=by funext b;unfold bu;split<;>rfl
def bV(tys:List Nat)(h h':ab):Prop:=∀b c e fr,e∈tys->h b=some (.cells c e fr)->h' b=some (.cells c e fr)
theorem Le.t{h h':ab}(x:Le h h')(tys:List Nat):bV tys h h':=λb c e fr _ q=>x b _ q
theorem bV.refl(tys:List Nat)(h:ab):bV tys h h:=λ_ _ _ _ _ x=>x
theorem bV.trans{tys:List Nat}{a b c:ab}(x:bV tys a b)(y:bV tys b c):bV tys a c:=λk d e fr m q=>y k d e fr m (x k d e fr m q)
theorem bV.set{tys:List Nat}{h:ab}{n e:Nat}{c:Array Value}{fr:Nat×Nat}{o:Obj}(g:h n=some (.cells c e fr))(f:e∉tys):bV tys h (bu h n o):=λb d i J m a=>by
 unfold bu;split
 .rename_i q;rw[q,g]at a;cases a;exact absurd m f
 exact a
theorem bV.sub{tys Q:List Nat}{h h':ab}(x:bV tys h h')(s:∀t∈Q,t∈tys:=by decide):bV Q h h':=λb c e fr m q=>x b c e fr (s e m) q
structure Sh(α:Type)where
 n:Nat
 R:ab->List Value->α->Prop
 len:∀ {h cs x},R h cs x->cs.length=n
 one:∀ {h cs x},R h cs x->iA cs=true
 tys:List Nat
 mono:∀ {h h' cs x},bV tys h h'->R h cs x->R h' cs x
def Rows{α:Type}(s:Sh α)(h:ab)(c:List Value)(off:Nat)(xs:List α):Prop:=
 off+xs.length*s.n<=c.length/\∀i x,xs[i]? =some x->s.R h ((c.drop (off+i*s.n)).take s.n) x
theorem Rows.mono{a:Type}{s:Sh a}{h h':ab}{c:List Value}{off:Nat}{xs:List a}(hl:bV s.tys h h')(r:Rows s h c off xs):Rows s h' c off xs:=
 ⟨r.1,λi x hx=>s.mono hl (r.2 i x hx)⟩
structure Sl{α:Type}(e:Nat)(s:Sh α)(h:ab)(v:Value)(xs:List α):Prop where
 out:∃b cap,v=.slice b xs.length cap/\xs.length<=cap/\xs.length<=2^40/\
  (xs=[]\/∃kE off c fr,b=some ⟨kE,off,none⟩/\h kE=some (.cells c e fr)/\Rows s h c.toList off xs)
theorem Sl.mono{d:Type}{e:Nat}{s:Sh d}{h h':ab}{v:Value}{xs:List d}(hl:bV (e::s.tys) h h')(q:Sl e s h v xs):Sl e s h' v xs:=by
 obtain⟨b,cap,j,k,l,a⟩:=q.out;refine⟨b,cap,j,k,l,?_⟩;rcases a with a| ⟨kE,off,c,fr,g,f,i⟩
 .exact .inl a
 exact .inr ⟨kE,off,c,fr,g,hl _ _ _ _ (by simp) f,i.mono (hl.sub λt m=>by simp[m])⟩
def sA{α:Type}(e:Nat)(s:Sh α):Sh (List α)where
 n:=1
 R h cs xs:=∃v,cs=[v]/\Sl e s h v xs
 len:=by rintro h cs x ⟨v,rfl,-⟩;rfl
 one:=by rintro h cs x ⟨v,rfl,q⟩;obtain⟨b,cap,rfl,-⟩:=q.out;rfl
 tys:=e::s.tys
 mono:=by rintro h h' cs x hl ⟨v,rfl,q⟩;exact⟨v,rfl,q.mono hl⟩
theorem mw{a:Type}{s:Sh a}{h:ab}{c:Array Value}{e:Nat}{fr:Nat×Nat}{k off:Nat}{xs:List a}(b:h k=some (.cells c e fr))(r:Rows s h c.toList off xs){i:Nat}{x:a}
 (hx:xs[i]? =some x):Ki h ⟨k,off+i*s.n,none⟩ s.n ((c.toList.drop (off+i*s.n)).take s.n):=by
 refine⟨rfl,s.len (r.2 i x hx),c,e,fr,b,λj d=>?_⟩;rw[List.getElem?_take,if_pos d,List.getElem?_drop];simp
theorem Sl.load{a:Type}{A:Ar}[bf A]{e:Nat}{s:Sh a}{h:ab}{b:Option Addr}{len cap:Nat}{xs:List a}(q:Sl e s h (.slice b len cap) xs){i:Nat}{x:a}(hx:xs[i]? =some x){n:Int}(m:n=(i:Int))
 {k:List Value->Prop} (l:∀cs,s.R h cs x->k cs):vK h (A.ia b n s.n) s.n k:=by
 obtain⟨o,O,f,p,r,j⟩:=q.out;cases f;rcases j with rfl| ⟨kE,off,c,fr,rfl,d,g⟩
 .simp at hx
 subst m;refine⟨_,?_,l _ (g.2 i x hx)⟩;rw[A.th];simp only[ia,Option.getD_some,Int.toNat_natCast,bP];exact mw d g hx
theorem Sl.len{a:Type}{e:Nat}{s:Sh a}{h:ab}{b:Option Addr}{len cap:Nat}{xs:List a}(q:Sl e s h (.slice b len cap) xs):len=xs.length:=by obtain⟨d,f,c,-⟩:=q.out;cases c;rfl
theorem Sl.aQ{a:Type}{e:Nat}{s:Sh a}{h:ab}{b:Option Addr}{len cap:Nat}{xs:List a}(q:Sl e s h (.slice b len cap) xs)(hl:0<len:=by omega):b.isSome=true:=by
 obtain⟨g,O,d,i,j,f⟩:=q.out;cases d;rcases f with rfl| ⟨kE,off,c,fr,rfl,-⟩
 .simp at hl
 rfl
theorem Sl.bound{a:Type}{e:Nat}{s:Sh a}{h:ab}{b:Option Addr}{len cap:Nat}{xs:List a}(q:Sl e s h (.slice b len cap) xs):len<=2^40/\len<=cap:=by obtain⟨g,O,c,d,f,-⟩:=q.out;cases c;exact⟨f,d⟩
theorem Sl.jq{f:Type}{e:Nat}{s:Sh f}{h:ab}{b:Option Addr}{len cap:Nat}{xs:List f}(q:Sl e s h (.slice b len cap) xs):
 ∃cs,aXs h b (len*s.n) cs/\cs.length=len*s.n/\iA cs=true/\∀h',bV s.tys h h'->∀p r,Rows s h' (p++cs++r) p.length xs:=by
 obtain⟨w,O,l,y,z,n⟩:=q.out;cases l;rcases n with rfl| ⟨kE,off,c,fr,rfl,k,g⟩
 .exact⟨[],.inl ⟨by simp,rfl⟩,by simp,rfl,λh' _ p r=>⟨by simp,λi x hx=>by simp at hx⟩⟩
 refine⟨(c.toList.drop off).take (xs.length*s.n),.inr ⟨_,rfl,rfl,?_,c,e,fr,k,λj d=>?_⟩,?_,?_,λh' hl p r=>⟨?_,λi x hx=>?_⟩⟩
 .have:=g.1;simp at this |-;omega
 .rw[List.getElem?_take,if_pos d,List.getElem?_drop];simp
 .have:=g.1;simp at this |-;omega
 ·-- iA
  have key:∀m,m<=xs.length->iA ((c.toList.drop off).take (m*s.n))=true:=λm=>by
   induction m with
   |zero=>intro _;simp[iA]
   |succ m v=>
    intro A;have hx:xs[m]? =some xs[m]:=by simp[show m<xs.length by omega]
    have a:=s.one (g.2 m _ hx);have o:(c.toList.drop off).take ((m+1)*s.n)=(c.toList.drop off).take (m*s.n)++(c.toList.drop (off+m*s.n)).take s.n:=by rw[Nat.succ_mul,List.take_add,List.drop_drop]
    rw[o];exact zN (v (by omega)) a
  exact key _ (Nat.le_refl _)
 .have:=g.1;simp at this |-;omega
 have a:=g.2 i x hx;have u:i<xs.length:=(List.getElem?_eq_some_iff.1 hx).1;have t:=g.1;have e1:i*s.n+s.n<=xs.length*s.n:=by rw[<-Nat.succ_mul];exact Nat.mul_le_mul_right _ u
 have:((p++(c.toList.drop off).take (xs.length*s.n)++r).drop (p.length+i*s.n)).take s.n=(c.toList.drop (off+i*s.n)).take s.n:=by
  apply List.ext_getElem?;intro j;simp only[List.getElem?_take];split
  .rename_i d;rw[List.getElem?_drop,List.append_assoc,List.getElem?_append_right (by omega),List.getElem?_append_left (by simp at t |-;omega),List.getElem?_take,if_pos (by omega),List.getElem?_drop,List.getElem?_drop];congr 1;omega
  rfl
 rw[this];exact s.mono hl a
theorem Sl.fresh{a:Type}{e:Nat}{s:Sh a}{h:ab}{n:Nat}{c:List Value}{xs:List a}{cap:Nat}(b:h n=some (.cells c.toArray e (0,0)))(r:Rows s h c 0 xs)(hl:xs.length<=2^40)(d:xs.length<=cap):
 Sl e s h (.slice (some ⟨n,0,none⟩) xs.length cap) xs:=
 ⟨some ⟨n,0,none⟩,cap,rfl,d,hl,.inr ⟨n,0,c.toArray,(0,0),rfl,b,by simpa using r⟩⟩
theorem Sl.nil{a:Type}{e:Nat}{s:Sh a}{h:ab}{b:Option Addr}{cap:Nat}:Sl e s h (.slice b 0 cap) ([]:List a):=
 ⟨b,cap,rfl,by simp,by simp,.inl rfl⟩
theorem aJ{t:Bool}{x y:Unit->Prop}(h:t=true->x ())(a:t=false->y ()):LC t x y:=by
 cases t
 .exact a rfl
 exact h rfl
structure cA{α:Type}(e:Nat)(s:Sh α)(h:ab)(nb cap:Nat)(xs:List α):Prop where
 out:∃c,h nb=some (.cells (List.toArray c) e (0,0))/\Rows s h c 0 xs/\c.length=cap*s.n
 le:xs.length<=cap
 bd:xs.length<=2^40
theorem cA.sl{a:Type}{e:Nat}{s:Sh a}{h:ab}{b cap:Nat}{xs:List a}(o:cA e s h b cap xs){n:Nat}(g:n=xs.length):Sl e s h (.slice (some ⟨b,0,none⟩) n cap) xs:=by obtain⟨c,d,f,-⟩:=o.out;subst g;exact Sl.fresh d f o.bd o.le
theorem cA.mono{a:Type}{e:Nat}{s:Sh a}{h h':ab}{n cap:Nat}{xs:List a}(hl:bV (e::s.tys) h h')(o:cA e s h n cap xs):cA e s h' n cap xs:=by obtain⟨c,b,d,f⟩:=o.out;exact⟨⟨c,hl _ _ _ _ (by simp) b,d.mono (hl.sub λt g=>by simp[g]),f⟩,o.le,o.bd⟩
theorem cI{j:Type}{e:Nat}{s:Sh j}{h:ab}{x:Option Addr}{n m:Nat}{xs:List j}(q:Sl e s h (.slice x n m) xs)(z:e∉s.tys){a:Option Addr}{size bytes:Nat}(E:size=s.n)(R:bytes<=128)
 {k:Value->ab->Prop} (M:n=0->k (.slice a 0 0) h)
 (B:∀b cap h',h b=none->0<n->Le h h'->cA e s h' b cap xs->k (.slice (some ⟨b,0,none⟩) n cap) h'):fS h a 0 0 x n size bytes e k:=by
 subst E;obtain⟨cs,t,f,u,v⟩:=q.jq;have g:=q.len;obtain⟨H,y⟩:=q.bound;refine⟨cs,t,u,λA=>?_,λC=>?_⟩
 .have i:n=0:=by omega
  have o:cs=[]:=List.eq_nil_of_length_eq_zero (by rw[f,i];simp);subst i;exact .inl ⟨o,M rfl⟩
 refine⟨?_,?_,[],.inl ⟨by simp,rfl⟩,λb c h' r e1 w p d=>?_⟩
 .have N:(2:Nat)^40=1099511627776:=rfl;have Q:(2:Nat)^48=281474976710656:=rfl;have:2*(0+n)*bytes<=2*(0+n)*128:=Nat.mul_le_mul_left _ R;omega
 .have N:(2:Nat)^40=1099511627776:=rfl;have Q:(2:Nat)^48=281474976710656:=rfl;omega
 have l:Le h h':=by rw[d];exact Le.set e1
 have:=B b c h' e1 (by omega) l ⟨⟨cs++r,?_,?_,?_⟩,by omega,by omega⟩
 .simpa using this
 .rw[d,ae];simp
 .have:=v h' (l.t _) [] r;simpa using this
 simp only[List.length_append,f,p];rw[<-Nat.add_mul];congr 1;omega
def sC:Env->List (Nat×SV)->Env
 |env,[]=>env
 |env,(t,x)::r=>sC (env.set t x) r
def QC:Env->List Nat->Env
 |env,[]=>env
 |env,t::r=>QC (env.set t .u) r
theorem aG.go{G:Type}{w:List Nat}{o:(Ex->Env->Loc->ab->Prop)->Env->Loc->ab->Prop}{K:Ex->Env->Loc->ab->Prop}{env:Env}{L:Loc}{h:ab}
 (v:G->List (Nat×SV)) (l:G->Loc) (I:Nat->G->ab->Prop) (s:Nat) (f:G)
 (u:Wk env L (sC (QC env w) (v f)) (l f)) (r:I s f h)
 (step:∀n g h',I n g h'->o (λe b L' p=>match e with
  | .normal=>∃m a,m<n/\Wk b L' (sC (QC env w) (v a)) (l a)/\I m a p
  |e=>K e b L' p) (sC (QC env w) (v g)) (l g) h'):aG w o K env L h:=
 ⟨λn i d c=>∃g,i=sC (QC env w) (v g)/\d=l g/\I n g c,s,⟨_,_,u,f,rfl,rfl,r⟩,λn i d c ⟨g,e1,t,r⟩=>by
  subst e1 t;have:=step n g c r;have key:(λ(e:Ex) (b:Env) (L':Loc) (p:ab)=>match e with
   | .normal=>∃m a,m<n/\Wk b L' (sC (QC env w) (v a)) (l a)/\I m a p
   |e=>K e b L' p)=(λe b L' h'=>match e with
   | .normal=>∃m i d,m<n/\Wk b L' i d/\∃g,i=sC (QC env w) (v g)/\d=l g/\I m g h'
   |e=>K e b L' h'):=by
   funext e b L' p;cases e with
   |normal=>
    apply propext;constructor
    .rintro⟨m,a,c,k,q⟩;exact⟨m,_,_,c,k,a,rfl,rfl,q⟩
    rintro⟨m,_,_,c,k,a,rfl,rfl,q⟩;exact⟨m,a,c,k,q⟩
   |exit j=>rfl
   |ret=>rfl
  rw[key]at this;exact this⟩
def Kp(bs:List Nat)(h h':ab):Prop:=∀b o,h b=some o->b∉bs->h' b=some o
theorem Kp.refl(bs:List Nat)(h:ab):Kp bs h h:=λ_ _ x _=>x
theorem Kp.trans{bs:List Nat}{a b c:ab}(x:Kp bs a b)(y:Kp bs b c):Kp bs a c:=λk o q h=>y k o (x k o q h) h
theorem Le.kp{h h':ab}(x:Le h h')(bs:List Nat):Kp bs h h':=λb o q _=>x b o q
theorem Kp.set{bs:List Nat}{h:ab}{n:Nat}{o:Obj}(c:n∈bs):Kp bs h (bu h n o):=λb q a k=>by
 rw[bN (λe=>k (by rw[e];exact c))];exact a
theorem Kp.sub{bs D:List Nat}{h h':ab}(x:Kp bs h h')(s:∀b∈bs,b∈D:=by decide):Kp D h h':=λb o q k=>x b o q (λe=>k (s b e))
theorem Le.aE{h a c:ab}{bs:List Nat}(x:Le h a)(n:∀b∈bs,h b=none)(y:Kp bs a c):Le h c:=λb o q=>y b o (x b o q) (λe=>by rw[n b e]at q;cases q)
theorem Le.none{h h':ab}(x:Le h h'){b:Nat}(q:h' b=none):h b=none:=by
 cases a:h b with
 |none=>rfl
 |some o=>rw[x b o a]at q;cases q
theorem HL{a:Type}{s:Sh a}{h:ab}{c:List Value}:Rows s h c 0 []:=⟨by simp,λi x hx=>by simp at hx⟩
theorem pD{g:Type}{e:Nat}{s:Sh g}{h:ab}{l:Nat}{A:Ar}[bf A]{bytes:Nat}{z:List Value}{k:Value->ab->Prop}(f:z.length=s.n)(hl:l<=2^40)(c:bytes<=128)
 (d:∀n h',h n=none->Le h h'->cA e s h' n l []->k (.slice (some ⟨n,0,none⟩) l l) h'):
 od h e (A .nat l) (A .nat l) bytes z k:=by
 have N:(2:Nat)^40=1099511627776:=rfl;have Q:(2:Int)^48=281474976710656:=rfl;rw[bf.nat (A:=A)];refine⟨by simp only[Int.ofNat_eq_natCast];omega,⟨by rw[Q];simp only[Int.ofNat_eq_natCast];omega,?_⟩,λn h' e1 a=>?_⟩
 .rw[Q];simp only[Int.ofNat_eq_natCast];have:bytes*l<=128*l:=Nat.mul_le_mul_right _ c;have b:((bytes*l:Nat):Int)<=((128*l:Nat):Int):=Int.ofNat_le.2 this;simp only[Int.natCast_mul]at b;omega
 simp only[Int.ofNat_eq_natCast,Int.toNat_natCast]at a |-;refine d n h' e1 (by rw[a];exact Le.set e1) ⟨⟨gu l z,by rw[a,ae],HL,?_⟩,by simp,by simp⟩;rw[eQ,f]
theorem kM:∀(s:List Value) (c:List Value) (o j:Nat),o+s.length<=c.length->(fK c o s)[j]? =if o<=j/\j<o+s.length then s[j-o]? else c[j]?
 | [],c,o,j,_=>by simp[fK];omega
 |v::r,c,o,j,hl=>by
  simp only[List.length_cons]at hl;unfold fK;rw[kM r (c.set o v) (o+1) j (by simp;omega)];by_cases h:o+1<=j/\j<o+1+r.length
  .rw[if_pos h,if_pos ⟨by omega,by simp;omega⟩];rw[show j-o=(j-(o+1))+1 by omega];simp
  rw[if_neg h];by_cases a:o=j
  .subst a;rw[if_pos ⟨Nat.le_refl _,by simp⟩];simp[List.getElem?_set_self (show o<c.length by omega)]
  rw[List.getElem?_set_ne a,if_neg (by simp;omega)]
theorem BH{v c:List Value}{o n:Nat}(hl:o+v.length<=c.length)(a:n=v.length):((fK c o v).drop o).take n=v:=by
 subst a;apply List.ext_getElem?;intro j;rw[List.getElem?_take];split
 .rename_i h;rw[List.getElem?_drop,kM v c o _ hl,if_pos ⟨by omega,by omega⟩];congr 1;omega
 rename_i h;rw[List.getElem?_eq_none (by omega)]
theorem qf{v c:List Value}{o p n:Nat}(hl:o+v.length<=c.length)(hd:p+n<=o\/o+v.length<=p):((fK c o v).drop p).take n=(c.drop p).take n:=by
 apply List.ext_getElem?;intro j;rw[List.getElem?_take,List.getElem?_take];split
 .rename_i h;rw[List.getElem?_drop,List.getElem?_drop,kM v c o _ hl,if_neg (by omega)]
 rfl
theorem cA.store{p:Type}{A:Ar}[bf A]{e:Nat}{s:Sh p}{h:ab}{d cap:Nat}{xs:List p}(o:cA e s h d cap xs)(B:e∉s.tys){i:Nat}(J:i<=xs.length)(w:i<cap)(I:cap<=2^40){n:Int}(H:n=(i:Int)){z:Nat}(E:z=s.n)
 {cs:List Value} {x:p} (hx:s.R h cs x) {k:ab->Prop}
 (G:∀h',Kp [d] h h'->(∀tys,e∉tys->bV tys h h')->cA e s h' d cap (if i<xs.length then xs.set i x else xs++[x])->k h'):Dq h (A.ia (some ⟨d,0,none⟩) n z) cs k:=by
 subst H E;obtain⟨c,r,v,m⟩:=o.out;have l:=s.len hx;have b:=o.le;have K:i*s.n+s.n<=c.length:=by rw[m,<-Nat.succ_mul];exact Nat.mul_le_mul_right _ w
 rw[A.th];simp only[ia,Option.getD_some,Int.toNat_natCast,bP,Nat.zero_add];refine⟨c.toArray,e,(0,0),rfl,r,by simp;omega,by simp,λh' f=>?_⟩;have u:∀tys,e∉tys->bV tys h h':=λtys q=>by rw[f];exact bV.set r q
 refine G h' (by rw[f];exact Kp.set (by simp)) u ⟨⟨fK c (i*s.n) cs,by rw[f];simp[ae],?_,by rw[dS,m]⟩,?_,?_⟩
 .have t:=u s.tys B;have C:∀j y,(if i<xs.length then xs.set i x else xs++[x])[j]? =some y->(j=i/\y=x)\/(j≠i/\xs[j]? =some y):=λj y a=>by
   split at a
   .rename_i F;by_cases D:j=i
    .subst D;rw[List.getElem?_set_self F]at a;exact .inl ⟨rfl,(Option.some.inj a).symm⟩
    rw[List.getElem?_set_ne (Ne.symm D)]at a;exact .inr ⟨D,a⟩
   rename_i O;have:i=xs.length:=by omega
   by_cases D:j=i
   .subst D;rw[List.getElem?_append_right (by omega),this]at a;simp at a;exact .inl ⟨rfl,a.symm⟩
   rw[List.getElem?_append]at a;split at a
   .exact .inr ⟨D,a⟩
   rename_i T;rw[List.getElem?_singleton]at a;split at a
   .omega
   cases a
  refine⟨?_,λj y a=>?_⟩
  .rw[dS,m];simp only[Nat.zero_add];refine Nat.mul_le_mul_right _ ?_;split
   .simp;exact b
   simp;omega
  simp only[Nat.zero_add];rcases C j y a with⟨rfl,rfl⟩|⟨q,g⟩
  .rw[BH (by omega) l.symm];exact s.mono t hx
  have T:j<xs.length:=(List.getElem?_eq_some_iff.1 g).1;rw[qf (by omega)]
  .have:=v.2 j y g;simp only[Nat.zero_add]at this;exact s.mono t this
  rcases Nat.lt_or_ge j i with F|O
  .left;rw[<-Nat.succ_mul];exact Nat.mul_le_mul_right _ F
  right;rw[l,<-Nat.succ_mul];exact Nat.mul_le_mul_right _ (by omega)
 .split
  .simp;exact b
  simp;omega
 split
 .simp;exact o.bd
 simp;omega
theorem Sl.form{a:Type}{e:Nat}{s:Sh a}{h:ab}{v:Value}{xs:List a}(q:Sl e s h v xs):∃b l c,v=.slice b l c:=by obtain⟨b,cap,d,-⟩:=q.out;exact⟨b,_,cap,d⟩
structure aK(z:Int)(i:Nat):Prop where
 eq:z=(i:Int)
theorem aK.ix{z:Int}{i len:Nat}(a:aK z i)(h:i<len):0<=z/\z<(len:Int):=by have:=a.eq;omega
theorem aK.lt{A:Ar}[h:bf A]{z:Int}{i len:Nat}(a:aK z i)(c:A .ay .lss z (A .nat len)=true):i<len:=by have:=a.eq;simp only[h.nat,h.ay,ay,decide_eq_true_eq,Int.ofNat_eq_natCast]at c;omega
theorem aK.ge{A:Ar}[h:bf A]{z:Int}{i len:Nat}(a:aK z i)(c:A .ay .lss z (A .nat len)=false):len<=i:=by have:=a.eq;simp only[h.nat,h.ay,ay,decide_eq_false_iff_not,Int.ofNat_eq_natCast]at c;omega
theorem aK.succ{A:Ar}[h:bf A]{z:Int}{i:Nat}(a:aK z i)(b:i<2^62:=by omega):aK (A .aC .add .i64 z 1) (i+1):=by constructor;have:=a.eq;rw[h.aC];simp only[aC];rw[IntWalk.i64_in _ (by omega)];omega
theorem bn{a:Type}(xs:List a)(i:Nat)(h:i<xs.length:=by omega):∃x,xs[i]? =some x:=⟨xs[i],by simp[h]⟩
theorem ax{a:Type}{xs:List a}{i:Nat}(h:i<xs.length):∃x,xs[i]? =some x:=⟨xs[i],by simp[h]⟩
variable {P:Program}
theorem ef.ext{f:FuncId}{args:List Value}{h:ab}{k:Value->ab->Prop}
 (r:∀w,AI h w->∃v a h',(callFunc f args.toArray).run P w=.ok (.value v) a/\k v h'/\bD h w h' a):ef (λ_=>P) (λ_=>zl f args) h k:=
 ⟨λw e=>by
  obtain⟨v,a,h',b,c,d⟩:=r w e;refine⟨v,a,h',?_,c,d⟩;simp only[zl];rw[Sem.run_bind,b];rfl⟩
structure iv(P:Program)(f:FuncId)(fn:Func):Prop where
 hf:P.funcs[f]? =some fn
 sN:(fn.name== "runtime.NumGoroutine")=false
 hb:fn.body.isNone=true
 hn:Extern.findNext fn=none
structure mj(h:ab)(a:Addr)(v:Value):Prop where
 out:a.spot=none/\∃c e,h a.block=some (.cells c e (0,0))/\c[a.off]? =some v
theorem mj.cell{h:ab}{a:Addr}{v:Value}(c:mj h a v){w:World}(g:AI h w):w.cell? a=some v/\w.frozen? a=false:=by
 obtain⟨d,c,e,b,f⟩:=c.out;have b:=g _ _ b;constructor
 .simp[World.cell?,b,d,f]
 simp[World.frozen?,b]
theorem mj.set{h:ab}{a:Addr}{v:Value}(q:mj h a v)(x:Value){k:ab->Prop}(j:∀c e h',h a.block=some (.cells c e (0,0))->h'=bu h a.block (.cells (c.setIfInBounds a.off x) e (0,0))->k h'){w:World}(f:AI h w):
 ∃h',k h'/\bD h w h' (w.setCell a x):=by
 obtain⟨g,c,e,d,l⟩:=q.out;refine⟨_,j c e _ d rfl,?_⟩;refine bD.set f d ?_ ?_ ?_ ?_
 .simp[World.setCell,Array.getElem?_modify,f _ _ d,g]
 .intro b i;simp[World.setCell,Array.getElem?_modify,Ne.symm i]
 .simp[World.setCell]
 exact⟨rfl,rfl,rfl⟩
theorem ua{f:FuncId}{fn:Func}(o:iv P f fn)(m:Mark)(e:Extern.find fn=some (λ_=>do mark m;pure Extern.Race.none_)){h:ab}{k:Value->ab->Prop}(a:k (.tuple #[]) h):
 ef (λ_=>P) (λ_=>zl f []) h k:=
 ef.ext λw b=>⟨_,w,h,run_call_mark0 o.hf o.sN o.hb o.hn m e w,a,bD.refl b⟩
theorem CH{f:FuncId}{fn:Func}(o:iv P f fn)(m:Addr->Mark)(e:Extern.find fn=some (Extern.Race.marked m)){a:Addr}{h:ab}{k:Value->ab->Prop}(b:k (.tuple #[]) h):
 ef (λ_=>P) (λ_=>zl f [.pointer (some a)]) h k:=
 ef.ext λw c=>⟨_,w,h,run_call_marked o.hf o.sN o.hb o.hn m e a w,b,bD.refl c⟩
theorem IP{f:FuncId}{fn:Func}(o:iv P f fn){j:IntKind}(e:Extern.find fn=some (Extern.Atomic.loadT (.int j))){a:Addr}{h:ab}{x:Int}(c:mj h a (.int j x)){k:Value->ab->Prop}(d:k (.int j x) h):
 ef (λ_=>P) (λ_=>zl f [.pointer (some a)]) h k:=
 ef.ext λw b=>⟨_,w,h,run_call_load o.hf o.sN o.hb o.hn j e (c.cell b).1,d,bD.refl b⟩
theorem ZK{f:FuncId}{fn:Func}(o:iv P f fn){j:IntKind}(l:Extern.find fn=some (Extern.Atomic.casT (.int j))){a:Addr}{h:ab}{x y:Int}(b:mj h a (.int j x)){k:Value->ab->Prop}
 (m:∀c e h',h a.block=some (.cells c e (0,0))->h'=bu h a.block (.cells (c.setIfInBounds a.off (.int j y)) e (0,0))->k (.bool true) h'):
 ef (λ_=>P) (λ_=>zl f [.pointer (some a),.int j x,.int j y]) h k:=
 ef.ext λw d=>by
  obtain⟨h',g,i⟩:=b.set (.int j y) (k:=k (.bool true)) m d;exact⟨_,_,h',run_call_cas_hit o.hf o.sN o.hb o.hn j l (b.cell d).1 (b.cell d).2,g,i⟩
theorem zh{f:FuncId}{fn:Func}(o:iv P f fn)(l:Extern.find fn=some Extern.Atomic.storeT){a:Addr}{h:ab}{v:Value}{j:IntKind}{y:Int}(b:mj h a v){k:Value->ab->Prop}
 (m:∀c e h',h a.block=some (.cells c e (0,0))->h'=bu h a.block (.cells (c.setIfInBounds a.off (.int j y)) e (0,0))->k (.tuple #[]) h'):
 ef (λ_=>P) (λ_=>zl f [.pointer (some a),.int j y]) h k:=
 ef.ext λw d=>by
  obtain⟨h',g,i⟩:=b.set (.int j y) (k:=k (.tuple #[])) m d;exact⟨_,_,h',run_call_store o.hf o.sN o.hb o.hn l (b.cell d).1 (b.cell d).2,g,i⟩
theorem Gi{f:FuncId}{fn:Func}(o:iv P f fn){j:IntKind}(l:Extern.find fn=some (Extern.Atomic.update (Op.intArith .add) j true)){a:Addr}{h:ab}{x y:Int}(b:mj h a (.int j x)){k:Value->ab->Prop}
 (m:∀c e h',h a.block=some (.cells c e (0,0))->h'=bu h a.block (.cells (c.setIfInBounds a.off (.int j (j.wrap (x+y)))) e (0,0))->k (.int j (j.wrap (x+y))) h'):
 ef (λ_=>P) (λ_=>zl f [.pointer (some a),.int j y]) h k:=
 ef.ext λw d=>by
  obtain⟨h',g,i⟩:=b.set (.int j (j.wrap (x+y))) (k:=k (.int j (j.wrap (x+y)))) m d;exact⟨_,_,h',run_call_add o.hf o.sN o.hb o.hn j l (b.cell d).1 (b.cell d).2 (by simp[Op.intArith]),g,i⟩
theorem ZJ{f:FuncId}{fn:Func}(o:iv P f fn)(e:Extern.find fn=some Extern.BytealgCompare.compare){a b:ByteArray}{h:ab}{k:Value->ab->Prop}
 (c:k (.int .i64 (Lib.compareBytes a.data.toList b.data.toList)) h):ef (λ_=>P) (λ_=>zl f [.string a,.string b]) h k:=
 ef.ext λw d=>by
  refine⟨_,w,h,?_,c,bD.refl d⟩;rw[run_callFunc_extern o.hf o.sN o.hb o.hn e];rw[show [Value.string a,Value.string b].toArray= #[.string a,.string b]from rfl,Lib.run_compareString];rfl
theorem BJ{s d t:TypeId}(f:P.underlying s=some (.pointer t))(hd:P.underlying d=some .unsafePointer)(g:(P.info? t).map (λi=>decide (i.size=0))=some false)
 {a:Addr} {v:Value} {h:ab} (c:mj h a v) {k:Value->ab->Prop} (e:k (.pointer (some a)) h):ef (λ_=>P) (λ_=>Go.convert s d (.pointer (some a))) h k:=
 ⟨λw b=>⟨_,w,h,run_convert_to_unsafe f hd g (c.cell b).1,e,bD.refl b⟩⟩
theorem aK.fQr{A:Ar}[h:bf A]{z w:Int}{i j:Nat}(b:aK z i)(a:aK w j)(f:i<2^61)(g:j<2^61):
 aK (A .conv .i64 (A .aC .shr .u64 (A .conv .u64 (A .aC .add .i64 z w)) 1)) ((i+j) / 2):=by
 constructor;have c:=b.eq;have d:=a.eq;simp only[h.conv,h.aC,aC];rw[IntWalk.i64_in (z+w) (by omega)];have e1:IntKind.u64.wrap (z+w)=((i+j:Nat):Int):=by
  have:z+w=((i+j:Nat):Int):=by omega
  rw[this];simp only[IntKind.wrap,IntKind.bits];simp;omega
 rw[e1];have e:(2:Int)^(min (1:Int).toNat IntKind.u64.bits)=2:=by decide
 rw[e,Int.fdiv_eq_ediv_of_nonneg _ (by omega)];rw[IntWalk.i64_in _ (by omega)];omega
theorem aK.vh{A:Ar}[h:bf A]{z w:Int}{i j:Nat}(b:aK z i)(a:aK w j):A .ay .lss z w=decide (i<j):=by have c:=b.eq;have d:=a.eq;simp only[h.ay,ay];rw[decide_eq_decide];omega
def oW(l:List Int)(i j:Nat):Nat:=
 if i<j then
  if l.getD ((i+j) / 2) 0<0 then oW l ((i+j) / 2+1) j else oW l i ((i+j) / 2)
 else i
 termination_by j-i
 decreasing_by all_goals omega
theorem Bd(l:List Int)(i j:Nat)(h:i<=j):oW l i j<=j/\i<=oW l i j:=by
 fun_induction oW l i j with
 |case1 i j b c a=>have:=a (by omega);omega
 |case2 i j b c a=>have:=a (by omega);omega
 |case3 i j b=>omega
theorem ui(l:List Int)(p:Nat)(F:∀k,k<p->l.getD k 0<0)(i j:Nat)(O:∀k,p<=k->k<j->¬l.getD k 0<0)(e:i<=p)(f:p<=j):oW l i j=p:=by
 fun_induction oW l i j with
 |case1 i j c a b=>
  refine b O ?_ f;rcases Nat.lt_or_ge ((i+j) / 2) p with h|h
  .omega
  exact absurd a (O _ h (by omega))
 |case2 i j c a b=>
  refine b (λk d g=>O k d (by omega)) e ?_;rcases Nat.lt_or_ge ((i+j) / 2) p with h|h
  .exact absurd (F _ h) a
  omega
 |case3 i j c=>omega
theorem aP{h:ab}{b o n e:Nat}{c cs:List Value}{fr:Nat×Nat}{k:List Value->Prop}(g:h b=some (.cells (List.toArray c) e fr))(a:(c.drop o).take n=cs)(j:cs.length=n)(f:k cs):vK h ⟨b,o,none⟩ n k:=by refine⟨cs,⟨rfl,j,_,_,_,g,λi d=>?_⟩,f⟩;rw[<-a,List.getElem?_take,if_pos d,List.getElem?_drop];simp
theorem ak{h:ab}{b o n e:Nat}{c cs:List Value}{fr:Nat×Nat}{k:List Value->Prop}(g:h b=some (.cells (List.toArray c) e fr))(d:k cs)(a:(c.drop o).take n=cs:=by exact rfl)(f:cs.length=n:=by exact rfl):vK h ⟨b,o,none⟩ n k:=aP g a f d
theorem jr{h:ab}{b o e:Nat}{c cs:List Value}{k:ab->Prop}(g:h b=some (.cells (List.toArray c) e (0,0)))(n:o+cs.length<=c.length)(a:∀h',h'=bu h b (.cells (List.toArray (fK c o cs)) e (0,0))->k h'):Dq h ⟨b,o,none⟩ cs k:=
 ⟨_,_,_,rfl,g,by simpa using n,by simp,λh' e=>a h' (by simpa using e)⟩
open Go.MapKept
variable {P:Program}
structure Mp(h:ab)(m:Nat)(d:TypeDesc)(l:List (Value×Value)):Prop where
 out:∃es clock,h m=some (.map es clock)/\es.toList.map (λe=>(e.key,e.val))=l/\Stamped es clock/\∀x∈es.toList,IsKey d x.key
theorem Mp.new{h:ab}{m:Nat}{d:TypeDesc}(g:h m=some (.map #[] 0)):Mp h m d []:=⟨#[],0,g,rfl,stamped_empty 0,by simp⟩
theorem Mp.kp{h h':ab}{m:Nat}{d:TypeDesc}{l:List (Value×Value)}{bs:List Nat}(q:Mp h m d l)(k:Kp bs h h')(i:m∉bs):Mp h' m d l:=by obtain⟨e,c,g,a,b,f⟩:=q.out;exact⟨e,c,k _ _ g i,a,b,f⟩
theorem bV.BZ{tys:List Nat}{h:ab}{n:Nat}{e:Array MapEntry}{c:Nat}{o:Obj}(f:h n=some (.map e c)):bV tys h (bu h n o):=λb d g J m a=>by
 unfold bu;split
 .rename_i q;rw[q,f]at a;cases a
 exact a
theorem bD.BZ{h:ab}{w:World}(d:AI h w){n:Nat}{e:Array MapEntry}{c:Nat}{o:Obj}(b:h n=some (.map e c)):bD h w (bu h n o) { w with heap:=w.heap.setIfInBounds n o }:=by have a:=heap_set (o':=o) (d _ _ b);exact bD.set d b a.1 a.2 (by simp) ⟨rfl,rfl,rfl⟩
theorem Fs{mt t r:TypeId}{d:TypeDesc}(y:P.underlying mt=some (.map t r))(hd:P.underlying t=some d){h:ab}{m:Nat}{l:List (Value×Value)}(q:Mp h m d l){key v:Value}(a:IsKey d key)(z:∀p∈l,p.1≠key)
 {k:Value->ab->Prop} (K:∀h',Mp h' m d (l++[(key,v)])->Kp [m] h h'->(∀tys,bV tys h h')->k undef h'):
 ef (λ_=>P) (λ_=>do Instr.mapUpdate mt (.map (some m)) key v;pure undef) h k:=
 ⟨λw o=>by
  obtain⟨s,c,g,f,u,i⟩:=q.out;have n:=o _ _ g;have b:∀x∈s.toList,x.key≠key:=λx hx=>by
   have:(x.key,x.val)∈l:=by rw[<-f];exact List.mem_map.2 ⟨x,hx,rfl⟩
   exact z _ this
  rcases findNow_spec a s.toList 0 i with⟨f1,_⟩|⟨j,e,f1,f2,f3⟩
  .refine⟨undef,_,_,?_,K _ ⟨s.push { key:=key,val:=v,born:=c },c+1,ae,?_,stamped_push u b,?_⟩ (Kp.set (by simp)) (λtys=>bV.BZ g),bD.BZ o g⟩
   .simp[Instr.mapUpdate,run_underlying y,Go.MapKept.run_getObj_map n,run_checkKey hd a,run_findKey hd f1,Go.MapKept.run_setObj_map _ n,Result.andThen]
   .simp[f]
   intro x hx;simp only[Array.toList_push,List.mem_append,List.mem_singleton]at hx;rcases hx with hx|rfl
   .exact i x hx
   exact a
  exact absurd f3 (b e (List.mem_of_getElem? f2))⟩
theorem sD{mt f t:TypeId}{d:TypeDesc}(r:P.underlying mt=some (.map f t))(hd:P.underlying f=some d){z:Value}(u:∀w,(zeroValue t).run P w=.ok z w){h:ab}{m:Nat}{l:List (Value×Value)}(q:Mp h m d l){key:Value}(a:IsKey d key)(v:∀p∈l,p.1≠key)
 {k:Value->ab->Prop} (K:k z h):ef (λ_=>P) (λ_=>Instr.lookup mt (.map (some m)) key false) h k:=
 ⟨λw b=>by
  obtain⟨s,c,g,i,y,n⟩:=q.out;have o:=b _ _ g;have F:∀x∈s.toList,x.key≠key:=λx hx=>by
   have:(x.key,x.val)∈l:=by rw[<-i];exact List.mem_map.2 ⟨x,hx,rfl⟩
   exact v _ this
  rcases findNow_spec a s.toList 0 n with⟨f1,_⟩|⟨j,e,f1,f2,f3⟩
  .refine⟨z,w,h,?_,K,bD.refl b⟩;simp[Instr.lookup,run_underlying r,Go.MapKept.run_getObj_map o,run_checkKey hd a,run_findKey hd f1,u,Result.andThen]
  exact absurd f3 (F e (List.mem_of_getElem? f2))⟩
theorem wz{mt t o:TypeId}{d:TypeDesc}(D:P.underlying mt=some (.map t o))(hd:P.underlying t=some d){h:ab}{m:Nat}{l:List (Value×Value)}(q:Mp h m d l){key v:Value}(f:IsKey d key)(C:(key,v)∈l)
 {k:Value->ab->Prop} (K:k v h):ef (λ_=>P) (λ_=>Instr.lookup mt (.map (some m)) key false) h k:=
 ⟨λw n=>by
  obtain⟨s,c,g,r,u,y⟩:=q.out;have A:=n _ _ g;rw[<-r]at C;obtain⟨x,hx,B⟩:=List.mem_map.1 C;cases B;rcases findNow_spec f s.toList 0 y with⟨f1,f2⟩|⟨j,e,f1,f2,f3⟩
  .exact absurd rfl (f2 x hx)
  have W:e=x:=by
   have p:=((stamped_iff s c).1 u).2.2;obtain⟨i,b⟩:=List.getElem?_of_mem hx;rcases Nat.lt_trichotomy i j with F|rfl|F
   .exfalso;have a:=(List.getElem?_eq_some_iff.1 f2);have z:=(List.getElem?_eq_some_iff.1 b);have:=List.pairwise_iff_getElem.1 p i j z.1 a.1 F;rw[z.2,a.2]at this;exact this f3.symm
   .rw[f2]at b;exact Option.some.inj b
   exfalso;have a:=(List.getElem?_eq_some_iff.1 f2);have z:=(List.getElem?_eq_some_iff.1 b);have:=List.pairwise_iff_getElem.1 p j i a.1 z.1 F;rw[z.2,a.2]at this;exact this f3
  subst W;refine⟨_,w,h,?_,K,bD.refl n⟩;simp[Instr.lookup,run_underlying D,Go.MapKept.run_getObj_map A,run_checkKey hd f,run_findKey hd f1,Result.andThen]⟩
theorem PW{a b:ByteArray}(h:a.toList=b.toList):a=b:=by rw[Go.ByteArray.toList_eq,Go.ByteArray.toList_eq]at h;cases a;cases b;simp only at h;congr;exact Array.toList_inj.1 h
theorem dF(A:Ar)[c:bf A](a b:ByteArray):A .js .eql a b=decide (a=b):=by
 rw[c.js];simp only[js];by_cases h:a=b
 .simp[h]
 rw[decide_eq_false h];simp only[beq_eq_false_iff_ne,ne_eq];exact λe=>h (PW e)
theorem aq(A:Ar)[c:bf A](a b:Int):A .ay .eql a b=decide (a=b):=by
 rw[c.ay];simp only[ay];by_cases h:a=b
 .simp[h]
 simp[h]
theorem av(A:Ar)[c:bf A](a b:Int):A .ay .neq a b=decide (a≠b):=by
 rw[c.ay];simp only[ay];by_cases h:a=b
 .simp[h]
 simp[h]
theorem aD(A:Ar)[h:bf A](a b:Int):A .ay .lss a b=decide (a<b):=by rw[h.ay];rfl
theorem bX(A:Ar)[h:bf A](a b:Int):A .ay .geq a b=decide (a>=b):=by rw[h.ay];rfl
theorem aX(A:Ar)[h:bf A](a b:Int):A .ay .gtr a b=decide (a>b):=by rw[h.ay];rfl
theorem YE(A:Ar)[h:bf A](a b:Int):A .ay .leq a b=decide (a<=b):=by rw[h.ay];rfl
structure qV{α:Type}(xs:List α)(p:α->Bool)(z:Int):Prop where
 out:(z=-1/\∀x∈xs,p x=false)\/∃i x,aK z i/\xs[i]? =some x/\p x=true/\∀j,j<i->∀y,xs[j]? =some y->p y=false
theorem Kt(A:Ar)[h:bf A]{key:Int}{n:Nat}(e1:A .ay .lss key 0=false)(e:A .ay .geq key (A .nat n)=false):aK key key.toNat/\key.toNat<n:=by rw[aD A]at e1;rw[bX A,h.nat]at e;have a:=of_decide_eq_false e1;have g:=of_decide_eq_false e;simp only[Int.ofNat_eq_natCast]at g;exact⟨⟨by omega⟩,by omega⟩
theorem Sl.bT{a:Type}{A:Ar}[bf A]{e:Nat}{s:Sh a}{h:ab}{b:Option Addr}{len cap:Nat}{xs:List a}(q:Sl e s h (.slice b len cap) xs){i:Nat}{x:a}(hx:xs[i]? =some x){n:Int}(v:n=(i:Int)){o m:Nat}(D:o+m<=s.n)
 {k:List Value->Prop} (u:∀cs,s.R h cs x->k ((cs.drop o).take m)):vK h (A .off (A .ia b n s.n) o) m k:=by
 obtain⟨z,O,p,B,C,r⟩:=q.out;cases p;rcases r with rfl| ⟨kE,off,c,fr,rfl,l,g⟩
 .simp at hx
 subst v;have w:=mw l g hx;have hR:=g.2 i x hx;refine⟨_,?_,u _ hR⟩;rw[bf.ia (A:=A),bf.off (A:=A)];simp only[ia,Option.getD_some,Int.toNat_natCast,bP];obtain⟨-,hl,c',d,J,f,y⟩:=w;refine⟨rfl,by rw[List.length_take,List.length_drop,hl];omega,c',d,J,f,λj t=>?_⟩;have:=y (o+j) (by omega);simp only at this |-;rw[List.getElem?_take,if_pos t,List.getElem?_drop,<-this];congr 1;omega
theorem Rows.at{a:Type}{s:Sh a}{h:ab}{cs:List Value}{ys:List a}(r:Rows s h cs 0 ys){j:Nat}{y:a}(b:ys[j]? =some y):s.R h ((cs.drop (j*s.n)).take s.n) y:=by have:=r.2 j y b;simpa using this
theorem cA.write{v:Type}{e:Nat}{s:Sh v}{h:ab}{n cap:Nat}{xs ys:List v}(o:cA e s h n cap xs)(z:e∉s.tys){i:Nat}(r:i<=xs.length)(x:i+ys.length<=cap)(L:i+ys.length<=2^40)
 {cs:List Value} (hl:cs.length=ys.length*s.n) (C:Rows s h cs 0 ys) {k:ab->Prop}
 (A:∀h',Kp [n] h h'->(∀tys,e∉tys->bV tys h h')->cA e s h' n cap (xs.take i++ys++xs.drop (i+ys.length))->k h'):Dq h ⟨n,i*s.n,none⟩ cs k:=by
 obtain⟨c,q,w,g⟩:=o.out;have B:=o.le;have W:=o.bd;have H:i*s.n+cs.length<=c.length:=by rw[g,hl,<-Nat.add_mul];exact Nat.mul_le_mul_right _ x
 refine⟨c.toArray,e,(0,0),rfl,q,by simpa using H,by simp,λh' f=>?_⟩;have u:∀tys,e∉tys->bV tys h h':=λtys F=>by rw[f];exact bV.set q F
 have t:=u s.tys z;have l:(xs.take i++ys++xs.drop (i+ys.length)).length=max xs.length (i+ys.length):=by simp only[List.length_append,List.length_take,List.length_drop];omega
 refine A h' (by rw[f];exact Kp.set (by simp)) u ⟨⟨fK c (i*s.n) cs,by rw[f];simp[ae],⟨?_,λj y d=>?_⟩,by rw[dS,g]⟩,by rw[l];omega,by rw[l];omega⟩
 .rw[dS,g,l];simp only[Nat.zero_add];exact Nat.mul_le_mul_right _ (by omega)
 simp only[Nat.zero_add];have e1:∀a b:Nat,a<b->a*s.n+s.n<=b*s.n:=λa b Z=>by rw[<-Nat.succ_mul];exact Nat.mul_le_mul_right _ Z
 have p:∀y,xs[j]? =some y->(j<i\/i+ys.length<=j)->s.R h' (((fK c (i*s.n) cs).drop (j*s.n)).take s.n) y:=λy E hd=>by
  rw[qf H]
  .have:=w.2 j y E;simp only[Nat.zero_add]at this;exact s.mono t this
  rcases hd with hd|hd
  .exact .inl (e1 j i hd)
  right;rw[hl,<-Nat.add_mul];exact Nat.mul_le_mul_right _ hd
 rw[List.getElem?_append]at d;split at d
 .rename_i T;rw[List.getElem?_append]at d;split at d
  .rename_i D;simp only[List.length_take]at D;rw[List.getElem?_take,if_pos (by omega)]at d;exact p y d (.inl (by omega))
  rename_i D;simp only[List.length_take,List.length_append]at D T;rw[List.length_take,Nat.min_eq_left r]at d;have hR:=C.at d;have K:j-i<ys.length:=(List.getElem?_eq_some_iff.1 d).1;have:((fK c (i*s.n) cs).drop (j*s.n)).take s.n=(cs.drop ((j-i)*s.n)).take s.n:=by
   apply List.ext_getElem?;intro m;rw[List.getElem?_take,List.getElem?_take];split
   .rename_i I;have G:=e1 (j-i) ys.length K;have J:j*s.n=i*s.n+(j-i)*s.n:=by rw[<-Nat.add_mul];congr 1;omega
    rw[List.getElem?_drop,List.getElem?_drop,kM cs c _ _ H,if_pos (by omega)];congr 1;omega
   rfl
  rw[this];exact s.mono t hR
 rename_i T;simp only[List.length_append,List.length_take,Nat.min_eq_left r]at T d;rw[List.getElem?_drop]at d;have:i+ys.length+(j-(i+ys.length))=j:=by omega
 rw[this]at d;exact p y d (.inr (by omega))
theorem cA.shrink{b:Type}{e:Nat}{s:Sh b}{h:ab}{n cap:Nat}{xs:List b}(o:cA e s h n cap xs)(k:Nat):cA e s h n cap (xs.take k):=by
 obtain⟨c,d,a,f⟩:=o.out;have l:=o.le;have W:=o.bd;refine⟨⟨c,d,⟨?_,λi x hx=>?_⟩,f⟩,by rw[List.length_take];omega,by rw[List.length_take];omega⟩
 .have:=a.1;refine Nat.le_trans ?_ this;exact Nat.add_le_add_left (Nat.mul_le_mul_right _ (by rw[List.length_take];omega)) _
 rw[List.getElem?_take]at hx;split at hx
 .exact a.2 i x hx
 cases hx
theorem cA.XJ{g:Type}{e:Nat}{s:Sh g}{h:ab}{n cap:Nat}{xs:List g}(o:cA e s h n cap xs)(l:e∉s.tys){p:Nat}{cs:List Value}(r:xs.length*s.n<=p)(q:p+cs.length<=cap*s.n){k:ab->Prop}
 (m:∀h',Kp [n] h h'->(∀tys,e∉tys->bV tys h h')->cA e s h' n cap xs->k h'):Dq h ⟨n,p,none⟩ cs k:=by
 obtain⟨c,b,d,i⟩:=o.out;refine⟨c.toArray,e,(0,0),rfl,b,by simp;omega,by simp,λh' a=>?_⟩;have t:∀tys,e∉tys->bV tys h h':=λtys F=>by rw[a];exact bV.set b F
 refine m h' (by rw[a];exact Kp.set (by simp)) t ⟨⟨fK c p cs,by rw[a];simp[ae],⟨by rw[dS];exact d.1,λj y f=>?_⟩,by rw[dS,i]⟩,o.le,o.bd⟩;have T:j<xs.length:=(List.getElem?_eq_some_iff.1 f).1;have:j*s.n+s.n<=xs.length*s.n:=by rw[<-Nat.succ_mul];exact Nat.mul_le_mul_right _ T
 simp only[Nat.zero_add];rw[qf (by omega) (.inl (by omega))];have:=d.2 j y f;simp only[Nat.zero_add]at this;exact s.mono (t s.tys l) this
theorem pL{o:Type}{e:Nat}{s:Sh o}{h:ab}{b:Option Addr}{len cap n:Nat}{xs ys:List o}(q:Sl e s h (.slice b len cap) xs)(H:cap<len+n){size bytes:Nat}(E:size=s.n)(R:bytes<=128)(L:len+n<=2^39)
 {new:List Value} (x:iA new=true) (hl:new.length=n*s.n) (J:ys.length<=n) (A:∀h',Le h h'->Rows s h' new 0 ys)
 {k:Value->ab->Prop} (z:∀g c h',h g=none->Le h h'->len+n<=c->cA e s h' g c (xs++ys)->k (.slice (some ⟨g,0,none⟩) (len+n) c) h'):
 qX h b len cap n size bytes e new k:=by
 subst E;obtain⟨cs,p,d,C,t⟩:=q.jq;have l:=q.len;have Z:(2:Nat)^39=549755813888:=rfl;have N:(2:Nat)^40=1099511627776:=rfl;have Q:(2:Nat)^48=281474976710656:=rfl;refine⟨x,λG=>by omega,λ_=>⟨?_,by omega,cs,p,λg c h' r e1 u v i=>?_⟩⟩
 .have:2*(len+n)*bytes<=2*(len+n)*128:=Nat.mul_le_mul_left _ R;omega
 have a:Le h h':=by rw[i];exact Le.set e1
 refine z g c h' e1 a u ⟨⟨cs++new++r,by rw[i,ae],?_,?_⟩,by rw[List.length_append];omega,by rw[List.length_append];omega⟩
 .have hx:=t h' (a.t _) [] (new++r);have B:=A h' a;refine⟨?_,λj y f=>?_⟩
  .simp only[List.length_append,d,hl,l,Nat.zero_add];rw[<-Nat.add_mul];have:(xs.length+ys.length)*s.n<=(xs.length+n)*s.n:=Nat.mul_le_mul_right _ (by omega);omega
  rw[List.getElem?_append]at f;split at f
  .have:=hx.2 j y f;simpa using this
  rename_i O;have hR:=B.at f;have K:j-xs.length<ys.length:=(List.getElem?_eq_some_iff.1 f).1;simp only[Nat.zero_add];have w:((cs++new++r).drop (j*s.n)).take s.n=(new.drop ((j-xs.length)*s.n)).take s.n:=by
   apply List.ext_getElem?;intro m;rw[List.getElem?_take,List.getElem?_take];split
   .rename_i I;have D:(j-xs.length)*s.n+s.n<=n*s.n:=by rw[<-Nat.succ_mul];exact Nat.mul_le_mul_right _ (by omega)
    have F:j*s.n=xs.length*s.n+(j-xs.length)*s.n:=by rw[<-Nat.add_mul];congr 1;omega
    rw[List.getElem?_drop,List.getElem?_drop,List.append_assoc,List.getElem?_append_right (by rw[d,l];omega),List.getElem?_append_left (by rw[d,hl,l];omega)];congr 1;rw[d,l];omega
   rfl
  rw[w];exact hR
 simp only[List.length_append,d,hl,v];rw[<-Nat.add_mul,<-Nat.add_mul];congr 1;omega
theorem bQ{A:Ar}[h:bf A]{z:Int}{i n:Nat}(a:aK z i):A .mg (A .nat n) z=n-i:=by have:=a.eq;simp only[h.mg,h.nat,Int.ofNat_eq_natCast];omega
theorem cM{A:Ar}[h:bf A]{z:Int}{i:Nat}(a:aK z i):A .mg z 0=i:=by have:=a.eq;simp only[h.mg];omega
theorem Gp{A:Ar}[h:bf A]{z w:Int}{i j:Nat}(b:aK z i)(a:aK w j):A .mg z w=i-j:=by have:=b.eq;have:=a.eq;simp only[h.mg];omega
theorem uc{A:Ar}[h:bf A]{z:Int}{i c s n:Nat}(a:aK z i)(b:i<c):A .cut (some ⟨n,0,none⟩) z (A .nat c) s=some ⟨n,i*s,none⟩:=by have:=a.eq;simp only[h.cut,h.nat,Int.ofNat_eq_natCast];rw[if_neg (by omega)];simp[bP,this]
theorem Rows.drop{b:Type}{s:Sh b}{h:ab}{c:List Value}{off:Nat}{xs:List b}(r:Rows s h c off xs){i:Nat}(d:i<=xs.length):Rows s h c (off+i*s.n) (xs.drop i):=by
 refine⟨?_,λj x a=>?_⟩
 .have:=r.1;rw[List.length_drop];have:i*s.n+(xs.length-i)*s.n=xs.length*s.n:=by rw[<-Nat.add_mul];congr 1;omega
  omega
 rw[List.getElem?_drop]at a;have:=r.2 _ x a;rw[Nat.add_mul]at this;rw[Nat.add_assoc];exact this
theorem Rows.take{b:Type}{s:Sh b}{h:ab}{c:List Value}{off:Nat}{xs:List b}(r:Rows s h c off xs)(i:Nat):Rows s h c off (xs.take i):=by
 refine⟨?_,λj x a=>?_⟩
 .have:=r.1;refine Nat.le_trans (Nat.add_le_add_left (Nat.mul_le_mul_right _ ?_) _) this;rw[List.length_take];omega
 rw[List.getElem?_take]at a;split at a
 .exact r.2 _ x a
 cases a
theorem Sl.iH{d:Type}{A:Ar}[a:bf A]{e:Nat}{s:Sh d}{h:ab}{b:Option Addr}{n c:Nat}{xs:List d}(q:Sl e s h (.slice b n c) xs){z:Int}{i:Nat}(t:aK z i)(p:i<=n){m:Nat}(r:m=n-i){c':Nat}(o:c'=c-i):
 Sl e s h (.slice (A .cut b z (A .nat c) s.n) m c') (xs.drop i):=by
 obtain⟨u,cap,k,v,w,l⟩:=q.out;cases k;subst r o;have f:=t.eq;refine⟨_,_,by rw[List.length_drop],by rw[List.length_drop];omega,by rw[List.length_drop];omega,?_⟩;rcases l with rfl| ⟨kE,off,cc,fr,rfl,g,j⟩
 .simp
 simp only[a.cut,a.nat,Int.ofNat_eq_natCast];by_cases G:(c:Int)=z
 .left;have:i=xs.length:=by omega
  rw[this];simp
 right;rw[if_neg G];exact⟨kE,off+i*s.n,cc,fr,by simp[bP,f],g,j.drop p⟩
theorem Sl.Hu{a:Type}{A:Ar}[k:bf A]{e:Nat}{s:Sh a}{h:ab}{b:Option Addr}{n c:Nat}{xs:List a}(q:Sl e s h (.slice b n c) xs){i:Nat}(p:i<=n):
 Sl e s h (.slice (A .cut b 0 (A .nat c) s.n) i c) (xs.take i):=by
 obtain⟨l,cap,f,m,o,j⟩:=q.out;cases f;have hl:(xs.take i).length=i:=by rw[List.length_take];omega
 refine⟨_,_,by rw[hl],by rw[hl];omega,by rw[hl];omega,?_⟩;rcases j with rfl| ⟨kE,off,cc,fr,rfl,g,d⟩
 .simp
 right;refine⟨kE,off,cc,fr,?_,g,d.take i⟩;simp only[k.cut];split
 .rfl
 simp[bP]
theorem xG{a:Type}{e:Nat}{s:Sh a}{h:ab}{b cap:Nat}{xs ys:List a}(o:cA e s h b cap xs)(m:e∉s.tys){i:Nat}(p:i<=xs.length){x:Option Addr}{n j len:Nat}(q:Sl e s h (.slice x n j) ys)(y:n<=len)(w:i+n<=cap)(v:i+n<=2^40){size:Nat}(E:size=s.n)
 {k:Value->ab->Prop} (r:∀h',Kp [b] h h'->(∀tys,e∉tys->bV tys h h')->cA e s h' b cap (xs.take i++ys++xs.drop (i+n))->k (.int .i64 ((min n len:Nat):Int)) h'):
 uQ h (some ⟨b,i*s.n,none⟩) len x n size k:=by
 subst E;obtain⟨cs,c,d,f,g⟩:=q.jq;have l:=q.len;have D:min n len=n:=by omega
 refine⟨cs,by rw[D];exact c,f,.inr ⟨_,rfl,?_⟩⟩;refine o.write (ys:=ys) m p (by omega) (by omega) (by rw[d,l]) ?_ (λh' t u o'=>r h' t u (by rw[l];exact o'));have:=g h (bV.refl _ _) [] [];simpa using this
theorem iu{d:Type}{e:Nat}{s:Sh d}{h:ab}{b x:Option Addr}{len cap n l:Nat}{xs ys:List d}(q:Sl e s h (.slice b len cap) xs)(v:Sl e s h (.slice x n l) ys)(m:cap<len+n){size bytes:Nat}(E:size=s.n)(R:bytes<=128)(p:len+n<=2^39)
 {k:Value->ab->Prop} (o:∀a c h',h a=none->Le h h'->len+n<=c->cA e s h' a c (xs++ys)->k (.slice (some ⟨a,0,none⟩) (len+n) c) h'):
 fS h b len cap x n size bytes e k:=by
 subst E;obtain⟨cs,f,g,i,j⟩:=v.jq;refine⟨cs,f,pL q m rfl R p i g (by rw[v.len];exact Nat.le_refl _) (λh' hl=>?_) o⟩;have:=j h' (hl.t _) [] [];simpa using this
theorem aK.add{A:Ar}[h:bf A]{z w:Int}{i j:Nat}(b:aK z i)(a:aK w j)(e:i+j<2^62):aK (A .aC .add .i64 z w) (i+j):=by constructor;have c:=b.eq;have d:=a.eq;rw[h.aC];simp only[aC];rw[IntWalk.i64_in _ (by omega)];omega
theorem aK.sub{A:Ar}[h:bf A]{z w:Int}{i j:Nat}(b:aK z i)(a:aK w j)(e:i<2^62)(f:j<=i):aK (A .aC .sub .i64 z w) (i-j):=by constructor;have c:=b.eq;have d:=a.eq;rw[h.aC];simp only[aC];rw[IntWalk.i64_in _ (by omega)];omega
theorem tA{w:Int}{m bytes:Nat}(c:aK w m)(e:m<=2^39)(b:bytes<=128):0<=w/\w<=2^48/\w*(bytes:Int)<=2^48:=by
 have h:=c.eq;have Q:(2:Int)^48=281474976710656:=rfl;have K:(2:Nat)^39=549755813888:=rfl;have d:m*bytes<=549755813888*128:=Nat.mul_le_mul (by omega) b;have a:w*(bytes:Int)=((m*bytes:Nat):Int):=by rw[h];simp
 rw[Q,a];omega
theorem mH{d:Type}{e:Nat}{s:Sh d}{h:ab}{b:Option Addr}{len cap n:Nat}{xs:List d}(q:Sl e s h (.slice b len cap) xs)(f:cap<len+n){size bytes:Nat}(g:size=s.n)(m:bytes<=128)(j:len+n<=2^39){z:List Value}(D:iA z=true)(I:z.length=s.n)
 {k:Value->ab->Prop} (i:∀a c h',h a=none->Le h h'->len+n<=c->cA e s h' a c xs->k (.slice (some ⟨a,0,none⟩) (len+n) c) h'):
 aJc h b len cap n size bytes e z k:=
 ⟨pL q f g m j (ve D n) (by rw[eQ,I]) (ys:=[]) (by simp) (λh' _=>HL) (by simpa using i)⟩
structure aU{α:Type}(e:Nat)(s:Sh α)(h0 h:ab)(v:Value)(xs:List α):Prop where
 out:(∃b,v=.slice b 0 0/\xs=[])\/∃nb cap,v=.slice (some ⟨nb,0,none⟩) xs.length cap/\h0 nb=none/\cA e s h nb cap xs
theorem aU.nil{a:Type}{e:Nat}{s:Sh a}{h0 h:ab}{b:Option Addr}:aU e s h0 h (.slice b 0 0) ([]:List a):=⟨.inl ⟨b,rfl,rfl⟩⟩
theorem aU.sl{a:Type}{e:Nat}{s:Sh a}{h0 h:ab}{v:Value}{xs:List a}(q:aU e s h0 h v xs):Sl e s h v xs:=by
 rcases q.out with⟨b,rfl,rfl⟩|⟨n,cap,rfl,-,o⟩
 .exact Sl.nil
 exact o.sl rfl
theorem aU.mono{b:Type}{e:Nat}{s:Sh b}{h0 h h':ab}{v:Value}{xs:List b}(q:aU e s h0 h v xs)(hl:bV (e::s.tys) h h'):aU e s h0 h' v xs:=by
 rcases q.out with a| ⟨n,cap,a,c,o⟩
 .exact⟨.inl a⟩
 exact⟨.inr ⟨n,cap,a,c,o.mono hl⟩⟩
theorem aU.base{b:Type}{e:Nat}{s:Sh b}{h0 a h:ab}{v:Value}{xs:List b}(q:aU e s a h v xs)(hl:Le h0 a):aU e s h0 h v xs:=by
 rcases q.out with g| ⟨n,cap,c,d,o⟩
 .exact⟨.inl g⟩
 exact⟨.inr ⟨n,cap,c,hl.none d,o⟩⟩
theorem cA.buf{a:Type}{e:Nat}{s:Sh a}{h0 h:ab}{b cap n:Nat}{xs:List a}(o:cA e s h b cap xs)(i:h0 b=none)(c:n=xs.length):aU e s h0 h (.slice (some ⟨b,0,none⟩) n cap) xs:=by subst c;exact⟨.inr ⟨b,cap,rfl,i,o⟩⟩
theorem aU.own{a:Type}{e:Nat}{s:Sh a}{h0 h:ab}{b:Option Addr}{l c:Nat}{xs:List a}(q:aU e s h0 h (.slice b l c) xs)(hl:0<l):∃n,b=some ⟨n,0,none⟩/\h0 n=none/\l=xs.length/\cA e s h n c xs:=by
 rcases q.out with⟨b,g,rfl⟩|⟨n,cap,g,d,o⟩
 .cases g;omega
 cases g;exact⟨n,rfl,d,rfl,o⟩
theorem aU.append{G:Type}{e:Nat}{s:Sh G}{h0 h:ab}{b x:Option Addr}{len cap n L:Nat}{xs ys:List G}(q:aU e s h0 h (.slice b len cap) xs)(F:Sl e s h (.slice x n L) ys)(O:e∉s.tys){size bytes:Nat}(M:size=s.n)(S:bytes<=128)(P:len+n<=2^39)
 {k:Value->ab->Prop} (d:Le h0 h) (v:∀m f c' h',m=len+n->Le h0 h'->(∀tys,e∉tys->bV tys h h')->(∀j o,h j=some o->(∀c fr,o≠.cells c e fr)->h' j=some o)->aU e s h0 h' (.slice f m c') (xs++ys)->k (.slice f m c') h'):
 fS h b len cap x n size bytes e k:=by
 subst M;obtain⟨cs,K,p,w,y⟩:=F.jq;have l:=q.sl.len;have E:=F.len;have g:cap<len+n->qX h b len cap n s.n bytes e cs k:=λz=>by
  refine pL q.sl z rfl S P w p (ys:=ys) (by rw[E];exact Nat.le_refl _) (λh' hl=>?_) (λD c h' e1 r U o=>?_)
  .have:=y h' (hl.t _) [] [];simpa using this
  exact v _ _ _ h' rfl (d.trans r) (λtys _=>r.t tys) (λj o a _=>r j o a) (o.buf (d.none e1) (by rw[List.length_append,l,E]))
 refine⟨cs,K,?_⟩;by_cases W:len+n<=cap
 .refine⟨w,λ_=>?_,λz=>by omega⟩;by_cases C:n=0
  .have H:cs=[]:=List.eq_nil_of_length_eq_zero (by rw[p,C];simp);have J:ys=[]:=List.eq_nil_of_length_eq_zero (by omega);refine .inl ⟨H,v _ _ _ h rfl d (λ_ _=>bV.refl _ _) (λ_ _ a _=>a) ?_⟩;rw[J,List.append_nil,C];exact q
  rcases q.out with⟨f,t,u⟩|⟨D,V,t,u,o⟩
  .cases t;omega
  cases t;refine .inr ⟨⟨D,xs.length*s.n,none⟩,by simp[bP],?_⟩;have Q:Rows s h cs 0 ys:=by have:=y h (bV.refl _ _) [] [];simpa using this
  refine o.write (ys:=ys) O (i:=xs.length) (by omega) (by omega) (by omega) (by rw[p,E]) Q (λh' B R o'=>?_);rw[List.take_length,List.drop_eq_nil_of_le (by omega),List.append_nil]at o';refine v _ _ _ h' rfl (d.aE (by simpa using u) B) R (λj T a I=>?_) (o'.buf u (by rw[List.length_append,E]));refine B j T a ?_;intro A;simp at A;obtain⟨c,N,-⟩:=o.out;rw[A,N]at a;cases a;exact I _ _ rfl
 exact g (by omega)
theorem aR{b:Type}{e:Nat}{s:Sh b}{h:ab}{n:Nat}{cs:List Value}{x:b}(c:h n=some (.cells (List.toArray cs) e (0,0)))(r:s.R h cs x):Sl e s h (.slice (some ⟨n,0,none⟩) 1 1) [x]:=by
 have l:=s.len r;refine Sl.fresh (xs:=[x]) c ⟨by simp[l],λj y a=>?_⟩ (by simp) (by simp);have C:j=0:=by have:=(List.getElem?_eq_some_iff.1 a).1;simp at this;exact this
 subst C;simp at a;subst a;simp;rw[List.take_of_length_le (by omega)];exact r
theorem tp{A:Ar}[h:bf A]{m:Int}{s n:Nat}:A .cut (some ⟨n,0,none⟩) 0 m s=some ⟨n,0,none⟩:=by
 simp only[h.cut];split
 .rfl
 simp[bP]
theorem aK.nat{A:Ar}[h:bf A](n:Nat):aK (A .nat n) n:=⟨by rw[h.nat];rfl⟩
theorem aK.vf{A:Ar}[a:bf A]{z:Int}{i:Nat}(h:aK z i):A .ay .lss z 0=false:=by have:=h.eq;rw[aD A];exact decide_eq_false (by omega)
theorem mM{f:Type}{e:Nat}{s:Sh f}{h:ab}{n:Nat}{c d:Value}{x y:f}(b:s.n=1)(g:h n=some (.cells (List.toArray [c,d]) e (0,0)))(r:s.R h [c] x)(i:s.R h [d] y):Sl e s h (.slice (some ⟨n,0,none⟩) 2 2) [x,y]:=by
 refine Sl.fresh (xs:=[x,y]) g ⟨by simp[b],λj z a=>?_⟩ (by simp) (by simp)
 match j,a with
 |0,a=>simp at a;subst a;simpa[b]using r
 |1,a=>simp at a;subst a;simpa[b]using i
 |j+2,a=>simp at a
theorem sa{g:Type}{e:Nat}{s:Sh g}{h:ab}{n:Nat}{c d f:Value}{x y w:g}(b:s.n=1)(i:h n=some (.cells (List.toArray [c,d,f]) e (0,0)))(r:s.R h [c] x)(k:s.R h [d] y)(l:s.R h [f] w):Sl e s h (.slice (some ⟨n,0,none⟩) 3 3) [x,y,w]:=by
 refine Sl.fresh (xs:=[x,y,w]) i ⟨by simp[b],λj z a=>?_⟩ (by simp) (by simp)
 match j,a with
 |0,a=>simp at a;subst a;simpa[b]using r
 |1,a=>simp at a;subst a;simpa[b]using k
 |2,a=>simp at a;subst a;simpa[b]using l
 |j+3,a=>simp at a
theorem fI{a:Type}{L:List (List a)}{i:Nat}{x:List a}(h:L[i]? =some x):(L.take (i+1)).flatten=(L.take i).flatten++x:=by rw[List.take_add_one,h];simp
theorem tZ{a:Type}(L:List (List a))(i:Nat):(L.take i).flatten.length<=L.flatten.length:=by have:=congrArg List.length (congrArg List.flatten (List.take_append_drop i L));rw[List.flatten_append,List.length_append]at this;omega
def cR(l:List Int):Nat:=oW l 0 l.length
def gZ(l:List Int):Bool:=decide (cR l<l.length/\l.getD (cR l) 0=0)
theorem bZB(l:List Int):cR l<=l.length:=(Bd l 0 l.length (Nat.zero_le _)).1
theorem im{l:List Int}(h:gZ l=true):cR l<l.length:=(of_decide_eq_true h).1
theorem Sl.po{a:Type}{A:Ar}[k:bf A]{e:Nat}{s:Sh a}{h:ab}{b:Option Addr}{n c:Nat}{xs:List a}(q:Sl e s h (.slice b n c) xs){z:Int}{i:Nat}(u:i<=n){m c':Nat}(o:m=i)(l:c'=i):
 Sl e s h (.slice (A .cut b 0 z s.n) m c') (xs.take i):=by
 obtain⟨p,cap,f,r,t,j⟩:=q.out;cases f;subst o l;have hl:(xs.take c').length=c':=by rw[List.length_take];omega
 refine⟨_,_,by rw[hl],by rw[hl];exact Nat.le_refl _,by rw[hl];omega,?_⟩;rcases j with rfl| ⟨kE,off,cc,fr,rfl,g,d⟩
 .simp
 right;refine⟨kE,off,cc,fr,?_,g,d.take _⟩;simp only[k.cut];split
 .rfl
 simp[bP]
theorem Ki.le{h h':ab}{a:Addr}{n:Nat}{cs:List Value}(q:Ki h a n cs)(l:Le h h'):Ki h' a n cs:=by obtain⟨b,d,c,e,fr,f,g⟩:=q;exact⟨b,d,c,e,fr,l _ _ f,g⟩
theorem Sl.aXB{d:Type}{A:Ar}[bf A]{e:Nat}{s:Sh d}{h:ab}{b:Option Addr}{len cap:Nat}{xs:List d}(q:Sl e s h (.slice b len cap) xs){i:Nat}{x:d}(hx:xs[i]? =some x){n:Int}(p:n=(i:Int))
 {k:List Value->Prop} (o:∀cs,s.R h cs x->(∀h' a,Le h h'->a cs->vK h' (A.ia b n s.n) s.n a)->k cs):vK h (A.ia b n s.n) s.n k:=by
 obtain⟨t,O,j,u,v,m⟩:=q.out;cases j;rcases m with rfl| ⟨kE,off,c,fr,rfl,f,g⟩
 .simp at hx
 subst p;have r:Ki h (A.ia (some ⟨kE,off,none⟩) (i:Int) s.n) s.n ((c.toList.drop (off+i*s.n)).take s.n):=by rw[A.th];simp only[ia,Option.getD_some,Int.toNat_natCast,bP];exact mw f g hx
 exact⟨_,r,o _ (g.2 i x hx) (λh' a l E=>⟨_,r.le l,E⟩)⟩
theorem Oq{a:Type}{xs:List a}{i:Nat}(x:a)(h:i<xs.length):xs.take i++[x]++xs.drop (i+1)=xs.set i x:=by rw[List.set_eq_take_append_cons_drop,if_pos h];simp
theorem cA.setAt{c:Type}{A:Ar}[bf A]{e:Nat}{s:Sh c}{h:ab}{b cap:Nat}{xs:List c}(o:cA e s h b cap xs)(d:e∉s.tys){i:Nat}(f:i<xs.length){n:Int}(q:n=(i:Int)){z:Nat}(g:z=s.n)
 {cs:List Value} {x:c} (hx:s.R h cs x) {k:ab->Prop}
 (m:∀h',Kp [b] h h'->(∀tys,e∉tys->bV tys h h')->cA e s h' b cap (xs.set i x)->k h'):Dq h (A.ia (some ⟨b,0,none⟩) n z) cs k:=by
 subst q g;have l:=s.len hx;have p:=o.le;have W:=o.bd;rw[A.th];simp only[ia,Option.getD_some,Int.toNat_natCast,bP,Nat.zero_add];refine o.write (ys:=[x]) d (i:=i) (by omega) (by simp;omega) (by simp;omega) (by simp[l]) ⟨by simp[l],λj y a=>?_⟩ (λh' r t o'=>m h' r t ?_)
 .have C:j=0:=by have:=(List.getElem?_eq_some_iff.1 a).1;simp at this;exact this
  subst C;simp at a;subst a;simp;rw[List.take_of_length_le (by omega)];exact hx
 rw[<-Oq x f];exact o'
theorem cA.kp{a:Type}{e:Nat}{s:Sh a}{h h':ab}{n cap:Nat}{xs:List a}(o:cA e s h n cap xs){bs:List Nat}(k:Kp bs h h')(g:n∉bs)(t:bV s.tys h h'):cA e s h' n cap xs:=by obtain⟨c,b,d,f⟩:=o.out;exact⟨⟨c,k _ _ b g,d.mono t,f⟩,o.le,o.bd⟩
theorem cA.has{a:Type}{e:Nat}{s:Sh a}{h:ab}{n cap:Nat}{xs:List a}(o:cA e s h n cap xs):h n≠none:=by obtain⟨c,b,-⟩:=o.out;rw[b];simp
theorem aU.kp{c:Type}{e:Nat}{s:Sh c}{h0 h h':ab}{v:Value}{xs:List c}(q:aU e s h0 h v xs){bs:List Nat}(k:Kp bs h h')(f:∀n∈bs,h0 n≠none)(t:bV s.tys h h'):aU e s h0 h' v xs:=by
 rcases q.out with g| ⟨b,cap,d,a,o⟩
 .exact⟨.inl g⟩
 exact⟨.inr ⟨b,cap,d,a,o.kp k (λm=>f b m a) t⟩⟩
theorem AN{b:Type}{e:Nat}{s:Sh b}{h:ab}{n:Nat}{cs:List Value}{x:b}(c:h n=some (.cells (List.toArray cs) e (0,0)))(r:s.R h cs x):cA e s h n 1 [x]:=by
 have l:=s.len r;refine⟨⟨cs,c,⟨by simp[l],λj y a=>?_⟩,by simp[l]⟩,by simp,by simp⟩;have C:j=0:=by have:=(List.getElem?_eq_some_iff.1 a).1;simp at this;exact this
 subst C;simp at a;subst a;simp;rw[List.take_of_length_le (by omega)];exact r
theorem Mr{c cs new:List Value}{p off n:Nat}(d:p+n<=c.length)(a:cs=(c.drop p).take n)(hl:off+new.length<=n):fK c (p+off) new=fK c p (fK cs off new):=by
 have r:cs.length=n:=by rw[a,List.length_take,List.length_drop];omega
 have mC:(fK cs off new).length=n:=by rw[dS,r]
 apply List.ext_getElem?;intro j;rw[kM new c _ _ (by omega),kM (fK cs off new) c _ _ (by rw[mC];exact d),mC];by_cases h:p<=j/\j<p+n
 .rw[if_pos h,kM new cs _ _ (by rw[r];exact hl)];by_cases b:p+off<=j/\j<p+off+new.length
  .rw[if_pos b,if_pos (by omega)];congr 1;omega
  rw[if_neg b,if_neg (by omega),a,List.getElem?_take,if_pos (by omega),List.getElem?_drop];congr 1;omega
 rw[if_neg h,if_neg (by omega)]
theorem cA.HG{a:Type}{A:Ar}[D:bf A]{e:Nat}{s:Sh a}{h:ab}{b cap:Nat}{xs:List a}(o:cA e s h b cap xs)(t:e∉s.tys){i:Nat}{x:a}(f:xs[i]? =some x){n:Int}(j:n=(i:Int)){z:Nat}(E:z=s.n)
 {off:Nat} {new:List Value} (hl:off+new.length<=s.n) {x':a} (hx:∀cs,s.R h cs x->s.R h (fK cs off new) x') {k:ab->Prop}
 (u:∀h',Kp [b] h h'->(∀tys,e∉tys->bV tys h h')->cA e s h' b cap (xs.set i x')->k h'):Dq h (A .off (A .ia (some ⟨b,0,none⟩) n z) off) new k:=by
 have p:=(List.getElem?_eq_some_iff.1 f).1;obtain⟨c,d,q,r⟩:=o.out;have hR:=q.2 i x f;rw[Nat.zero_add]at hR;have v:=o.le;have H:i*s.n+s.n<=c.length:=by rw[r,<-Nat.succ_mul];exact Nat.mul_le_mul_right _ (by omega)
 have key:=(o.setAt (A:=A) t p j E (hx _ hR) (k:=k) u).out;subst j E;rw[A.th]at key;rw[bf.off (A:=A),bf.ia (A:=A)];simp only[ia,Option.getD_some,Int.toNat_natCast,bP,Nat.zero_add]at key |-;obtain⟨c',w,J,y,g,B,C,m⟩:=key;rw[d]at g;cases g;refine⟨c.toArray,e,(0,0),rfl,d,by simp;omega,by simp,λh' l=>m h' ?_⟩;rw[l];simp only;rw[Mr (c:=c) (n:=s.n) H rfl hl]
theorem Sl.vj{d:Type}{A:Ar}[bf A]{e:Nat}{s:Sh d}{h:ab}{b:Option Addr}{len cap:Nat}{xs:List d}(q:Sl e s h (.slice b len cap) xs){i:Nat}{x:d}(hx:xs[i]? =some x){n:Int}(y:n=(i:Int)){o m:Nat}(G:o+m<=s.n)
 {k:List Value->Prop} (w:∀cs,s.R h cs x->(∀h' a,Le h h'->a ((cs.drop o).take m)->vK h' (A .off (A .ia b n s.n) o) m a)->k ((cs.drop o).take m)):vK h (A .off (A .ia b n s.n) o) m k:=by
 obtain⟨C,O,t,D,F,u⟩:=q.out;cases t;rcases u with rfl| ⟨kE,off,c,fr,rfl,r,g⟩
 .simp at hx
 subst y;have z:=mw r g hx;have hR:=g.2 i x hx;have U:Ki h (A .off (A .ia (some ⟨kE,off,none⟩) (i:Int) s.n) o) m ((((c.toList.drop (off+i*s.n)).take s.n).drop o).take m):=by rw[bf.ia (A:=A),bf.off (A:=A)];simp only[ia,Option.getD_some,Int.toNat_natCast,bP];obtain⟨-,hl,c',f,J,p,B⟩:=z;refine⟨rfl,by rw[List.length_take,List.length_drop,hl];omega,c',f,J,p,λj v=>?_⟩;have:=B (o+j) (by omega);simp only at this |-;rw[List.getElem?_take,if_pos v,List.getElem?_drop,<-this];congr 1;omega
 exact⟨_,U,w _ hR (λh' a l E=>⟨_,U.le l,E⟩)⟩
open Go.ChangeMaps (setBlock)
variable {a:Type}{A:Ar}{left:List (Value×Value)}{xs:List a}{bytes cap e i m n p r size:Nat}{b:Option Addr}{s:Sh a}{d:TypeDesc}{k:Value->ab->Prop}{h h' h0:ab}
variable {P:Program}
theorem Mp.Tw{l:List (Value×Value)}(q:Mp h m d l):(l.map (·.1)).Nodup:=by obtain⟨e,c,g,a,b,f⟩:=q.out;rw[<-a,List.map_map];exact b.2.2
theorem XG{mt F I:TypeId}(L:P.underlying mt=some (.map F I))(hd:P.underlying F=some d){l:List (Value×Value)}(q:Mp h m d l){key v u:Value}(r:IsKey d key)(H:l[i]? =some (key,u))
  (J:∀h',Mp h' m d (l.set i (key,v))->Kp [m] h h'->(∀tys,bV tys h h')->k undef h'):
 ef (λ_=>P) (λ_=>do Instr.mapUpdate mt (.map (some m)) key v;pure undef) h k:=
 ⟨λw E=>by
  obtain⟨s,c,g,y,A,B⟩:=q.out;have C:=E _ _ g;have o:s.toList[i]?.map (λe=>(e.key,e.val))=some (key,u):=by rw[<-List.getElem?_map,y];exact H
  obtain⟨x,hx,W⟩:∃x,s.toList[i]? =some x/\(x.key,x.val)=(key,u):=by
   cases hx:s.toList[i]? with
   |none=>rw[hx]at o;cases o
   |some x=>rw[hx]at o;exact⟨x,rfl,Option.some.inj o⟩
  have K:x.key=key:=(Prod.mk.inj W).1;rcases findNow_spec r s.toList 0 B with⟨f1,f2⟩|⟨j,e,f1,f2,f3⟩
  .exact absurd K (f2 x (List.mem_of_getElem? hx))
  have D:=((stamped_iff s c).1 A).2.2;have M:j=i:=by
   have p:=List.getElem?_eq_some_iff.1 f2;have z:=List.getElem?_eq_some_iff.1 hx;rcases Nat.lt_trichotomy i j with a|heq|a
   .exfalso;have:=List.pairwise_iff_getElem.1 D i j z.1 p.1 a;rw[z.2,p.2]at this;exact this (K.trans f3.symm)
   .exact heq.symm
   exfalso;have:=List.pairwise_iff_getElem.1 D j i p.1 z.1 a;rw[z.2,p.2]at this;exact this (f3.trans K.symm)
  subst M;rw[hx]at f2;cases f2;have Q:s[j]? =some x:=by rw[<-Array.getElem?_toList];exact hx
  let f:MapEntry->MapEntry:=λe=>{ e with key:=key,val:=v };have Z:∀e,s[j]? =some e->(f e).key=e.key:=λe b=>by
   rw[Q]at b;cases b;exact K.symm
  refine⟨undef,_,_,?_,J _ ⟨s.modify j f,c,ae,?_,stamped_modify A j f (λ_ _=>rfl) (λe _ b=>Z e b),isKey_modify B j f Z⟩ (Kp.set (by simp)) (λtys=>bV.BZ g),bD.BZ E g⟩
  .have G:(Instr.keyThatStays (((s[j]?).map (·.key)).getD key) key).run P w=.ok key w:=by rw[Q];simp only[Option.map_some,Option.getD_some,K];exact run_keyThatStays r
   simp[Instr.mapUpdate,run_underlying L,Go.MapKept.run_getObj_map C,run_checkKey hd r,run_findKey hd f1,G,Go.MapKept.run_setObj_map _ C,Result.andThen,f]
  rw[<-y];apply List.ext_getElem?;intro n;rw[List.getElem?_map,Array.getElem?_toList,Array.getElem?_modify,List.getElem?_set,List.getElem?_map,Array.getElem?_toList,List.length_map];by_cases t:j=n
  .subst t;have a:j<s.toList.length:=(List.getElem?_eq_some_iff.1 hx).1;rw[if_pos rfl,if_pos rfl,if_pos a,Q];rfl
  rw[if_neg t,if_neg t]⟩
structure It(h:ab)(r m:Nat)(left:List (Value×Value))(last:Option (Value×Value)):Prop where
 out:∃es clock since seen c0,h m=some (.map es clock)/\h r=some (.mapIter (some m) since seen c0)/\(∀x∈es.toList,x.born<since)/\since<=c0/\since<=clock/\(es.toList.map (·.born)).Nodup/\
  left=(leftOf es seen).toList.map (λe=>(e.key,e.val))/\∀p,last=some p->∃e∈es.toList,(e.key,e.val)=p/\∃Sf:Array Nat,seen=Sf.push e.born/\c0=clock
theorem It.kp{l:Option (Value×Value)}(q:It h r m left l){bs:List Nat}(k:Kp bs h h')(j:r∉bs)(i:m∉bs):It h' r m left l:=by obtain⟨b,c,s,e,a,d,f,g⟩:=q.out;exact⟨b,c,s,e,a,k _ _ d i,k _ _ f j,g⟩
theorem Ot{mt f t:TypeId}(u:P.underlying mt=some (.map f t)){l:List (Value×Value)}(q:Mp h m d l)
  (K:∀r h',h r=none->Le h h'->It h' r m l none->k (.pointer (some ⟨r,0,none⟩)) h'):
 ef (λ_=>P) (λ_=>Instr.range mt (.map (some m))) h k:=
 ⟨λw a=>by
  obtain⟨s,c,g,i,b,x⟩:=q.out;have j:=a _ _ g;have n:h w.heap.size=none:=by
   cases he:h w.heap.size with
   |none=>rfl
   |some o=>have:=a _ _ he;simp at this
  refine⟨_,_,_,run_range_map w mt f t m s c u j,K w.heap.size (bu h w.heap.size (.mapIter (some m) c #[] c)) n (Le.set n) ?_,?_⟩
  .have F:m≠w.heap.size:=λe=>by rw[<-e,g]at n;cases n
   refine⟨s,c,c,#[],c,by rw[bN F];exact g,ae,b.1,Nat.le_refl _,Nat.le_refl _,b.2.1,?_,λp v=>(by cases v)⟩;rw[<-i];simp[leftOf];rw[List.filter_eq_self.2 (λ_ _=>rfl)]
  exact bD.new a _⟩
theorem sH{a:Array MapEntry}{s:Array Nat}{e:MapEntry}:(leftOf a (s.push e.born)).toList=(leftOf a s).toList.filter (λx=>x.born !=e.born):=by
 simp only[leftOf,Array.toList_filter,List.filter_filter];refine List.filter_congr (λx _=>?_);simp only[Array.contains_eq_mem,Array.mem_push,Bool.not_eq_eq_eq_not];by_cases hx:x.born=e.born
 .simp[hx]
 by_cases h:x.born∈s<;>simp[hx,h]
theorem Se{ty:TypeId}{u:Option (Value×Value)}(q:It h r m left u)
  (h0:left=[]->k (.tuple #[.bool false]) h)
 (O:∀key val H h',(key,val)∈left->(∀p∈left,p=(key,val)\/p∈H)->(∀p∈H,p∈left)->H.length<left.length->It h' r m H (some (key,val))->Kp [r] h h'->(∀tys,bV tys h h')->k (.tuple #[.bool true,key,val]) h'):
 ef (λ_=>P) (λ_=>Instr.next (.pointer (some ⟨r,0,none⟩)) false ty) h k:=
 ⟨λw t=>by
  obtain⟨g,l,i,s,z,y,n,A,M,Q,B,o,T⟩:=q.out;rcases run_next_at (P:=P) w ty r m i z s g l (t _ _ n) (t _ _ y) A M with⟨f1,f2⟩|⟨e,f1,v,f2,f3⟩
  .refine⟨_,_,_,f2,h0 ?_,bD.refl t⟩;rw[o];have:(leftOf g s).toList=[]:=by apply List.eq_nil_of_length_eq_zero;simpa using f1
   rw[this];rfl
  have G:e∈g.toList:=by have:e∈(leftOf g s).toList:=f1;simp only[leftOf,Array.toList_filter,List.mem_filter]at this;exact this.1
  have L:m≠r:=λe=>by rw[e,n]at y;cases y
  refine⟨_,_,bu h r (.mapIter (some m) i (s.push e.born) l),f3,O e.key e.val ((leftOf g (s.push e.born)).toList.map (λe=>(e.key,e.val))) _ ?_ ?_ ?_ ?_ ?_ (Kp.set (by simp)) ?_,?_⟩
  .rw[o];exact List.mem_map.2 ⟨e,f1,rfl⟩
  .intro p f;rw[o]at f;obtain⟨x,hx,rfl⟩:=List.mem_map.1 f;by_cases d:x.born=e.born
   .left;have V:x∈g.toList:=by simp only[leftOf,Array.toList_filter,List.mem_filter]at hx;exact hx.1
    obtain⟨a,D⟩:=List.getElem?_of_mem V;obtain⟨b,I⟩:=List.getElem?_of_mem G;have:a=b:=by
     obtain⟨Z,j⟩:=List.getElem?_eq_some_iff.1 D;obtain⟨E,N⟩:=List.getElem?_eq_some_iff.1 I;have f:=List.pairwise_iff_getElem.1 B;rcases Nat.lt_trichotomy a b with F|heq|F
     .exfalso;have:=f a b (by simpa using Z) (by simpa using E) F;rw[List.getElem_map,List.getElem_map,j,N]at this;exact this d
     .exact heq
     exfalso;have:=f b a (by simpa using E) (by simpa using Z) F;rw[List.getElem_map,List.getElem_map,j,N]at this;exact this d.symm
    subst this;rw[D]at I;cases I;rfl
   right;refine List.mem_map.2 ⟨x,?_,rfl⟩;rw[sH,List.mem_filter];exact⟨hx,by simpa using d⟩
  .intro p f;obtain⟨x,hx,rfl⟩:=List.mem_map.1 f;rw[sH,List.mem_filter]at hx;rw[o];exact List.mem_map.2 ⟨x,hx.1,rfl⟩
  .rw[o,List.length_map,List.length_map,sH];refine Nat.lt_of_le_of_ne (List.length_filter_le _ _) (λR=>?_);have:=List.length_filter_eq_length_iff.1 R e f1;simp at this
  .exact⟨g,l,i,s.push e.born,l,by rw[bN L];exact y,ae,A,Q,Q,B,rfl,λp f=>by cases f;exact⟨e,G,rfl,s,rfl,rfl⟩⟩
  .intro tys b c S fr _ d;rw[bN (λe=>by rw[e,n]at d;cases d)];exact d
  have J:v.heap=w.heap/\v.os=w.os/\v.tape=w.tape/\v.output=w.output:=by
   rcases f2 with rfl|rfl
   .exact⟨rfl,rfl,rfl,rfl⟩
   exact⟨rfl,rfl,rfl,rfl⟩
  have d:v.heap[r]? =some (.mapIter (some m) i s z):=by rw[J.1];exact t _ _ n
  have C:=heap_set (o':=Obj.mapIter (some m) i (s.push e.born) l) d;exact bD.set t n C.1 (λb K=>by rw[<-J.1];exact C.2 b K) (by simp[setBlock,J.1]) ⟨J.2.1,J.2.2.1,J.2.2.2⟩⟩
theorem Ou{p:Value×Value}(q:It h r m left (some p))(K:k (.tuple #[p.1,p.2]) h):
 ef (λ_=>P) (λ_=>Instr.entry (.pointer (some ⟨r,0,none⟩))) h k:=
 ⟨λw a=>by
  obtain⟨f,c,s,n,d,j,l,u,v,b,o,x,t⟩:=q.out;obtain⟨e,g,i,S,rfl,rfl⟩:=t p rfl;refine⟨_,w,h,run_entry_at w r m s S f d e (a _ _ l) (a _ _ j) g o,?_,bD.refl a⟩;rw[<-i]at K;exact K⟩
structure jK{α:Type}(e:Nat)(s:Sh α)(h0 h:ab)(v:Value)(xs:List α)(p:Nat):Prop where
 out:(∃b,v=.slice b 0 0/\xs=[])\/∃nb cap pre,v=.slice (some ⟨nb,pre.length*s.n,none⟩) xs.length (cap-pre.length)/\h0 nb=none/\cA e s h nb cap (pre++xs)/\(pre++xs).length<=p
theorem aU.t{v:Value}(q:aU e s h0 h v xs)(d:xs.length<=p):jK e s h0 h v xs p:=by
 rcases q.out with g| ⟨n,cap,b,c,o⟩
 .exact⟨.inl g⟩
 exact⟨.inr ⟨n,cap,[],by simpa using b,c,by simpa using o,by simpa using d⟩⟩
theorem jK.sl{v:Value}(q:jK e s h0 h v xs p):Sl e s h v xs:=by
 rcases q.out with⟨b,rfl,rfl⟩|⟨n,cap,pre,rfl,-,o,-⟩
 .exact Sl.nil
 have l:=o.le;have W:=o.bd;rw[List.length_append]at l W;obtain⟨c,d,f,g⟩:=o.out;have:=f.drop (i:=pre.length) (by simp);rw[List.drop_left,Nat.zero_add]at this;exact⟨_,_,rfl,by omega,by omega,.inr ⟨n,_,_,_,rfl,d,this⟩⟩
theorem jK.mono{b:Type}{s:Sh b}{v:Value}{xs:List b}(q:jK e s h0 h v xs p)(hl:bV (e::s.tys) h h'):jK e s h0 h' v xs p:=by
 rcases q.out with a| ⟨n,cap,pre,a,c,o,d⟩
 .exact⟨.inl a⟩
 exact⟨.inr ⟨n,cap,pre,a,c,o.mono hl,d⟩⟩
theorem jK.tail{d:Type}[g:bf A]{s:Sh d}{len:Nat}{x:d}{r:List d}(q:jK e s h0 h (.slice b len cap) (x::r) p){z:Int}(v:aK z 1){c':Nat}(t:m=len-1)(k:c'=cap-1):
 jK e s h0 h (.slice (A .cut b z (A .nat cap) s.n) m c') r p:=by
 have j:=v.eq;rcases q.out with⟨b,f,a⟩|⟨n,c,pre,f,a,o,u⟩
 .cases a
 cases f;subst t k;have l:=o.le;rw[List.length_append,List.length_cons]at l;simp only[g.cut,g.nat,Int.ofNat_eq_natCast];refine⟨?_⟩;by_cases G:((c-pre.length:Nat):Int)=z
 .left;rw[if_pos G];have i:r=[]:=List.eq_nil_of_length_eq_zero (by omega);refine⟨some ⟨n,pre.length*s.n,none⟩,?_,i⟩;rw[i];simp only[List.length_cons,List.length_nil];rw[show c-pre.length-1=0 by omega]
 right;rw[if_neg G];refine⟨n,c,pre++[x],?_,a,by simpa using o,by simpa using u⟩;simp[bP,j,Nat.add_mul];omega
theorem jK.append{H:Type}{s:Sh H}{x:Option Addr}{len N:Nat}{xs ys:List H}(q:jK e s h0 h (.slice b len cap) xs p)(G:Sl e s h (.slice x n N) ys)(Q:e∉s.tys)(O:size=s.n)(V:bytes<=128)(R:len+n<=2^39)(X:p+n<=2^40)(Z:len<=p)
  (d:Le h0 h) (w:∀m g c' h',m=len+n->Le h0 h'->(∀tys,e∉tys->bV tys h h')->jK e s h0 h' (.slice g m c') (xs++ys) (p+n)->(∀j o,h j=some o->(∀c fr,o≠.cells c e fr)->h' j=some o)->k (.slice g m c') h'):
 fS h b len cap x n size bytes e k:=by
 subst O;obtain⟨cs,L,r,A,B⟩:=G.jq;have l:=q.sl.len;have E:=G.len;refine⟨cs,L,?_⟩;by_cases sV:len+n<=cap
 .refine⟨A,λ_=>?_,λhg=>by omega⟩;by_cases F:n=0
  .have I:cs=[]:=List.eq_nil_of_length_eq_zero (by rw[r,F];simp);have J:ys=[]:=List.eq_nil_of_length_eq_zero (by omega);refine .inl ⟨I,w _ _ _ h rfl d (λ_ _=>bV.refl _ _) ?_ (λ_ _ a _=>a)⟩;rw[J,List.append_nil,F];exact q
  rcases q.out with⟨g,u,v⟩|⟨f,M,pre,u,v,o,S⟩
  .cases u;omega
  cases u;have y:=o.le;have W:=S;rw[List.length_append]at y W;refine .inr ⟨⟨f,(pre++xs).length*s.n,none⟩,by simp[bP,Nat.add_mul],?_⟩;have T:Rows s h cs 0 ys:=by have:=B h (bV.refl _ _) [] [];simpa using this
  refine o.write (ys:=ys) Q (i:=(pre++xs).length) (Nat.le_refl _) (by rw[List.length_append];omega) (by rw[List.length_append];omega) (by rw[r,E]) T (λh' D U o'=>?_);rw[List.take_length,List.drop_eq_nil_of_le (by omega),List.append_nil,List.append_assoc]at o';refine w _ _ _ h' rfl (d.aE (by simpa using v) D) U ⟨.inr ⟨f,M,pre,by rw[List.length_append,E],v,o',by simp;omega⟩⟩ (λj z a K=>?_);refine D j z a ?_;intro C;simp at C;obtain⟨c,P,-⟩:=o.out;rw[C,P]at a;cases a;exact K _ _ rfl
 refine pL q.sl (by omega) rfl V R A r (ys:=ys) (by rw[E];exact Nat.le_refl _) (λh' hl=>?_) (λf c h' e1 t Y o=>?_)
 .have:=B h' (hl.t _) [] [];simpa using this
 refine w _ _ _ h' rfl (d.trans t) (λtys _=>t.t tys) ⟨.inr ⟨f,c,[],by simp[l,E],d.none e1,by simpa using o,by simp;omega⟩⟩ (λj z a _=>t j z a)
structure GZ{α:Type}(s:Sh α)(h:ab)(v:Value)(xs:List α):Prop where
 out:∃b cap,v=.slice b xs.length cap/\xs.length<=2^50/\(xs=[]\/∃kE off c e fr,b=some ⟨kE,off,none⟩/\h kE=some (.cells c e fr)/\Rows s h c.toList off xs)
theorem Sl.yJ[bf A]{len:Nat}(q:Sl e s h (.slice b len cap) xs){x:a}(hx:xs[i]? =some x){n:Int}(p:n=(i:Int)){o1 o2:Nat}(r:o1+o2+m<=s.n)
 {k:List Value->Prop} (l:∀cs,s.R h cs x->k ((cs.drop (o1+o2)).take m)):vK h (A .off (A .off (A .ia b n s.n) o1) o2) m k:=by
 have:=(q.bT (A:=A) hx p (o:=o1+o2) (m:=m) r l).out;obtain⟨t,O,f,w,y,j⟩:=q.out;cases f;rcases j with rfl| ⟨kE,off,c,fr,rfl,u,v⟩
 .simp at hx
 obtain⟨cs,g,d⟩:=this;refine⟨cs,?_,d⟩;rw[bf.ia (A:=A),bf.off (A:=A)]at g |-;simp only[ia,Option.getD_some,bP]at g |-;simpa[Nat.add_assoc]using g
theorem cA.xM{d:Type}{s:Sh d}{b:Nat}{xs ys:List d}(o:cA e s h b cap xs)(t:e∉s.tys)(u:i<=xs.length){x:Option Addr}(q:Sl e s h (.slice x n p) ys)(A:i+n<=cap)(z:i+n<=2^40)
  (r:size=s.n) 
 (a:∀h' m,m=i+n->Kp [b] h h'->(∀tys,e∉tys->bV tys h h')->cA e s h' b cap (xs.take i++ys++xs.drop (i+n))->k (.slice (some ⟨b,0,none⟩) m cap) h'):
 fS h (some ⟨b,0,none⟩) i cap x n size bytes e k:=by
 subst r;obtain⟨cs,g,c,j,l⟩:=q.jq;have E:=q.len;refine⟨cs,g,j,λ_=>?_,λB=>by omega⟩;by_cases C:n=0
 .have f:cs=[]:=List.eq_nil_of_length_eq_zero (by rw[c,C];simp);have J:ys=[]:=List.eq_nil_of_length_eq_zero (by omega);refine .inl ⟨f,a h _ rfl (Kp.refl _ _) (λ_ _=>bV.refl _ _) ?_⟩;rw[J,List.append_nil,C,Nat.add_zero,List.take_append_drop];exact o
 refine .inr ⟨⟨b,i*s.n,none⟩,by simp[bP],?_⟩;have v:Rows s h cs 0 ys:=by have:=l h (bV.refl _ _) [] [];simpa using this
 refine o.write (ys:=ys) t (i:=i) u (by omega) (by omega) (by rw[c,E]) v (λh' w y o'=>?_);rw[<-E]at o';exact a h' _ rfl w y o'
theorem cA.Vw{b:Nat}(o:cA e s h b cap xs)(f:e∉s.tys){z:List Value}(c:iA z=true)(j:z.length=s.n)(i:xs.length<=p)(d:p+n<=cap){k:ab->Prop}
 (g:∀h',Kp [b] h h'->(∀tys,e∉tys->bV tys h h')->cA e s h' b cap xs->k h'):vL h (some ⟨b,p*s.n,none⟩) n z k:=by
 refine⟨c,.inr ⟨_,rfl,?_⟩⟩;refine o.XJ f (Nat.mul_le_mul_right _ i) ?_ g;rw[eQ,j,<-Nat.add_mul];exact Nat.mul_le_mul_right _ d
theorem erase_eq(h:i<xs.length):(xs.take i++xs.drop (i+1)++xs.drop (i+(xs.length-(i+1)))).take (xs.length-1)=xs.eraseIdx i:=by rw[List.take_append_of_le_length (by simp;omega),List.eraseIdx_eq_take_drop_succ,List.take_of_length_le (by simp;omega)]
def iP(h:ab)(n:Nat):ab:=λb=>if b=n then none else h b
theorem qK(h:ab)(n:Nat):Le (iP h n) h:=λb o a=>by
 unfold iP at a;split at a
 .cases a
 exact a
theorem lR(h:ab)(n:Nat):iP h n n=none:=by unfold iP;rw[if_pos rfl]
theorem nt{b:Nat}(a:b≠n):iP h n b=h b:=by unfold iP;rw[if_neg a]
variable {P:Program}
end Go.Sx
