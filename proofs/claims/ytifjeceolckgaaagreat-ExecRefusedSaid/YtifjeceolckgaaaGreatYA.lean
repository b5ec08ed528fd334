import Derived.Test.YtifjeceolckgaaaGreatQC
set_option linter.all false
set_option maxRecDepth 100000
set_option maxHeartbeats 8000000
namespace Go.S
open Go.Sx Go.Proofs
variable {a:Type}{A:Ar}{f:FuncId}{w z za zb:Int}{C P Q X d e:List (Tg Row)}{L:List a}{b c cap i j n u:Nat}{W kW:Row->Prop}{x y:Tg Row}{g p p0 p1:Value}{k:Value->ad->Prop}{h h0:ad}
def cJl{α:Type}(l:List α)(i j:Nat):List α:=match l[i]?,l[j]? with
 |some x,some y=>(l.set i y).set j x
 |_,_=>l
theorem LI{l:List a}{x y:a}(h:l[i]? =some x)(b:l[j]? =some y):cJl l i j=(l.set i y).set j x:=by unfold cJl;rw[h,b]
def LJ{α:Type}:Nat->List α->Nat->Nat->List α
 |0,l,_,_=>l
 |n+1,l,i,j=>LJ n (cJl l i j) (i+1) (j+1)
theorem XG{c:Type}(h:i<n)(l:List c)(a b:Nat):LJ (n-i) l (a+i) (b+i)=LJ (n-(i+1)) (cJl l (a+i) (b+i)) (a+(i+1)) (b+(i+1)):=by
 have:n-i=(n-(i+1))+1:=by omega
 rw[this];rfl
theorem vJ[a:bM A](c:aS z i)(b:aS w j)(h:i+j<2^62):aS (A .bB .add .i64 z w) (i+j):=by have d:=c.eq;have e:=b.eq;constructor;rw[a.bB];show IntKind.wrap .i64 (z+w)=_;rw[IntWalk.i64_in _ (by omega)];omega
theorem ff[a:bM A](c:aS z i)(b:aS w j)(h:j<=i)(f:i<2^62):aS (A .bB .sub .i64 z w) (i-j):=by have d:=c.eq;have e:=b.eq;constructor;rw[a.bB];show IntKind.wrap .i64 (z-w)=_;rw[IntWalk.i64_in _ (by omega)];omega
abbrev cR(h:ad)(nb cap:Nat)(xs:List Row):Prop:=fX 84 aD h nb cap xs
theorem LK{xs:List Row}(o:cR h c cap xs){len:Nat}(l:len=xs.length){B C:Int}{a:Nat}(ha:aS w a)(hb:aS B b)(hn:aS C n)(Gn:a+n<=len)(ab:b+n<=len)(f:Value)
 (u:∀h',Kp [c] h h'->bR [86] h h'->cR h' c cap (LJ n xs a b)->k (.tuple #[]) h'):
 Ct 322 [.slice (some ⟨c,0,none⟩) len cap,.int .i64 w,.int .i64 B,.int .i64 C,f] h k:=by
 have Qd:=o.bd;obtain⟨I,Y⟩:∃I:Nat->Int->ad->Prop,∀m g h',I m g h'=∃i ys,aS g i/\i<=n/\m=n-i/\Kp [c] h h'/\bR [86] h h'/\cR h' c cap ys/\ys.length=len/\LJ (n-i) ys (a+i) (b+i)=LJ n xs a b:=⟨_,λ_ _ _=>rfl⟩;have J:I n 0 h:=by rw[Y];exact⟨0,xs,⟨rfl⟩,mQC _,rfl,Kp.refl _ _,bR.refl _ _,o,l.symm,rfl⟩
 refine mQx fKm Tryz.func322 λA hA=>?_;cbv;refine aX.go (G:=Int) (λg=>[(10,.v (.int .i64 g))]) (λ_=>[]) (λm g h'=>I m g h') n 0 (by constructor<;>cbv) J ?_
 intro m z h1 M;rw[Y]at M;cbv;obtain⟨i,ys,t,hi,hm,S,T,o1,D,s⟩:=M;have f1:A .aI .lss z C=decide (i<n):=t.iJ hn;rw[f1];by_cases P:i<n
 .have e:=vJ (A:=A) ha t (by omega);have Q:=vJ (A:=A) hb t (by omega);obtain⟨p,N⟩:∃p,A .bB .add .i64 w z=p:=⟨_,rfl⟩;obtain⟨r,O⟩:∃r,A .bB .add .i64 B z=r:=⟨_,rfl⟩;rw[N]at e;rw[O]at Q;obtain⟨x,hx⟩:=mQA ys (a+i);obtain⟨y,R⟩:=mQA ys (b+i);have K:=e.eq;have j:=Q.eq;have F:(some (⟨c,0,none⟩:Addr)).isSome=true/\0<=p/\p<(len:Int):=⟨rfl,e.ix (by omega)⟩;have H:(some (⟨c,0,none⟩:Addr)).isSome=true/\0<=r/\r<(len:Int):=⟨rfl,Q.ix (by omega)⟩;have sl:=o1.sl D.symm;have Z:=t.succ (A:=A);obtain⟨v,L⟩:∃v,A .bB .add .i64 z 1=v:=⟨_,rfl⟩;rw[L]at Z;rw[XG P,LI hx R]at s;obtain⟨q,sf⟩:∃q,q=n-(i+1):=⟨_,rfl⟩;have sh:q<m:=by omega
  have E:∀d,Kp [c] h d->bR [86] h d->cR d c cap ((ys.set (a+i) y).set (b+i) x)->I q v d:=λd e1 e2 e3=>by
   rw[Y];exact⟨i+1,_,Z,P,sf,e1,e2,e3,by simp[D],s⟩
  have V:a+i<ys.length:=by omega
  have W:b+i<(ys.set (a+i) y).length:=by rw[mXv];omega
  clear Y J u;rw[mQu P];cbv;rw[O];refine⟨H,?_⟩;cbv;refine bZ sl R j (λyb yn yc qy=>?_);cbv;rw[N];refine⟨F,?_⟩;cbv;refine bZ sl hx K (λxb xn xc qx=>?_);cbv;refine⟨F,?_⟩;cbv;refine o1.setAt (by decide) (i:=a+i) V K rfl (x:=y) ⟨_,rfl,qy⟩ (λh2 k2 U o2=>?_);have X:=qx.mono (U [86] (by decide));cbv;refine⟨H,?_⟩;cbv;refine o2.setAt (by decide) (i:=b+i) W j rfl (x:=x) ⟨_,rfl,X⟩ (λd k3 t3 o3=>?_);have jd:=E d ((S.trans k2).trans k3) ((T.trans (U _ (by decide))).trans (t3 _ (by decide))) o3;clear E;cbv;rw[L];refine⟨q,_,sh,by constructor<;>cbv,jd⟩
 have lW:i=n:=by omega
 subst lW;rw[mXK]at s;have af:=u h1 S T (by rw[<-s];exact o1);clear Y J u;rw[mQv P];cbv;exact af
theorem LH(P M Q:List a)(x y:a):cJl (P++x::M++y::Q) P.length (P.length+1+M.length)=P++y::M++x::Q:=by
 have h:(P++x::M++y::Q)[P.length]? =some x:=by simp
 have b:(P++x::M++y::Q)[P.length+1+M.length]? =some y:=by
  rw[mXJ (by simp;omega)];simp;have:P.length+1+M.length-(P.length+(M.length+1))=0:=by omega
  rw[this];rfl
 rw[LI h b];have c:(P++x::M++y::Q).set P.length y=P++y::M++y::Q:=by rw[mXk,mJv _ _ (mQD _),mXK];simp
 rw[c,mJv _ _ (by simp;omega)];have:P.length+1+M.length-(P++y::M).length=0:=by simp;omega
 rw[this];rfl
theorem Oq{f:Type}:∀(X Y P M Q:List f),X.length=Y.length->LJ X.length (P++X++M++Y++Q) P.length (P.length+X.length+M.length)=P++Y++M++X++Q
 | [],[],P,M,Q,_=>by simp[LJ]
 | [],y::Y,_,_,_,h=>by simp at h
 |x::X,[],_,_,_,h=>by simp at h
 |x::X,y::Y,P,M,Q,h=>by
  have l:X.length=Y.length:=by simpa using h
  show LJ X.length (cJl (P++x::X++M++y::Y++Q) P.length (P.length+(X.length+1)+M.length)) (P.length+1) (P.length+(X.length+1)+M.length+1)=_;have e:P++x::X++M++y::Y++Q=P++x::(X++M)++y::(Y++Q):=by simp
  have a:P.length+(X.length+1)+M.length=P.length+1+(X++M).length:=by simp;omega
  rw[e,a,LH];have b:P++y::(X++M)++x::(Y++Q)=(P++[y])++X++(M++[x])++Y++Q:=by simp
  have c:P.length+1=(P++[y]).length:=by simp
  have d:P.length+1+(X++M).length+1=(P++[y]).length+X.length+(M++[x]).length:=by simp;omega
  rw[b,d,c,Oq X Y (P++[y]) (M++[x]) Q l];simp
theorem AG{P X M Y Q:List Row}(o:cR h c cap (P++X++M++Y++Q)){len:Nat}(l:len=(P++X++M++Y++Q).length)(u:X.length=Y.length){d e:Int}{a:Nat}(m:aS z a)(p:aS d b)(r:aS e n)(g:a=P.length)(i:b=P.length+X.length+M.length)(j:n=X.length)(f:Value)
 (q:∀h',Kp [c] h h'->bR [86] h h'->cR h' c cap (P++Y++M++X++Q)->k (.tuple #[]) h'):
 Ct 322 [.slice (some ⟨c,0,none⟩) len cap,.int .i64 z,.int .i64 d,.int .i64 e,f] h k:=by
 subst g i j;simp only[mQy]at l;refine LK o (by simp only[mQy];omega) m p r (by omega) (by omega) f (λh' s t o'=>?_);rw[Oq X Y P M Q u]at o';exact q h' s t o'
theorem Yi{q:Nat}{P X Y Q:List Row}(o:cR h q cap (P++X++Y++Q)){len:Nat}(D:len=(P++X++Y++Q).length){S:Int}{a m:Nat}(ha:aS za a)(R:aS S m)(hb:aS zb b)(ea:a=P.length)(em:m=P.length+X.length)(eb:b=P.length+X.length+Y.length)(hx:X≠[])(hy:Y≠[])(f:Value)
 (hk:∀h',Kp [q] h h'->bR [86] h h'->cR h' q cap (P++Y++X++Q)->k (.tuple #[]) h'):
 Ct 305 [.slice (some ⟨q,0,none⟩) len cap,.int .i64 za,.int .i64 S,.int .i64 zb,f] h k:=by
 obtain⟨A,hA⟩:=Ar.ex;have Qd:=o.bd;have tG:len=P.length+X.length+Y.length+Q.length:=by rw[D];simp only[mQy]
 rw[<-D]at Qd;obtain⟨zi,qA⟩:∃z,A .bB .sub .i64 S za=z:=⟨_,rfl⟩;obtain⟨zj,Rz⟩:∃z,A .bB .sub .i64 zb S=z:=⟨_,rfl⟩;have ni:aS zi X.length:=by have:=ff (A:=A) R ha (by omega) (by omega);rw[qA]at this;rw[show X.length=m-a by omega];exact this
 have nj:aS zj Y.length:=by have:=ff (A:=A) hb R (by omega) (by omega);rw[Rz]at this;rw[show Y.length=b-m by omega];exact this
 obtain⟨I,E⟩:∃I:Nat->Int×Int->ad->Prop,∀n g h',I n g h'=∃p c d B,aS g.1 c.length/\aS g.2 d.length/\c≠[]/\d≠[]/\P.length+p.length+c.length=m/\n=c.length+d.length/\p++(d++c)++B=Y++X/\Kp [q] h h'/\bR [86] h h'/\cR h' q cap ((P++p)++c++d++(B++Q)):=⟨_,λ_ _ _=>rfl⟩;have hJ:I (X.length+Y.length) (zi,zj) h:=by rw[E];exact⟨[],X,Y,[],ni,nj,hx,hy,by simp;omega,rfl,by simp,Kp.refl _ _,bR.refl _ _,by simpa using o⟩
 refine mQF fKC A Tryz.func305 ?_;clear ni nj;obtain⟨mz,FH⟩:∃mz,mz=X.length+Y.length:=⟨_,rfl⟩;rw[<-FH]at hJ;cbv;rw[qA,Rz];refine aX.go (G:=Int×Int) (λg=>[(10,.v (.int .i64 g.1)),(11,.v (.int .i64 g.2))]) (λ_=>[]) (λm g h'=>I m g h') mz (zi,zj) (by constructor<;>cbv) hJ ?_
 intro mm g M hI;rw[E]at hI;cbv;obtain⟨p,c,d,B,r,s,hX,hY,ag,sf,y,k1,t1,o1⟩:=hI;obtain⟨C,L⟩:=g;replace r:aS C c.length:=r;replace s:aS L d.length:=s;obtain⟨i,ke⟩:∃i,i=c.length:=⟨_,rfl⟩;obtain⟨j,tX⟩:∃j,j=d.length:=⟨_,rfl⟩;have wE:P.length+p.length+i+j+B.length+Q.length=len:=by have:=congrArg List.length y;simp only[mQy]at this;omega
 have Jf:0<i:=by rw[ke];exact mKa.2 hX
 have Cy:0<j:=by rw[tX];exact mKa.2 hY
 rw[<-ke]at r sf ag;rw[<-tX]at s sf;have f1:A .aI .neq C L=decide (i≠j):=by rw[aC A,decide_eq_decide];have:=r.eq;have:=s.eq;omega
 have f2:A .aI .gtr C L=decide (i>j):=by rw[bO A,decide_eq_decide];have:=r.eq;have:=s.eq;omega
 have n1:=ff (A:=A) R r (by omega) (by omega);obtain⟨z1,jV⟩:∃z,A .bB .sub .i64 S C=z:=⟨_,rfl⟩;rw[jV]at n1;rw[f1];by_cases T:i=j
 .subst T;rw[mQv (by omega)];clear E hJ;cbv;rw[jV];have J:cR M q cap ((P++p)++c++[]++d++(B++Q)):=by simpa using o1
  refine AG J (by simp only[mQy,mQS];omega) (by omega) n1 R r (by simp only[mQy];omega) (by simp only[mQy,mQS];omega) ke f (λl k2 t2 o2=>?_);have af:=hk l (k1.trans k2) (t1.trans t2) (by
   have e:P++Y++X++Q=P++p++d++[]++c++(B++Q):=by
    have:P++Y++X++Q=P++(Y++X)++Q:=by simp
    rw[this,<-y];simp
   rw[e];exact o2)
  clear hk;cbv;exact af
 rw[mQu T];cbv;rw[f2];by_cases RH:i>j
 .obtain⟨t,u,ab,x⟩:∃t u,c=t++u/\t.length=j:=⟨c.take j,c.drop j,(mXo j c).symm,by rw[mQK];omega⟩;have K:u.length=i-j:=by have:=congrArg List.length ab;rw[mQy]at this;omega
  subst ab;have n3:=ff (A:=A) r s (by omega) (by omega);obtain⟨z3,ui⟩:∃z,A .bB .sub .i64 C L=z:=⟨_,rfl⟩;rw[ui]at n3;have J:cR M q cap ((P++p)++t++u++d++(B++Q)):=by simpa using o1
  have F:∀l,Kp [q] M l->bR [86] M l->cR l q cap ((P++p)++d++u++t++(B++Q))->I (u.length+t.length) (z3,L) l:=λl e1 e2 e3=>by
   rw[E];refine⟨p++d,u,t,B,by rw[K];exact n3,by rw[x];exact s,λe=>?_,λe=>?_,by rw[mQy];omega,rfl,by rw[<-y];simp,k1.trans e1,t1.trans e2,by simpa using e3⟩
   .rw[e]at K;simp at K;omega
   rw[e]at x;simp at x;omega
  have sh:u.length+t.length<mm:=by omega
  obtain⟨O,Z⟩:∃O,O=u.length+t.length:=⟨_,rfl⟩;rw[<-Z]at F sh;rw[mQu RH];clear E hJ hk;cbv;rw[jV];refine AG J (by simp only[mQy];omega) (by omega) n1 R s (by simp only[mQy];omega) (by simp only[mQy];omega) x.symm f (λl k2 t2 o2=>?_);have jd:=F l k2 t2 o2;clear F;cbv;rw[ui];refine⟨O,(_,_),sh,by constructor<;>cbv,jd⟩
 obtain⟨v,w,W,H⟩:∃v w,d=v++w/\v.length=j-i:=⟨d.take (j-i),d.drop (j-i),(mXo _ d).symm,by rw[mQK];omega⟩;have N:w.length=i:=by have:=congrArg List.length W;rw[mQy]at this;omega
 subst W;have n3:=ff (A:=A) s r (by omega) (by omega);obtain⟨z3,ui⟩:∃z,A .bB .sub .i64 L C=z:=⟨_,rfl⟩;rw[ui]at n3;have n4:=vJ (A:=A) R s (by omega);obtain⟨z4,U⟩:∃z,A .bB .add .i64 S L=z:=⟨_,rfl⟩;rw[U]at n4;have n5:=ff (A:=A) n4 r (by omega) (by omega);obtain⟨z5,V⟩:∃z,A .bB .sub .i64 z4 C=z:=⟨_,rfl⟩;rw[V]at n5;have J:cR M q cap ((P++p)++c++v++w++(B++Q)):=by simpa using o1
 have F:∀l,Kp [q] M l->bR [86] M l->cR l q cap ((P++p)++w++v++c++(B++Q))->I (w.length+v.length) (C,z3) l:=λl e1 e2 e3=>by
  rw[E];refine⟨p,w,v,c++B,by rw[N];exact r,by rw[H];exact n3,λe=>?_,λe=>?_,by omega,rfl,by rw[<-y];simp,k1.trans e1,t1.trans e2,by simpa using e3⟩
  .rw[e]at N;simp at N;omega
  rw[e]at H;simp at H;omega
 have sh:w.length+v.length<mm:=by omega
 obtain⟨O,Z⟩:∃O,O=w.length+v.length:=⟨_,rfl⟩;rw[<-Z]at F sh;rw[mQv RH];clear E hJ hk;cbv;rw[jV,U];cbv;rw[V];refine AG J (by simp only[mQy];omega) (by omega) n1 n5 r (by simp only[mQy];omega) (by simp only[mQy];omega) ke f (λl k2 t2 o2=>?_);have jd:=F l k2 t2 o2;clear F;cbv;rw[ui];refine⟨O,(_,_),sh,by constructor<;>cbv,jd⟩
structure Jb(lt:Row->Row->Bool)(f:FuncId)(p0 p1:Value)(nb:Nat)(h0:ad)(kW:Row->Prop):Prop where
 ap:∀ {h':ad} {x y:Row} {bx:Option Addr} {nx cx:Nat} {eJe:Option Addr} {ny cy:Nat},Kp [nb] h0 h'->bR [86] h0 h'->kW x->kW y->Sl 86 bq h' (.slice bx nx cx) x->Sl 86 bq h' (.slice eJe ny cy) y->
 ∀ {k:Value->ad->Prop},(∀kY z,Le h' kY->(z<0↔lt x y=true)->k (.int .i64 z) kY)->Ct f [.slice bx nx cx,.slice eJe ny cy,p0,p1] h' k
theorem Jb.sub{lt:Row->Row->Bool}{a:Value}{P:Row->Prop}(c:Jb lt f p a n h0 P)(k:Kp [n] h0 h)(t:bR [86] h0 h):Jb lt f p a n h P:=⟨λb e hx y q d=>c.ap (k.trans b) (t.trans e) hx y q d⟩
def bT(c:List (Tg Row)):List Row:=c.map Prod.fst
theorem iO(c:List (Tg Row)):(bT c).length=c.length:=mQN ..
theorem yZ(h:n=P.length):(bT (P++x::Q))[n]? =some x.1:=by subst h;simp[bT]
theorem MB{lt:Row->Row->Bool}(sw:FQ lt)(hf:aG f=true){e:Nat}(o:cR h e cap (bT (P++X++Q)))(Sv:Ro X)(aV:∀x∈X,kW x.1)(an:Jb lt f p0 p1 e h kW){len:Nat}(v:len=(P++X++Q).length){a:Nat}(ha:aS za a)(hb:aS zb b)(ea:a=P.length)(eb:b=P.length+X.length)
 (hk:∀h' C,Kp [e] h h'->bR [86] h h'->C.Perm X->C.Pairwise (lx lt)->cR h' e cap (bT (P++C++Q))->k (.tuple #[]) h'):
 Ct 276 [.slice (some ⟨e,0,none⟩) len cap,.int .i64 za,.int .i64 zb,.func (.func f) #[] #[p0,p1]] h k:=by
 obtain⟨A,hA⟩:=Ar.ex;have Qd:=o.bd;rw[iO,<-v]at Qd;simp only[mQy]at v;obtain⟨WB,jQ⟩:∃g,g=aG:=⟨_,rfl⟩;have tk:gE Tryz.prog ⟨ty,WB,fKX.aK,fKX.bF,λ_=>false,[],λ_ _ _=>False⟩:=by rw[jQ];exact ax _ _
 have Wp:WB f=true:=by rw[jQ];exact hf
 clear jQ hf;have n1:=ha.succ (A:=A);obtain⟨z1,jV⟩:∃z,A .bB .add .i64 za 1=z:=⟨_,rfl⟩;rw[jV]at n1;obtain⟨I,V⟩:∃I:Nat->Int->ad->Prop,∀m g h',I m g h'=∃i C l c,aS g i/\a<i/\a+l.length<=i/\X=l++c/\C.Perm l/\C.Pairwise (lx lt)/\(c≠[]->i=a+l.length)/\m=c.length/\Kp [e] h h'/\bR [86] h h'/\cR h' e cap (bT (P++C++(c++Q))):=⟨_,λ_ _ _=>rfl⟩;have E:I (X.length-1) z1 h:=by
  rw[V];cases X with
  |nil=>exact⟨a+1,[],[],[],n1,by omega,by simp,rfl,List.Perm.refl _,List.Pairwise.nil,λh=>absurd rfl h,rfl,Kp.refl _ _,bR.refl _ _,by simpa using o⟩
  |cons x X=>exact⟨a+1,[x],[x],X,n1,by omega,by simp,rfl,List.Perm.refl _,mJb _ _,λ_=>rfl,rfl,Kp.refl _ _,bR.refl _ _,by simpa using o⟩
 obtain⟨mz,FH⟩:∃mz,mz=X.length-1:=⟨_,rfl⟩;rw[<-FH]at E;refine ah A tk Tryz.func276 rfl (by kernel_rfl) ?_;cbv;rw[jV];refine aX.go (G:=Int) (λg=>[(8,.v (.int .i64 g))]) (λ_=>[]) (λm g h'=>I m g h') mz z1 (by constructor<;>cbv) E ?_
 intro m z u hI;rw[V]at hI;cbv;obtain⟨i,C,l,c,hz,bd,bb,hX,hC,H,U,hm,k1,t1,o1⟩:=hI;have f1:A .aI .lss z zb=decide (i<b):=hz.iJ hb;have B:X.length=l.length+c.length:=by rw[hX,mQy]
 have bf:C.length=l.length:=hC.length_eq;rw[f1];by_cases aP:i<b
 .cases c with
  |nil=>exfalso;rw[mQS]at B;omega
  |cons x c=>
   have lW:=U (by simp);rw[mQM]at B;have aZ:∀t∈C,kW t.1:=λt ht=>aV t (by rw[hX];exact mZf _ (hC.subset ht));have vi:kW x.1:=aV x (by rw[hX];simp);have ag:∀y∈C,y.2<x.2:=λy hy=>by
    have:=Sv;unfold Ro at this;rw[hX,mXw]at this;exact this.2.2 y (hC.subset hy) x mXn
   have cZ:=hz.succ (A:=A);obtain⟨z2,dL⟩:∃z2,A .bB .add .i64 z 1=z2:=⟨_,rfl⟩;rw[dL]at cZ;have M:∀D L R,C=L++R->(L++x::R).Pairwise (lx lt)->Kp [e] u D->bR [86] u D->cR D e cap (bT (P++(L++x::R)++(c++Q)))->I c.length z2 D:=λD L R e0 N W e3 e4=>by
    rw[V];refine⟨i+1,L++x::R,l++[x],c,cZ,by omega,by rw[mQy,mQG];omega,by rw[hX];simp,?_,N,λ_=>by rw[mQy,mQG];omega,rfl,k1.trans W,t1.trans e3,e4⟩;have p1:(L++x::R).Perm (x::(L++R)):=mJt;rw[<-e0]at p1;exact p1.trans ((hC.cons x).trans (mJx (l₁:=[x]) (l₂:=l)))
   have sh:c.length<m:=by rw[hm,mQM];omega
   obtain⟨J,Y⟩:∃J:Nat->Int->ad->Prop,∀m g h',J m g h'=∃j L R,aS g j/\j=a+L.length/\m=L.length/\C=L++R/\(∀p,R.head?=some p->lt x.1 p.1=true)/\Kp [e] u h'/\bR [86] u h'/\cR h' e cap (bT (P++(L++x::R)++(c++Q))):=⟨_,λ_ _ _=>rfl⟩;have S:J C.length z u:=by rw[Y];exact⟨i,C,[],hz,by omega,rfl,by simp,λp h=>(by cases h),Kp.refl _ _,bR.refl _ _,by simpa using o1⟩
   obtain⟨mc,az⟩:∃mc,mc=C.length:=⟨_,rfl⟩;rw[<-az]at S;obtain⟨mx,au⟩:∃mx,mx=c.length:=⟨_,rfl⟩;rw[<-au]at M sh;have ay:=an.sub k1 t1;clear V E hk;rw[mQu aP];cbv;refine aX.go (G:=Int) (λg=>[(9,.v (.int .i64 g))]) (λ_=>[]) (λm g h'=>J m g h') mc z (by constructor<;>cbv) S ?_
   intro m' zj D E;rw[Y]at E;cbv;obtain⟨j,L,R,Rz,hj,kX,Z,hR,k2,t2,o2⟩:=E;have f2:A .aI .gtr zj za=decide (0<L.length):=by rw[bO A,decide_eq_decide];have:=Rz.eq;have:=ha.eq;omega
   rw[f2];by_cases s:0<L.length
   .obtain⟨d,p,aw⟩:∃d p,L=d++[p]:=by
     rcases nQw L with h| ⟨d,p,h⟩
     .rw[h]at s;simp at s
     exact⟨d,p,by rw[h,nQv]⟩
    subst aw;have al:kW p.1:=aZ p (by rw[Z];simp);have tW:(d++[p]).length=d.length+1:=by simp
    have bg:d.length+1+R.length=C.length:=by have:=congrArg List.length Z;simp only[mQy,mQM,mQS]at this;omega
    have n9:=ff (A:=A) Rz (⟨rfl⟩:aS 1 1) (by omega) (by omega);obtain⟨zp,r⟩:∃z,A .bB .sub .i64 zj 1=z:=⟨_,rfl⟩;rw[r]at n9;have K:=Rz.eq;have w:=n9.eq;have KN:len=(bT (P++((d++[p])++x::R)++(c++Q))).length:=by have:=congrArg List.length Z;simp only[iO,mQy,mQM,mQS]at this |-;omega
    have gx:(bT (P++((d++[p])++x::R)++(c++Q)))[j]? =some x.1:=by have:=yZ (P:=P++(d++[p])) (Q:=R++(c++Q)) (x:=x) (n:=j) (by simp;omega);simpa using this
    have gp:(bT (P++((d++[p])++x::R)++(c++Q)))[j-1]? =some p.1:=by have:=yZ (P:=P++d) (Q:=x::R++(c++Q)) (x:=p) (n:=j-1) (by simp;omega);simpa using this
    have sl:=o2.sl KN;have cj:(some (⟨e,0,none⟩:Addr)).isSome=true/\0<=zj/\zj<(len:Int):=⟨rfl,Rz.ix (by omega)⟩;have cp:(some (⟨e,0,none⟩:Addr)).isSome=true/\0<=zp/\zp<(len:Int):=⟨rfl,n9.ix (by omega)⟩;rw[mQu s];cbv;refine⟨cj,?_⟩;cbv;refine bZ sl gx K (λxb xn xc qx=>?_);cbv;rw[r];refine⟨cp,?_⟩;cbv;refine bZ sl gp w (λpb pn pc qp=>?_);cbv;rw[Wp];cbv;refine ay.ap k2 t2 vi al qx qp (λh3 zc l3 Co=>?_);have f3:A .aI .lss zc 0=lt x.1 p.1:=by
     rw[bm A];cases hh:lt x.1 p.1 with
     |true=>exact mQu (Co.2 hh)
     |false=>exact mQv (λh=>by rw[Co.1 h]at hh;cases hh)
    have k3:=k2.trans (l3.kp [e]);have t3:=t2.trans (l3.t [86]);have o3:=o2.mono (l3.t _);have F:=o3.sl KN;cbv;rw[f3];cases iV:lt x.1 p.1 with
    |false=>
     have hs:=MD sw (x:=x) (A1:=d++[p]) (A2:=R) (by rw[<-Z];exact H) (by rw[<-Z];exact ag) (λq hq=>by
      have:q=p:=by simpa using hq.symm
      rw[this];exact iV) hR
     have jd:=M h3 (d++[p]) R Z hs k3 t3 o3;clear M Y S;cbv;rw[dL];refine⟨mx,_,sh,by constructor<;>cbv,jd⟩
    |true=>
     have NL:j<(bT (P++((d++[p])++x::R)++(c++Q))).length:=(mQB.1 gx).1;have T:((bT (P++((d++[p])++x::R)++(c++Q))).set j p.1).set (j-1) x.1=bT (P++(d++x::(p::R))++(c++Q)):=by
      have N:bT (P++((d++[p])++x::R)++(c++Q))=bT (P++d)++p.1::[]++x.1::bT (R++(c++Q)):=by simp[bT]
      have W:bT (P++(d++x::(p::R))++(c++Q))=bT (P++d)++x.1::[]++p.1::bT (R++(c++Q)):=by simp[bT]
      have h0:(bT (P++d)).length=j-1:=by simp[bT];omega
      have u:=LH (bT (P++d)) [] (bT (R++(c++Q))) p.1 x.1;have g1:(bT (P++d)++p.1::[]++x.1::bT (R++(c++Q)))[(bT (P++d)).length]? =some p.1:=by simp
      have g2:(bT (P++d)++p.1::[]++x.1::bT (R++(c++Q)))[(bT (P++d)).length+1+([]:List Row).length]? =some x.1:=by rw[<-N];rw[h0,show j-1+1+([]:List Row).length=j by simp;omega];exact gx
      rw[LI g1 g2,<-W,<-N,h0,show j-1+1+([]:List Row).length=j by simp;omega]at u;rw[<-u,mJZ _ _ (by omega)]
     have jL:∀O,Kp [e] h3 O->bR [86] h3 O->cR O e cap (bT (P++(d++x::(p::R))++(c++Q)))->J d.length zp O:=λO N W e3=>by
      rw[Y];exact⟨j-1,d,p::R,n9,by omega,rfl,by rw[Z];simp,λq hq=>by cases hq;exact iV,k3.trans N,t3.trans W,e3⟩
     have ab:d.length<m':=by omega
     obtain⟨ml,Am⟩:∃ml,ml=d.length:=⟨_,rfl⟩;rw[<-Am]at jL ab;have KP:j-1<((bT (P++((d++[p])++x::R)++(c++Q))).set j p.1).length:=by rw[mXv];omega
     have ba:=qx.mono (l3.t [86]);have bc:=qp.mono (l3.t [86]);obtain⟨aj,fV⟩:∃aj,aj=bT (P++((d++[p])++x::R)++(c++Q)):=⟨_,rfl⟩;rw[<-fV]at gx gp F o3 NL KP T;clear M Y S;cbv;rw[r];refine⟨cp,?_⟩;cbv;refine bZ F gp w (λpb pn pc aK=>?_);cbv;refine⟨cj,?_⟩;cbv;refine bZ F gx K (λxb xn xc ar=>?_);cbv;refine⟨cj,?_⟩;cbv;refine o3.setAt (by decide) (i:=j) NL K rfl (x:=p.1) ⟨_,rfl,aK⟩ (λO k4 t4 o4=>?_);have aH:=ar.mono (t4 [86] (by decide));cbv;refine⟨cp,?_⟩;cbv;refine o4.setAt (by decide) (i:=j-1) KP w rfl (x:=x.1) ⟨_,rfl,aH⟩ (λh5 k5 t5 o5=>?_);rw[T]at o5;have Zd:=jL h5 (k4.trans k5) ((t4 _ (by decide)).trans (t5 _ (by decide))) o5;clear jL;cbv;rw[r];refine⟨ml,_,ab,by constructor<;>cbv,Zd⟩
   have aW:L=[]:=mXd (by omega);subst aW;have hs:=MD sw (x:=x) (A1:=[]) (A2:=R) (by rw[<-Z];exact H) (by rw[<-Z];exact ag) (λp h=>(by cases h)) hR;have jd:=M D [] R Z hs k2 t2 o2;clear M Y S;rw[mQv s];cbv;rw[dL];refine⟨mx,_,sh,by constructor<;>cbv,jd⟩
 have ak:c=[]:=by
  cases c with
  |nil=>rfl
  |cons x c=>have:=U (by simp);rw[mQM]at B;omega
 subst ak;rw[mXb]at hX;subst hX;have af:=hk u C k1 t1 hC H (by simpa using o1);clear V E hk;rw[mQv aP];cbv;exact af
theorem yR{p:a}(b:u<=L.length)(h:(L.take u).getLast?=some p):0<u/\L[u-1]? =some p:=by
 rw[mJw,mQK,mZs b]at h;have h0:0<u:=by
  rcases mXI u with e|e
  .subst e;simp at h
  exact e
 rw[mXl,if_pos (by omega)]at h;exact⟨h0,h⟩
theorem head_drop{p:a}(h:(L.drop u).head?=some p):L[u]? =some p:=by rw[List.head?_drop]at h;exact h
theorem OF(c:n=P.length):((bT (P++x::y::Q)).set n y.1).set (n+1) x.1=bT (P++y::x::Q):=by
 subst c;have e:bT (P++x::y::Q)=bT P++x.1::[]++y.1::bT Q:=by simp[bT]
 have a:bT (P++y::x::Q)=bT P++y.1::[]++x.1::bT Q:=by simp[bT]
 have h:=LH (bT P) [] (bT Q) x.1 y.1;have g:(bT P++x.1::[]++y.1::bT Q)[(bT P).length]? =some x.1:=by simp
 have b:(bT P++x.1::[]++y.1::bT Q)[(bT P).length+1+([]:List Row).length]? =some y.1:=by simp
 rw[LI g b,<-a,<-e,iO]at h;exact h
theorem zZ{w:Nat}{y:a}(h:L[w]? =some y):L=L.take w++y::L.drop (w+1)/\L.take (w+1)=L.take w++[y]:=by
 obtain⟨b,c⟩:=mQB.1 h;constructor
 .conv=>lhs;rw[<-mXo w L]
  rw[mQJ b,c]
 rw[mXt,h];rfl
theorem yM{L:List (Tg Row)}{w:Nat}(h:L[w]? =some y)(a:n=P.length+w):(bT (P++L++Q))[n]? =some y.1:=by have l:=(mQB.1 h).1;subst a;unfold bT;rw[mXe,mXk,mXJ (Nat.le_add_right _ _),nQu,mZw l,h];rfl
structure bXV(lt:Row->Row->Bool)(f:FuncId)(p0 p1:Value)(nb cap len:Nat)(kW:Row->Prop)(N:Nat):Prop where
 ap:∀ {P A0 B Q:List (Tg Row)} {h:ad} (o:cR h nb cap (bT (P++A0++B++Q))) (hN:A0.length+B.length<=N) (bQc:A0.Pairwise (lx lt)) (hB:B.Pairwise (lx lt)) (ht:∀x∈A0,∀y∈B,x.2<y.2) (aV:∀x∈A0++B,kW x.1) (cmp:Jb lt f p0 p1 nb h kW) (hlen:len=(P++A0++B++Q).length) {za zm zb:Int} {a m b:Nat} (ha:aS za a) (hm:aS zm m) (hb:aS zb b) (ea:a=P.length) (em:m=P.length+A0.length) (eb:b=P.length+A0.length+B.length) (nA:0<A0.length) (nB:0<B.length) {k:Value->ad->Prop}
  (hk:∀h' C,Kp [nb] h h'->bR [86] h h'->C.Perm (A0++B)->C.Pairwise (lx lt)->cR h' nb cap (bT (P++C++Q))->k (.tuple #[]) h'),
  Ct 277 [.slice (some ⟨nb,0,none⟩) len cap,.int .i64 za,.int .i64 zm,.int .i64 zb,.func (.func f) #[] #[p0,p1]] h k
theorem bJI{lt:Row->Row->Bool}(sw:FQ lt)(hf:aG f=true){d len:Nat}{N:Nat}(ih:bXV lt f p0 p1 d cap len kW N):bXV lt f p0 p1 d cap len kW (N+1):=by
 refine⟨?_⟩;intro P j B Q h o hN bc hB ht aV ay bb za zm zb a m b ha hm hb ea em eb nA nB k hk;obtain⟨A,hA⟩:=Ar.ex;have Qd:=o.bd;rw[iO,<-bb]at Qd;obtain⟨r,fV⟩:∃r,r=bT (P++j++B++Q):=⟨_,rfl⟩;have Wn:len=r.length:=by rw[fV,iO];exact bb
 rw[<-fV]at o;have Wm:len=P.length+j.length+B.length+Q.length:=by rw[bb];simp only[mQy]
 obtain⟨WB,jQ⟩:∃g,g=aG:=⟨_,rfl⟩;have tk:gE Tryz.prog ⟨ty,WB,fKW.aK,fKW.bF,λ_=>false,[],λ_ _ _=>False⟩:=by rw[jQ];exact ax _ _
 have Wp:WB f=true:=by rw[jQ];exact hf
 have TM:WB 305=true:=by rw[jQ];kernel_rfl
 have Ao:WB 277=true:=by rw[jQ];kernel_rfl
 have dn:A .not false=true:=by rw[hA.not];rfl
 have cE:A .not true=false:=by rw[hA.not];rfl
 clear jQ;have cZ:=ff (A:=A) hm ha (by omega) (by omega);have cU:=ff (A:=A) hb hm (by omega) (by omega);obtain⟨zA,dT⟩:∃z,A .bB .sub .i64 zm za=z:=⟨_,rfl⟩;obtain⟨zB,dS⟩:∃z,A .bB .sub .i64 zb zm=z:=⟨_,rfl⟩;rw[dT]at cZ;rw[dS]at cU;have fA:A .aI .eql zA 1=decide (j.length=1):=by rw[aA A,decide_eq_decide];have:=cZ.eq;omega
 have fB:A .aI .eql zB 1=decide (B.length=1):=by rw[aA A,decide_eq_decide];have:=cU.eq;omega
 have Zc:aS zb (m+B.length):=by rw[show m+B.length=b by omega];exact hb
 have Mi:=ha.bKH (A:=A) hb (by omega) (by omega);obtain⟨NT,cr⟩:∃z,A .conv .i64 (A .bB .shr .u64 (A .conv .u64 (A .bB .add .i64 za zb)) 1)=z:=⟨_,rfl⟩;rw[cr]at Mi;obtain⟨md,ez⟩:∃md,md=(a+b) / 2:=⟨_,rfl⟩;rw[<-ez]at Mi;have aH:=vJ (A:=A) Mi hm (by omega);obtain⟨zn,nP⟩:∃z,A .bB .add .i64 NT zm=z:=⟨_,rfl⟩;rw[nP]at aH;obtain⟨T,qC⟩:∃T,T=md+m:=⟨_,rfl⟩;rw[<-qC]at aH;obtain⟨J1,MX⟩:∃J1:Int×Int->ad->Prop,∀g h',J1 g h'=∃O s,aS g.1 O/\aS g.2 s/\O<=s/\a<=O/\s<=m/\(O=a\/T-O=b)/\(s=m\/T-s=m)/\T<=O+b/\s+m<=T/\Kp [d] h h'/\bR [86] h h'/\cR h' d cap r:=⟨_,λ_ _=>rfl⟩;have aZ:∀ak al O s,aS ak O->aS al s->O<=s->a<=O->s<=m->(O=a\/T-O=b)->(s=m\/T-s=m)->T<=O+b->s+m<=T->J1 (ak,al) h:=λak al O s d1 d2 d3 d4 d5 d6 d7 d8 d9=>by rw[MX];exact⟨O,s,d1,d2,d3,d4,d5,d6,d7,d8,d9,Kp.refl _ _,bR.refl _ _,o⟩
 refine zo A [false,false,false,false,false,true,false,false,false,true,true] tk Tryz.func277 rfl (by kernel_rfl) ?_;cbv;rw[dT,fA];by_cases cq:j.length=1
 .rw[mQu cq];obtain⟨x,MI⟩:∃x,j=[x]:=by
   match j,cq with
   | [x],_=>exact⟨x,rfl⟩
  subst MI;have vi:kW x.1:=aV x (by simp);have cn:r[a]? =some x.1:=by rw[fV];exact yM (P:=P) (L:=[x]) (Q:=B++Q) (w:=0) rfl (by omega) |> λh=>by simpa using h
  have ZE:(some (⟨d,0,none⟩:Addr)).isSome=true/\0<=za/\za<(len:Int):=⟨rfl,ha.ix (by omega)⟩;have ev:=ha.eq;obtain⟨I,Y⟩:∃I:Nat->Int×Int->ad->Prop,∀K g h',I K g h'=∃u v,aS g.1 (m+u)/\aS g.2 (m+v)/\u<=v/\v<=B.length/\K=v-u/\Kp [d] h h'/\bR [86] h h'/\cR h' d cap r/\(0<u->∀y,B[u-1]? =some y->lt y.1 x.1=true)/\(∀y,B[v]? =some y->lt y.1 x.1=false):=⟨_,λ_ _ _=>rfl⟩;have V:I B.length (zm,zb) h:=by rw[Y];exact⟨0,B.length,hm,Zc,mQC _,mQD _,rfl,Kp.refl _ _,bR.refl _ _,o,λh=>absurd h (by omega),λy D=>by rw[mXX (mQD _)]at D;cases D⟩
  obtain⟨mz,FH⟩:∃mz,mz=B.length:=⟨_,rfl⟩;rw[<-FH]at V;cbv;refine aX.go (G:=Int×Int) (λg=>[(10,.v (.int .i64 g.1)),(11,.v (.int .i64 g.2))]) (λ_=>[]) (λK g h'=>I K g h') mz (zm,zb) (by constructor<;>cbv) V ?_
  intro ms g h1 hI;rw[Y]at hI;cbv;obtain⟨u,v,s,hj,ec,hv,YQ,k1,t1,o1,Qa,TJ⟩:=hI;obtain⟨R,gj⟩:=g;replace s:aS R (m+u):=s;replace hj:aS gj (m+v):=hj;have f1:A .aI .lss R gj=decide (u<v):=by rw[bm A,decide_eq_decide];have:=s.eq;have:=hj.eq;omega
  rw[f1];by_cases PG:u<v
  .have S:=s.bKH (A:=A) hj (by omega) (by omega);obtain⟨zh,ag⟩:∃z,A .conv .i64 (A .bB .shr .u64 (A .conv .u64 (A .bB .add .i64 R gj)) 1)=z:=⟨_,rfl⟩;rw[ag]at S;obtain⟨w,hw⟩:∃w,(m+u+(m+v)) / 2=m+w:=⟨(m+u+(m+v)) / 2-m,by omega⟩;rw[hw]at S;have dW:u<=w/\w<v:=by omega
   obtain⟨y,D⟩:=mQA B w;have aK:=S.eq;have aj:=o1.sl Wn;have nx:=S.succ (A:=A);obtain⟨M,dL⟩:∃M,A .bB .add .i64 zh 1=M:=⟨_,rfl⟩;rw[dL]at nx;have aP:(some (⟨d,0,none⟩:Addr)).isSome=true/\0<=zh/\zh<(len:Int):=⟨rfl,S.ix (by omega)⟩;have aW:kW y.1:=aV y (by simp[mQz D]);have gy:r[m+w]? =some y.1:=by rw[fV];exact yM (P:=P++[x]) (L:=B) (Q:=Q) D (by simp;omega)
   have Wv:∀E,lt y.1 x.1=true->Kp [d] h E->bR [86] h E->cR E d cap r->I (v-(w+1)) (M,gj) E:=λE e0 e1 e2 e3=>by
    rw[Y];exact⟨w+1,v,nx,hj,by omega,hv,rfl,e1,e2,e3,λ_ y' Jt=>by rw[mXy,D]at Jt;cases Jt;exact e0,TJ⟩
   have F:∀E,lt y.1 x.1=false->Kp [d] h E->bR [86] h E->cR E d cap r->I (w-u) (R,zh) E:=λE e0 e1 e2 e3=>by
    rw[Y];exact⟨u,w,s,S,by omega,by omega,rfl,e1,e2,e3,Qa,λy' Jt=>by rw[D]at Jt;cases Jt;exact e0⟩
   have ab:v-(w+1)<ms:=by omega
   have tG:w-u<ms:=by omega
   obtain⟨my,ba⟩:∃my,my=v-(w+1):=⟨_,rfl⟩;obtain⟨mn,HX⟩:∃mn,mn=w-u:=⟨_,rfl⟩;rw[<-ba]at Wv ab;rw[<-HX]at F tG;clear Y V Qa TJ hk;rw[mQu PG];cbv;refine⟨by decide,?_⟩;cbv;rw[ag];refine⟨aP,?_⟩;cbv;refine bZ aj gy aK (λxb xn xc qx=>?_);cbv;refine⟨ZE,?_⟩;cbv;refine bZ aj cn ev (λyb yn yc qy=>?_);cbv;rw[Wp];cbv;refine ay.ap k1 t1 aW vi qx qy (λl zc l3 Co=>?_);have f3:A .aI .lss zc 0=lt y.1 x.1:=by
    rw[bm A];cases hh:lt y.1 x.1 with
    |true=>exact mQu (Co.2 hh)
    |false=>exact mQv (λh=>by rw[Co.1 h]at hh;cases hh)
   have Z:=k1.trans (l3.kp [d]);have U:=t1.trans (l3.t [86]);have W:=o1.mono (l3.t _);cbv;rw[f3];cases iV:lt y.1 x.1 with
   |true=>
    have jd:=Wv l iV Z U W;clear Wv F;cbv;rw[dL];refine⟨my,(_,_),ab,by constructor<;>cbv,jd⟩
   |false=>
    have jd:=F l iV Z U W;clear Wv F;cbv;refine⟨mn,(_,_),tG,by constructor<;>cbv,jd⟩
  have aw:u=v:=by omega
  subst aw;clear Y V;rw[mQv PG];cbv;have hs:=cQg sw (x:=x) (B1:=B.take u) (B2:=B.drop u) (by rw[mXo];exact hB) (by rw[mXo];exact λy D=>ht x (by simp) y D) (λq hq=>(yR hv hq).elim λh0 h1=>Qa h0 q h1) (λq hq=>TJ q (head_drop hq));have n5:=ff (A:=A) s (⟨rfl⟩:aS 1 1) (by omega) (by omega);obtain⟨z5,cz⟩:∃z,A .bB .sub .i64 R 1=z:=⟨_,rfl⟩;rw[cz]at n5;obtain⟨J,dY⟩:∃J:Nat->Int->ad->Prop,∀m g h',J m g h'=∃w,aS g (a+w)/\w<=u/\m=u-w/\Kp [d] h h'/\bR [86] h h'/\cR h' d cap (bT (P++(B.take w++x::B.drop w)++Q)):=⟨_,λ_ _ _=>rfl⟩;have FN:J u za h1:=by rw[dY];exact⟨0,ha,mQC _,rfl,k1,t1,by rw[fV]at o1;simpa using o1⟩
  refine aX.go (G:=Int) (λg=>[(13,.v (.int .i64 g))]) (λ_=>[]) (λm g h'=>J m g h') u za (by constructor<;>cbv) FN ?_
  intro ck zk E V;rw[dY]at V;cbv;obtain⟨w,Ba,dW,eu,k2,t2,o2⟩:=V;have f5:A .aI .lss zk z5=decide (w<u):=by rw[bm A,decide_eq_decide];have:=Ba.eq;have:=n5.eq;omega
  rw[cz,f5];by_cases cA:w<u
  .obtain⟨y,D⟩:=mQA B w;obtain⟨e1,e2⟩:=zZ D;have hd:B.drop w=y::B.drop (w+1):=by obtain⟨ch,bt⟩:=mQB.1 D;rw[mQJ ch,bt]
   have uO:=Ba.eq;have nx:=Ba.succ (A:=A);obtain⟨M,dL⟩:∃M,A .bB .add .i64 zk 1=M:=⟨_,rfl⟩;rw[dL]at nx;have az:=nx.eq;have ed:(B.take w).length=w:=by rw[mQK];omega
   rw[hd]at o2;have bd:P++(B.take w++x::y::B.drop (w+1))++Q=(P++B.take w)++x::y::(B.drop (w+1)++Q):=by simp
   rw[bd]at o2;have ar:=OF (P:=P++B.take w) (Q:=B.drop (w+1)++Q) (x:=x) (y:=y) (n:=a+w) (by rw[mQy];omega);have gx:(bT ((P++B.take w)++x::y::(B.drop (w+1)++Q)))[a+w]? =some x.1:=yZ (by rw[mQy];omega);have gy:(bT ((P++B.take w)++x::y::(B.drop (w+1)++Q)))[a+(w+1)]? =some y.1:=by have:=yZ (P:=P++B.take w++[x]) (Q:=B.drop (w+1)++Q) (x:=y) (n:=a+(w+1)) (by simp;omega);simpa using this
   have KN:len=(bT ((P++B.take w)++x::y::(B.drop (w+1)++Q))).length:=by rw[<-bd,<-hd,iO];simp only[mQy,mQM,mQK,mXg];omega
   have jL:∀l,Kp [d] h l->bR [86] h l->cR l d cap (bT ((P++B.take w)++y::x::(B.drop (w+1)++Q)))->J (u-(w+1)) M l:=λl d1 d2 d3=>by
    rw[dY];exact⟨w+1,nx,by omega,rfl,d1,d2,by rw[e2];simpa using d3⟩
   have sh:u-(w+1)<ck:=by omega
   obtain⟨mj,cj⟩:∃mj,mj=u-(w+1):=⟨_,rfl⟩;rw[<-cj]at jL sh;have zU:(some (⟨d,0,none⟩:Addr)).isSome=true/\0<=zk/\zk<(len:Int):=⟨rfl,Ba.ix (by omega)⟩;have FO:(some (⟨d,0,none⟩:Addr)).isSome=true/\0<=M/\M<(len:Int):=⟨rfl,nx.ix (by omega)⟩;have an:=o2.sl KN;have b1:=(mQB.1 gx).1;have b2:=(mQB.1 gy).1;obtain⟨eM,ca⟩:∃m,m=bT ((P++B.take w)++x::y::(B.drop (w+1)++Q)):=⟨_,rfl⟩;rw[<-ca]at o2 an gx gy b1 b2 ar;clear dY FN hk hs;rw[mQu cA];cbv;rw[dL];refine⟨FO,?_⟩;cbv;refine bZ an gy az (λyb yn yc qy=>?_);cbv;refine⟨zU,?_⟩;cbv;refine bZ an gx uO (λxb xn xc qx=>?_);cbv;refine⟨zU,?_⟩;cbv;refine o2.setAt (by decide) (i:=a+w) b1 uO rfl (x:=y.1) ⟨_,rfl,qy⟩ (λl Z U W=>?_);have cc:=qx.mono (U [86] (by decide));cbv;refine⟨FO,?_⟩;cbv;refine W.setAt (by decide) (i:=a+(w+1)) (by rw[mXv];exact b2) az rfl (x:=x.1) ⟨_,rfl,cc⟩ (λh4 k4 t4 o4=>?_);rw[show a+(w+1)=a+w+1 by omega,ar]at o4;have Zd:=jL h4 (k2.trans (Z.trans k4)) (t2.trans ((U _ (by decide)).trans (t4 _ (by decide)))) o4;clear jL;cbv;rw[dL];refine⟨mj,_,sh,by constructor<;>cbv,Zd⟩
  have PF:w=u:=by omega
  subst PF;have hp:(B.take w++x::B.drop w).Perm ([x]++B):=by refine mJt.trans ?_;rw[mXo];exact List.Perm.refl _
  have H:=hk E _ k2 t2 hp hs o2;clear dY FN hk;rw[mQv cA];cbv;exact H
 rw[mQv cq];cbv;rw[dS,fB];by_cases cp:B.length=1
 .rw[mQu cp];obtain⟨x,MI⟩:∃x,B=[x]:=by
   match B,cp with
   | [x],_=>exact⟨x,rfl⟩
  subst MI;have vi:kW x.1:=aV x (by simp);have cn:r[m]? =some x.1:=by rw[fV];exact yM (P:=P++j) (L:=[x]) (Q:=Q) (w:=0) rfl (by rw[mQy];omega) |> λh=>by simpa using h
  have fa:(some (⟨d,0,none⟩:Addr)).isSome=true/\0<=zm/\zm<(len:Int):=⟨rfl,hm.ix (by simp only[mQM,mQS]at Wm;omega)⟩;have au:=hm.eq;have RF:aS zm (a+j.length):=by rw[show a+j.length=m by omega];exact hm
  obtain⟨I,Y⟩:∃I:Nat->Int×Int->ad->Prop,∀K g h',I K g h'=∃u v,aS g.1 (a+u)/\aS g.2 (a+v)/\u<=v/\v<=j.length/\K=v-u/\Kp [d] h h'/\bR [86] h h'/\cR h' d cap r/\(0<u->∀y,j[u-1]? =some y->lt x.1 y.1=false)/\(∀y,j[v]? =some y->lt x.1 y.1=true):=⟨_,λ_ _ _=>rfl⟩;have V:I j.length (za,zm) h:=by rw[Y];exact⟨0,j.length,ha,RF,mQC _,mQD _,rfl,Kp.refl _ _,bR.refl _ _,o,λh=>absurd h (by omega),λy D=>by rw[mXX (mQD _)]at D;cases D⟩
  obtain⟨mz,FH⟩:∃mz,mz=j.length:=⟨_,rfl⟩;rw[<-FH]at V;cbv;refine aX.go (G:=Int×Int) (λg=>[(14,.v (.int .i64 g.1)),(15,.v (.int .i64 g.2))]) (λ_=>[]) (λK g h'=>I K g h') mz (za,zm) (by constructor<;>cbv) V ?_
  intro ms g h1 hI;rw[Y]at hI;cbv;obtain⟨u,v,s,hj,ec,hv,YQ,k1,t1,o1,Qa,TJ⟩:=hI;obtain⟨R,gj⟩:=g;replace s:aS R (a+u):=s;replace hj:aS gj (a+v):=hj;have f1:A .aI .lss R gj=decide (u<v):=by rw[bm A,decide_eq_decide];have:=s.eq;have:=hj.eq;omega
  rw[f1];by_cases PG:u<v
  .have S:=s.bKH (A:=A) hj (by omega) (by omega);obtain⟨zh,ag⟩:∃z,A .conv .i64 (A .bB .shr .u64 (A .conv .u64 (A .bB .add .i64 R gj)) 1)=z:=⟨_,rfl⟩;rw[ag]at S;obtain⟨w,hw⟩:∃w,(a+u+(a+v)) / 2=a+w:=⟨(a+u+(a+v)) / 2-a,by omega⟩;rw[hw]at S;have dW:u<=w/\w<v:=by omega
   obtain⟨y,D⟩:=mQA j w;have aK:=S.eq;have aj:=o1.sl Wn;have nx:=S.succ (A:=A);obtain⟨M,dL⟩:∃M,A .bB .add .i64 zh 1=M:=⟨_,rfl⟩;rw[dL]at nx;have aP:(some (⟨d,0,none⟩:Addr)).isSome=true/\0<=zh/\zh<(len:Int):=⟨rfl,S.ix (by omega)⟩;have aW:kW y.1:=aV y (by simp[mQz D]);have gy:r[a+w]? =some y.1:=by rw[fV,mXk];exact yM (P:=P) (L:=j) (Q:=[x]++Q) D (by omega)
   have Wv:∀E,lt x.1 y.1=false->Kp [d] h E->bR [86] h E->cR E d cap r->I (v-(w+1)) (M,gj) E:=λE e0 e1 e2 e3=>by
    rw[Y];exact⟨w+1,v,nx,hj,by omega,hv,rfl,e1,e2,e3,λ_ y' Jt=>by rw[mXy,D]at Jt;cases Jt;exact e0,TJ⟩
   have F:∀E,lt x.1 y.1=true->Kp [d] h E->bR [86] h E->cR E d cap r->I (w-u) (R,zh) E:=λE e0 e1 e2 e3=>by
    rw[Y];exact⟨u,w,s,S,by omega,by omega,rfl,e1,e2,e3,Qa,λy' Jt=>by rw[D]at Jt;cases Jt;exact e0⟩
   have ab:v-(w+1)<ms:=by omega
   have tG:w-u<ms:=by omega
   obtain⟨my,ba⟩:∃my,my=v-(w+1):=⟨_,rfl⟩;obtain⟨mn,HX⟩:∃mn,mn=w-u:=⟨_,rfl⟩;rw[<-ba]at Wv ab;rw[<-HX]at F tG;clear Y V Qa TJ hk;rw[mQu PG];cbv;refine⟨by decide,?_⟩;cbv;rw[ag];refine⟨fa,?_⟩;cbv;refine bZ aj cn au (λxb xn xc qx=>?_);cbv;refine⟨aP,?_⟩;cbv;refine bZ aj gy aK (λyb yn yc qy=>?_);cbv;rw[Wp];cbv;refine ay.ap k1 t1 vi aW qx qy (λl zc l3 Co=>?_);have f3:A .aI .lss zc 0=lt x.1 y.1:=by
    rw[bm A];cases hh:lt x.1 y.1 with
    |true=>exact mQu (Co.2 hh)
    |false=>exact mQv (λh=>by rw[Co.1 h]at hh;cases hh)
   have Z:=k1.trans (l3.kp [d]);have U:=t1.trans (l3.t [86]);have W:=o1.mono (l3.t _);cbv;rw[f3];cases iV:lt x.1 y.1 with
   |false=>
    have jd:=Wv l iV Z U W;clear Wv F;cbv;rw[dn];cbv;rw[dL];refine⟨my,(_,_),ab,by constructor<;>cbv,jd⟩
   |true=>
    have jd:=F l iV Z U W;clear Wv F;cbv;rw[cE];cbv;refine⟨mn,(_,_),tG,by constructor<;>cbv,jd⟩
  have aw:u=v:=by omega
  subst aw;clear Y V;rw[mQv PG];cbv;have hs:=MD sw (x:=x) (A1:=j.take u) (A2:=j.drop u) (by rw[mXo];exact bc) (by rw[mXo];exact λy D=>ht y D x (by simp)) (λq hq=>(yR hv hq).elim λh0 h1=>Qa h0 q h1) (λq hq=>TJ q (head_drop hq));obtain⟨J,dY⟩:∃J:Nat->Int->ad->Prop,∀K g h',J K g h'=∃t,aS g (a+t)/\u<=t/\t<=j.length/\K=t-u/\Kp [d] h h'/\bR [86] h h'/\cR h' d cap (bT (P++(j.take t++x::j.drop t)++Q)):=⟨_,λ_ _ _=>rfl⟩;have FN:J (j.length-u) zm h1:=by rw[dY];exact⟨j.length,by rw[show a+j.length=m by omega];exact hm,hv,mQD _,rfl,k1,t1,by rw[fV]at o1;simpa using o1⟩
  obtain⟨mq,ew⟩:∃mq,mq=j.length-u:=⟨_,rfl⟩;rw[<-ew]at FN;refine aX.go (G:=Int) (λg=>[(17,.v (.int .i64 g))]) (λ_=>[]) (λK g h'=>J K g h') mq zm (by constructor<;>cbv) FN ?_
  intro ck zk E V;rw[dY]at V;cbv;obtain⟨t,Ba,fs,ed,eu,k2,t2,o2⟩:=V;have f5:A .aI .gtr zk R=decide (u<t):=by rw[bO A,decide_eq_decide];have:=Ba.eq;have:=s.eq;omega
  rw[f5];by_cases cB:u<t
  .obtain⟨w,hw⟩:∃w,t=w+1:=⟨t-1,by omega⟩;subst hw;obtain⟨y,D⟩:=mQA j w;obtain⟨e1,e2⟩:=zZ D;have hd:j.drop w=y::j.drop (w+1):=by obtain⟨ch,bt⟩:=mQB.1 D;rw[mQJ ch,bt]
   have uO:=Ba.eq;have nx:=ff (A:=A) Ba (⟨rfl⟩:aS 1 1) (by omega) (by omega);obtain⟨M,dL⟩:∃M,A .bB .sub .i64 zk 1=M:=⟨_,rfl⟩;rw[dL,show a+(w+1)-1=a+w by omega]at nx;have az:=nx.eq;have fb:(j.take w).length=w:=by rw[mQK];omega
   rw[e2]at o2;have bd:P++((j.take w++[y])++x::j.drop (w+1))++Q=(P++j.take w)++y::x::(j.drop (w+1)++Q):=by simp
   rw[bd]at o2;have ar:=OF (P:=P++j.take w) (Q:=j.drop (w+1)++Q) (x:=y) (y:=x) (n:=a+w) (by rw[mQy];omega);rw[mJZ _ _ (by omega)]at ar;have gy:(bT ((P++j.take w)++y::x::(j.drop (w+1)++Q)))[a+w]? =some y.1:=yZ (by rw[mQy];omega);have gx:(bT ((P++j.take w)++y::x::(j.drop (w+1)++Q)))[a+(w+1)]? =some x.1:=by have:=yZ (P:=P++j.take w++[y]) (Q:=j.drop (w+1)++Q) (x:=x) (n:=a+(w+1)) (by simp;omega);simpa using this
   have KN:len=(bT ((P++j.take w)++y::x::(j.drop (w+1)++Q))).length:=by rw[iO];simp only[mQy,mQM,mQK,mXg];simp only[mQM,mQS]at Wm;omega
   have jL:∀l,Kp [d] h l->bR [86] h l->cR l d cap (bT ((P++j.take w)++x::y::(j.drop (w+1)++Q)))->J (w-u) M l:=λl d1 d2 d3=>by
    rw[dY];exact⟨w,nx,by omega,by omega,rfl,d1,d2,by rw[hd];simpa using d3⟩
   have sh:w-u<ck:=by omega
   obtain⟨mj,cj⟩:∃mj,mj=w-u:=⟨_,rfl⟩;rw[<-cj]at jL sh;have zU:(some (⟨d,0,none⟩:Addr)).isSome=true/\0<=zk/\zk<(len:Int):=⟨rfl,Ba.ix (by simp only[mQM,mQS]at Wm;omega)⟩;have FO:(some (⟨d,0,none⟩:Addr)).isSome=true/\0<=M/\M<(len:Int):=⟨rfl,nx.ix (by simp only[mQM,mQS]at Wm;omega)⟩;have an:=o2.sl KN;have b1:=(mQB.1 gx).1;have b2:=(mQB.1 gy).1;obtain⟨eM,ca⟩:∃m,m=bT ((P++j.take w)++y::x::(j.drop (w+1)++Q)):=⟨_,rfl⟩;rw[<-ca]at o2 an gx gy b1 b2 ar;clear dY FN hk hs;rw[mQu cB];cbv;rw[dL];refine⟨FO,?_⟩;cbv;refine bZ an gy az (λyb yn yc qy=>?_);cbv;refine⟨zU,?_⟩;cbv;refine bZ an gx uO (λxb xn xc qx=>?_);cbv;refine⟨zU,?_⟩;cbv;refine o2.setAt (by decide) (i:=a+(w+1)) b1 uO rfl (x:=y.1) ⟨_,rfl,qy⟩ (λl Z U W=>?_);have cc:=qx.mono (U [86] (by decide));cbv;refine⟨FO,?_⟩;cbv;refine W.setAt (by decide) (i:=a+w) (by rw[mXv];exact b2) az rfl (x:=x.1) ⟨_,rfl,cc⟩ (λh4 k4 t4 o4=>?_);rw[show a+(w+1)=a+w+1 by omega,ar]at o4;have Zd:=jL h4 (k2.trans (Z.trans k4)) (t2.trans ((U _ (by decide)).trans (t4 _ (by decide)))) o4;clear jL;cbv;rw[dL];refine⟨mj,_,sh,by constructor<;>cbv,Zd⟩
  have PF:t=u:=by omega
  subst PF;have hp:(j.take t++x::j.drop t).Perm (j++[x]):=by refine mJt.trans ?_;rw[mXo];exact(mJx (l₁:=[x]) (l₂:=j))
  have H:=hk E _ k2 t2 hp hs o2;clear dY FN hk;rw[mQv cB];cbv;exact H
 have f6:A .aI .gtr zm NT=decide (m>md):=by rw[bO A,decide_eq_decide];have:=hm.eq;have:=Mi.eq;omega
 rw[mQv cp];cbv;refine⟨by decide,?_⟩;cbv;rw[cr,nP];refine Dw.go (G:=Int×Int) (λg=>[(18,.v (.int .i64 NT)),(19,.v (.int .i64 zn)),(20,.v (.int .i64 g.1)),(21,.v (.int .i64 g.2))]) (λ_=>[]) J1 ?_ ?_
 .clear MX hk;cbv;rw[f6];by_cases RH:m>md
  .have n7:=ff (A:=A) aH hb (by omega) (by omega);obtain⟨z7,cy⟩:∃z,A .bB .sub .i64 zn zb=z:=⟨_,rfl⟩;rw[cy]at n7;have H:=aZ z7 NT (T-b) md n7 Mi (by omega) (by omega) (by omega) (.inr (by omega)) (.inr (by omega)) (by omega) (by omega);clear aZ;rw[mQu RH];cbv;rw[cy];refine⟨(_,_),by constructor<;>cbv,H⟩
  have H:=aZ za zm a m ha hm (by omega) (mQD _) (mQD _) (.inl rfl) (.inl rfl) (by omega) (by omega);clear aZ;rw[mQv RH];cbv;refine⟨(_,_),by constructor<;>cbv,H⟩
 intro g h1 hg;cbv;rw[MX]at hg;obtain⟨O,s,bg,bj,eG,fe,fu,fj,fk,vo,ft,k1,t1,o1⟩:=hg;obtain⟨ak,al⟩:=g;replace bg:aS ak O:=bg;replace bj:aS al s:=bj;have du:=ff (A:=A) aH (⟨rfl⟩:aS 1 1) (by omega) (by omega);obtain⟨zp,cu⟩:∃z,A .bB .sub .i64 zn 1=z:=⟨_,rfl⟩;rw[cu]at du;obtain⟨I,Y⟩:∃I:Nat->Int×Int->ad->Prop,∀K g h',I K g h'=∃u v,aS g.1 u/\aS g.2 v/\O<=u/\u<=v/\v<=s/\K=v-u/\Kp [d] h h'/\bR [86] h h'/\cR h' d cap r/\(O<u->∀x y,j[u-1-a]? =some x->B[T-u-m]? =some y->lt y.1 x.1=false)/\(v<s->∀x y,j[v-a]? =some x->B[T-1-v-m]? =some y->lt y.1 x.1=true):=⟨_,λ_ _ _=>rfl⟩;have V:I (s-O) (ak,al) h1:=by rw[Y];exact⟨O,s,bg,bj,mQD _,eG,mQD _,rfl,k1,t1,o1,λh=>absurd h (mJY _),λh=>absurd h (mJY _)⟩
 obtain⟨mz,FH⟩:∃mz,mz=s-O:=⟨_,rfl⟩;rw[<-FH]at V;clear MX aZ bg bj;rw[cu];refine aX.go (G:=Int×Int) (λg=>[(20,.v (.int .i64 g.1)),(21,.v (.int .i64 g.2))]) (λ_=>[]) (λK g h'=>I K g h') mz (ak,al) (by constructor<;>cbv) V ?_
 intro ms g E hI;rw[Y]at hI;cbv;obtain⟨u,v,nu,nv,eE,ec,eh,YQ,k2,t2,o2,bo,br⟩:=hI;obtain⟨R,gj⟩:=g;replace nu:aS R u:=nu;replace nv:aS gj v:=nv;have f1:A .aI .lss R gj=decide (u<v):=by rw[bm A,decide_eq_decide];have:=nu.eq;have:=nv.eq;omega
 rw[f1];by_cases PG:u<v
 .have S:=nu.bKH (A:=A) nv (by omega) (by omega);obtain⟨zh,ag⟩:∃z,A .conv .i64 (A .bB .shr .u64 (A .conv .u64 (A .bB .add .i64 R gj)) 1)=z:=⟨_,rfl⟩;rw[ag]at S;obtain⟨c,hc⟩:∃c,c=(u+v) / 2:=⟨_,rfl⟩;rw[<-hc]at S;have fy:u<=c/\c<v:=by omega
  obtain⟨x,hx⟩:=mQA j (c-a);obtain⟨y,D⟩:=mQA B (T-1-c-m);have bf:=ff (A:=A) du S (by omega) (by omega);obtain⟨zq,ct⟩:∃z,A .bB .sub .i64 zp zh=z:=⟨_,rfl⟩;rw[ct]at bf;obtain⟨pc,er⟩:∃pc,pc=T-1-c:=⟨_,rfl⟩;rw[<-er]at bf;have aK:=S.eq;have eX:=bf.eq;have aj:=o2.sl Wn;have nx:=S.succ (A:=A);obtain⟨M,dL⟩:∃M,A .bB .add .i64 zh 1=M:=⟨_,rfl⟩;rw[dL]at nx;have aP:(some (⟨d,0,none⟩:Addr)).isSome=true/\0<=zh/\zh<(len:Int):=⟨rfl,S.ix (by omega)⟩;have ej:(some (⟨d,0,none⟩:Addr)).isSome=true/\0<=zq/\zq<(len:Int):=⟨rfl,bf.ix (by omega)⟩;have vi:kW x.1:=aV x (mZf _ (mQz hx));have aW:kW y.1:=aV y (mZT _ (mQz D));have gx:r[c]? =some x.1:=by rw[fV,mXk (P++j)];exact yM (P:=P) (L:=j) (Q:=B++Q) hx (by omega)
  have gy:r[pc]? =some y.1:=by rw[fV];exact yM (P:=P++j) (L:=B) (Q:=Q) D (by rw[mQy];omega)
  have Wv:∀l,lt y.1 x.1=false->Kp [d] h l->bR [86] h l->cR l d cap r->I (v-(c+1)) (M,gj) l:=λl e0 e1 e2 e3=>by
   rw[Y];refine⟨c+1,v,nx,nv,by omega,by omega,eh,rfl,e1,e2,e3,λ_ x' y' uQ Jt=>?_,br⟩;rw[mXy,hx]at uQ;rw[show T-(c+1)-m=T-1-c-m by omega,D]at Jt;cases uQ;cases Jt;exact e0
  have F:∀l,lt y.1 x.1=true->Kp [d] h l->bR [86] h l->cR l d cap r->I (c-u) (R,zh) l:=λl e0 e1 e2 e3=>by
   rw[Y];refine⟨u,c,nu,S,eE,by omega,by omega,rfl,e1,e2,e3,bo,λ_ x' y' uQ Jt=>?_⟩;rw[hx]at uQ;rw[D]at Jt;cases uQ;cases Jt;exact e0
  have ab:v-(c+1)<ms:=by omega
  have tG:c-u<ms:=by omega
  obtain⟨my,ba⟩:∃my,my=v-(c+1):=⟨_,rfl⟩;obtain⟨mn,HX⟩:∃mn,mn=c-u:=⟨_,rfl⟩;rw[<-ba]at Wv ab;rw[<-HX]at F tG;clear Y V bo br hk;rw[mQu PG];cbv;refine⟨by decide,?_⟩;cbv;rw[ag];cbv;rw[ct];refine⟨ej,?_⟩;cbv;refine bZ aj gy eX (λyb yn yc qy=>?_);cbv;refine⟨aP,?_⟩;cbv;refine bZ aj gx aK (λxb xn xc qx=>?_);cbv;rw[Wp];cbv;refine ay.ap k2 t2 aW vi qy qx (λl zc l3 Co=>?_);have f3:A .aI .lss zc 0=lt y.1 x.1:=by
   rw[bm A];cases hh:lt y.1 x.1 with
   |true=>exact mQu (Co.2 hh)
   |false=>exact mQv (λh=>by rw[Co.1 h]at hh;cases hh)
  have Z:=k2.trans (l3.kp [d]);have U:=t2.trans (l3.t [86]);have W:=o2.mono (l3.t _);cbv;rw[f3];cases iV:lt y.1 x.1 with
  |false=>
   have jd:=Wv l iV Z U W;clear Wv F;cbv;rw[dn];cbv;rw[dL];refine⟨my,(_,_),ab,by constructor<;>cbv,jd⟩
  |true=>
   have jd:=F l iV Z U W;clear Wv F;cbv;rw[cE];cbv;refine⟨mn,(_,_),tG,by constructor<;>cbv,jd⟩
 have aw:u=v:=by omega
 subst aw;clear Y V;rw[mQv PG];have SH:=ff (A:=A) aH nu (by omega) (by omega);obtain⟨ze,cN⟩:∃z,A .bB .sub .i64 zn R=z:=⟨_,rfl⟩;rw[cN]at SH;obtain⟨e,he⟩:∃e,e=T-u:=⟨_,rfl⟩;rw[<-he]at SH;have PH:a<=u/\u<=m/\m<=e/\e<=b/\e+u=T:=by omega
 obtain⟨A1,bF⟩:∃A1,A1=j.take (u-a):=⟨_,rfl⟩;obtain⟨A2,bz⟩:∃A2,A2=j.drop (u-a):=⟨_,rfl⟩;obtain⟨B1,bx⟩:∃B1,B1=B.take (e-m):=⟨_,rfl⟩;obtain⟨B2,bw⟩:∃B2,B2=B.drop (e-m):=⟨_,rfl⟩;have eA:j=A1++A2:=by rw[bF,bz,mXo]
 have eB:B=B1++B2:=by rw[bx,bw,mXo]
 have fp:A1.length=u-a:=by rw[bF,mQK];omega
 have fo:A2.length=m-u:=by rw[bz,mXg];omega
 have fm:B1.length=e-m:=by rw[bx,mQK];omega
 have fg:B2.length=b-e:=by rw[bw,mXg];omega
 have MK:∀x∈A1++B1,∀y∈A2++B2,lx lt x y:=by
  refine Oz sw (by rw[<-eA];exact bc) (by rw[<-eB];exact hB) (by rw[<-eA,<-eB];exact ht) (λp q hp hq=>?_) (λq p hq hp=>?_)
  .rw[bF]at hp;rw[bw]at hq;obtain⟨g0,g1⟩:=yR (by omega) hp;have g2:=head_drop hq;have g3:=(mQB.1 g2).1;refine bo (by omega) p q (by rw[show u-1-a=u-a-1 by omega];exact g1) (by rw[show T-u-m=e-m by omega];exact g2)
  rw[bx]at hq;rw[bz]at hp;obtain⟨g0,g1⟩:=yR (by omega) hq;have g2:=head_drop hp;have g3:=(mQB.1 g2).1;refine br (by omega) p q g2 (by rw[show T-1-u-m=e-m-1 by omega];exact g1)
 rw[eA,mXw]at bc;rw[eB,mXw]at hB;obtain⟨dj,dh,-⟩:=bc;obtain⟨dd,dc,-⟩:=hB;obtain⟨I2,cD⟩:∃I2:Unit->ad->Prop,∀g h',I2 g h'=(Kp [d] h h'/\bR [86] h h'/\cR h' d cap (bT (P++(A1++B1)++(A2++B2)++Q))):=⟨_,λ_ _=>rfl⟩;have f8:A .aI .lss R zm=decide (u<m):=by rw[bm A,decide_eq_decide];have:=nu.eq;have:=hm.eq;omega
 have f9:A .aI .lss zm ze=decide (m<e):=by rw[bm A,decide_eq_decide];have:=hm.eq;have:=SH.eq;omega
 have lF:∀h',cR h' d cap r->(¬u<m\/¬m<e)->cR h' d cap (bT (P++(A1++B1)++(A2++B2)++Q)):=λh' K q1=>by
  rw[fV,eA,eB]at K;rcases q1 with q1|q1
  .have:A2=[]:=mXN.1 (by omega);subst this;simpa using K
  have:B1=[]:=mXN.1 (by omega);subst this;simpa using K
 have cb:r=bT (P++A1)++bT A2++bT B1++bT (B2++Q):=by rw[fV,eA,eB];simp[bT]
 have sH:bT (P++A1)++bT B1++bT A2++bT (B2++Q)=bT (P++(A1++B1)++(A2++B2)++Q):=by simp[bT]
 have oR:cR E d cap (bT (P++A1)++bT A2++bT B1++bT (B2++Q)):=by rw[<-cb];exact o2
 have dD:len=(bT (P++A1)++bT A2++bT B1++bT (B2++Q)).length:=by rw[<-cb];exact Wn
 have cm:u=(bT (P++A1)).length:=by rw[iO,mQy];omega
 have cl:m=(bT (P++A1)).length+(bT A2).length:=by rw[<-cm,iO];omega
 have db:e=(bT (P++A1)).length+(bT A2).length+(bT B1).length:=by rw[<-cl,iO];omega
 have bn:∀h',Kp [d] h h'->bR [86] h h'->cR h' d cap (bT (P++(A1++B1)++(A2++B2)++Q))->I2 () h':=λh' d1 d2 d3=>by rw[cD];exact⟨d1,d2,d3⟩
 have cJ:u<m->bT A2≠[]:=λh h'=>by have:=congrArg List.length h';rw[iO,mQS]at this;omega
 have dB:m<e->bT B1≠[]:=λh h'=>by have:=congrArg List.length h';rw[iO,mQS]at this;omega
 clear bo br;cbv;rw[cN];refine Dw.go (G:=Unit) (λ_=>[]) (λ_=>[]) I2 ?_ ?_
 .clear hk;cbv;rw[f8];by_cases Wa:u<m
  .rw[mQu Wa];cbv;rw[f9];by_cases au:m<e
   .rw[mQu au];cbv;rw[TM];cbv;refine Yi oR dD nu hm SH cm cl db (cJ Wa) (dB au) _ (λl Z U W=>?_);rw[sH]at W;have H:=bn l (k2.trans Z) (t2.trans U) W;cbv;refine⟨(),by constructor<;>cbv,H⟩
   have H:=bn E k2 t2 (lF E o2 (.inr au));rw[mQv au];cbv;refine⟨(),by constructor<;>cbv,H⟩
  have H:=bn E k2 t2 (lF E o2 (.inl Wa));rw[mQv Wa];cbv;refine⟨(),by constructor<;>cbv,H⟩
 intro g l hg;cbv;rw[cD]at hg;obtain⟨Z,U,W⟩:=hg;clear cD bn cb sH oR dD cm cl db cJ dB lF f8 f9 o2;have cw:A .aI .lss za R=decide (a<u):=by rw[bm A,decide_eq_decide];have:=nu.eq;have:=ha.eq;omega
 have cx:A .aI .lss R NT=decide (u<md):=by rw[bm A,decide_eq_decide];have:=nu.eq;have:=Mi.eq;omega
 obtain⟨I3,jd⟩:∃I3:Unit->ad->Prop,∀g h',I3 g h'=(∃C1,C1.Perm (A1++B1)/\C1.Pairwise (lx lt)/\Kp [d] h h'/\bR [86] h h'/\cR h' d cap (bT (P++C1++(A2++B2)++Q))):=⟨_,λ_ _=>rfl⟩;have bk:∀h' C1,C1.Perm (A1++B1)->C1.Pairwise (lx lt)->Kp [d] h h'->bR [86] h h'->cR h' d cap (bT (P++C1++(A2++B2)++Q))->I3 () h':=λh' C1 d1 d2 d3 d4 d5=>by rw[jd];exact⟨C1,d1,d2,d3,d4,d5⟩
 have RC:∀x∈A1,∀y∈B1,x.2<y.2:=λx hx y D=>ht x (by rw[eA];exact mZf _ hx) y (by rw[eB];exact mZf _ D);have RB:∀x∈A2,∀y∈B2,x.2<y.2:=λx hx y D=>ht x (by rw[eA];exact mZT _ hx) y (by rw[eB];exact mZT _ D);have Wr:∀x∈A1++B1,kW x.1:=λx hx=>aV x (by rw[eA,eB];simp only[mQE]at hx |-;rcases hx with hx|hx<;>simp[hx]);have eg:∀x∈A2++B2,kW x.1:=λx hx=>aV x (by rw[eA,eB];simp only[mQE]at hx |-;rcases hx with hx|hx<;>simp[hx]);have oP:cR l d cap (bT (P++A1++B1++(A2++B2++Q))):=by simpa using W
 have wE:len=(P++A1++B1++(A2++B2++Q)).length:=by simp only[mQy];omega
 have eS:¬(a<u)\/¬(u<md)->(A1++B1).Pairwise (lx lt):=λq=>by
  rcases q with q|q
  .have:A1=[]:=mXN.1 (by omega);rw[this];exact dd
  have:B1=[]:=mXN.1 (by omega);rw[this,mXb];exact dj
 have cv:a<u->u<md->∀ {k':Value->ad->Prop},(∀h' C,Kp [d] l h'->bR [86] l h'->C.Perm (A1++B1)->C.Pairwise (lx lt)->cR h' d cap (bT (P++C++(A2++B2++Q)))->k' (.tuple #[]) h')->Ct 277 [.slice (some ⟨d,0,none⟩) len cap,.int .i64 za,.int .i64 R,.int .i64 NT,.func (.func f) #[] #[p0,p1]] l k':=λq1 q2 k' wT=>ih.ap oP (by omega) dj dd RC Wr (ay.sub Z U) wE ha nu Mi ea (by omega) (by omega) (by omega) (by omega) wT;refine Dw.go (G:=Unit) (λ_=>[]) (λ_=>[]) I3 ?_ ?_
 .clear hk;cbv;rw[cw];by_cases X:a<u
  .rw[mQu X];cbv;rw[cx];by_cases Wa:u<md
   .rw[mQu Wa];cbv;rw[Ao];cbv;refine cv X Wa (λh4 C1 k4 t4 hp hc o4=>?_);have H:=bk h4 C1 hp hc (Z.trans k4) (U.trans t4) (by simpa using o4);cbv;refine⟨(),by constructor<;>cbv,H⟩
   have H:=bk l _ (List.Perm.refl _) (eS (.inr Wa)) Z U W;rw[mQv Wa];cbv;refine⟨(),by constructor<;>cbv,H⟩
  have H:=bk l _ (List.Perm.refl _) (eS (.inl X)) Z U W;rw[mQv X];cbv;refine⟨(),by constructor<;>cbv,H⟩
 intro g4 h4 dH;cbv;rw[jd]at dH;obtain⟨C1,hp,hc,k4,t4,o4⟩:=dH;clear jd bk oP eS cv W cw cx;have fl:C1.length=md-a:=by rw[hp.length_eq,mQy];omega
 have en:A .aI .lss NT ze=decide (md<e):=by rw[bm A,decide_eq_decide];have:=SH.eq;have:=Mi.eq;omega
 have eo:A .aI .lss ze zb=decide (e<b):=by rw[bm A,decide_eq_decide];have:=SH.eq;have:=hb.eq;omega
 have oP:cR h4 d cap (bT ((P++C1)++A2++B2++Q)):=by simpa using o4
 have wE:len=((P++C1)++A2++B2++Q).length:=by simp only[mQy];omega
 have eS:¬(md<e)\/¬(e<b)->(A2++B2).Pairwise (lx lt):=λq=>by
  rcases q with q|q
  .have:A2=[]:=mXN.1 (by omega);rw[this];exact dc
  have:B2=[]:=mXN.1 (by omega);rw[this,mXb];exact dh
 have fin:∀h' C2,C2.Perm (A2++B2)->C2.Pairwise (lx lt)->Kp [d] h h'->bR [86] h h'->cR h' d cap (bT ((P++C1)++C2++Q))->k (.tuple #[]) h':=λh' C2 d1 d2 d3 d4 d5=>hk h' (C1++C2) d3 d4 (by rw[eA,eB];exact eKA hp d1) (dZg hc d2 hp d1 MK) (by simpa using d5);have et:md<e->e<b->∀ {k':Value->ad->Prop},(∀h' C,Kp [d] h4 h'->bR [86] h4 h'->C.Perm (A2++B2)->C.Pairwise (lx lt)->cR h' d cap (bT ((P++C1)++C++Q))->k' (.tuple #[]) h')->Ct 277 [.slice (some ⟨d,0,none⟩) len cap,.int .i64 NT,.int .i64 ze,.int .i64 zb,.func (.func f) #[] #[p0,p1]] h4 k':=λq1 q2 k' wT=>ih.ap oP (by omega) dh dc RB eg (ay.sub k4 t4) wE Mi SH hb (by rw[mQy];omega) (by rw[mQy];omega) (by rw[mQy];omega) (by omega) (by omega) wT;clear hk;rw[en];by_cases X:md<e
 .rw[mQu X];cbv;rw[eo];by_cases Wa:e<b
  .rw[mQu Wa];cbv;rw[Ao];cbv;refine et X Wa (λh5 C2 k5 t5 Gk oq o5=>?_);have H:=fin h5 C2 Gk oq (k4.trans k5) (t4.trans t5) o5;cbv;exact H
  have H:=fin h4 _ (List.Perm.refl _) (eS (.inr Wa)) k4 t4 (by simpa using o4);rw[mQv Wa];cbv;exact H
 have H:=fin h4 _ (List.Perm.refl _) (eS (.inl X)) k4 t4 (by simpa using o4);rw[mQv X];cbv;exact H
theorem eJK{lt:Row->Row->Bool}(s:FQ lt)(d:aG f=true){e:Value}{len:Nat}(N:Nat):bXV lt f e g n cap len W N:=by
 induction N with
 |zero=>refine⟨?_⟩;intro P A B Q h o u c t z V p l D F E a m b v y w j r q nA C k x;omega
 |succ N i=>exact bJI s d i
inductive Rs(lt:Row->Row->Bool)(bs:Nat):List (Tg Row)->List (Tg Row)->Prop
 |nil:Rs lt bs [] []
 |cons {X1 C1 X C:List (Tg Row)}:X1.length=bs->C1.Perm X1->C1.Pairwise (lx lt)->Rs lt bs X C->Rs lt bs (X1++X) (C1++C)
inductive Rt(lt:Row->Row->Bool)(bs:Nat):List (Tg Row)->List (Tg Row)->Prop
 |last {X C:List (Tg Row)}:X.length<=bs->C.Perm X->C.Pairwise (lx lt)->Rt lt bs X C
 |cons {X1 C1 X C:List (Tg Row)}:X1.length=bs->C1.Perm X1->C1.Pairwise (lx lt)->Rt lt bs X C->Rt lt bs (X1++X) (C1++C)
theorem Rs.snoc{lt:Row->Row->Bool}{bs:Nat}(h:Rs lt bs X C)(l:e.length=bs)(p:d.Perm e)(s:d.Pairwise (lx lt)):Rs lt bs (X++e) (C++d):=by
 induction h with
 |nil=>have:=Rs.cons l p s (Rs.nil (lt:=lt) (bs:=bs));simpa using this
 |cons a b c _ i=>rw[mXk,mXk];exact Rs.cons a b c i
theorem Rs.aXs{lt:Row->Row->Bool}{bs:Nat}(h:Rs lt bs X C)(l:e.length<=bs)(p:d.Perm e)(s:d.Pairwise (lx lt)):Rt lt bs (X++e) (C++d):=by
 induction h with
 |nil=>exact Rt.last l p s
 |cons a b c _ i=>rw[mXk,mXk];exact Rt.cons a b c i
theorem Rs.perm{lt:Row->Row->Bool}{bs:Nat}(h:Rs lt bs X C):C.Perm X:=by
 induction h with
 |nil=>exact List.Perm.refl _
 |cons a b c _ i=>exact b.append i
theorem Rt.perm{lt:Row->Row->Bool}{bs:Nat}(h:Rt lt bs X C):C.Perm X:=by
 induction h with
 |last a b c=>exact b
 |cons a b c _ i=>exact b.append i
theorem Rt.aXz{lt:Row->Row->Bool}{bs:Nat}(h:Rt lt bs X C)(l:bs<=X.length):∃f i e g,X=f++i/\C=e++g/\f.length=bs/\e.Perm f/\e.Pairwise (lx lt)/\Rt lt bs i g:=by
 cases h with
 |last a b c=>exact⟨X,[],C,[],by simp,by simp,by omega,b,c,Rt.last (by simp) (List.Perm.refl _) List.Pairwise.nil⟩
 |cons a b c d=>exact⟨_,_,_,_,rfl,rfl,a,b,c,d⟩
theorem Rt.small{lt:Row->Row->Bool}{bs:Nat}(h:Rt lt bs X C)(l:X.length<=bs):C.Pairwise (lx lt):=by
 cases h with
 |last a b c=>exact c
 | @cons g f X C a b c d=>rw[mQy,a]at l;have i:=d.perm.length_eq;have e:C=[]:=mXN.1 (by omega);rw[e,mXb];exact c
theorem Ro.bKH{Y Z:List (Tg Row)}(h:Ro (X++Y++Z)):Ro Y:=by unfold Ro at h |-;rw[mXw,mXw]at h;exact h.1.2.1
theorem Ro.two{Y:List (Tg Row)}(h:Ro (P++(X++(Y++Q)))):∀x∈X,∀y∈Y,x.2<y.2:=by unfold Ro at h;rw[mXw,mXw]at h;exact λx hx y a=>h.2.1.2.2 x hx y (mZf _ a)
theorem cQc[a:bM A](b:aS z i)(h:i<2^60):aS (A .bB .mul .i64 2 z) (2*i)/\aS (A .bB .mul .i64 z 2) (2*i):=by
 have c:=b.eq;constructor
 .constructor;rw[a.bB];show IntKind.wrap .i64 (2*z)=_;rw[IntWalk.i64_in _ (by omega)];omega
 constructor;rw[a.bB];show IntKind.wrap .i64 (z*2)=_;rw[IntWalk.i64_in _ (by omega)];omega
theorem cJR{lt:Row->Row->Bool}(w:FQ lt)(r:aG f=true){R D:List (Tg Row)}(o:cR h c cap (bT (D++(d++R))))(hX:X=e++(d++R))(u:D.Perm e)(S:Ro X)(V:∀x∈X,W x.1)(m:Jb lt f p g c h0 W)(t:Kp [c] h0 h)(v:bR [86] h0 h)(j:n=X.length){i:Int}{a:Nat}(l:aS z a)(q:aS i b)(y:a=e.length)(A:b=e.length+d.length)
 (s:∀h' C,Kp [c] h h'->bR [86] h h'->C.Perm d->C.Pairwise (lx lt)->cR h' c cap (bT ((D++C)++R))->k (.tuple #[]) h'):
 Ct 276 [.slice (some ⟨c,0,none⟩) n cap,.int .i64 z,.int .i64 i,.func (.func f) #[] #[p,g]] h k:=by
 have B:=u.length_eq;refine MB w r (P:=D) (X:=d) (Q:=R) (by rw[mXk];exact o) ?_ (λx hx=>V x (by rw[hX];simp[hx])) (m.sub t v) ?_ l q (by omega) (by omega) s
 .rw[hX,<-mXk]at S;exact S.bKH
 rw[j,hX];simp only[mQy];omega
theorem cJH{lt:Row->Row->Bool}(Z:FQ lt)(L:aG f=true){s t:Value}{g:Nat}{i j r D c R:List (Tg Row)}(o:cR h g cap (bT (D++(c++(d++R)))))(hX:X=i++(e++(j++r)))(Q:D.Perm i)(p:c.Perm e)(l:d.Perm j)(T:R.Perm r)(U:c.Pairwise (lx lt))(Y:d.Pairwise (lx lt))(la:0<e.length)(lb:0<j.length)(S:Ro X)(V:∀x∈X,W x.1)(q:Jb lt f s t g h0 W)(P:Kp [g] h0 h)(t0:bR [86] h0 h)(H:n=X.length){v u:Int}{a m:Nat}(J:aS z a)(N:aS v m)(K:aS u b)(ea:a=i.length)(em:m=i.length+e.length)(eb:b=i.length+e.length+j.length)
 (M:∀h' C,Kp [g] h h'->bR [86] h h'->C.Perm (e++j)->C.Pairwise (lx lt)->cR h' g cap (bT ((D++C)++R))->k (.tuple #[]) h'):
 Ct 277 [.slice (some ⟨g,0,none⟩) n cap,.int .i64 z,.int .i64 v,.int .i64 u,.func (.func f) #[] #[s,t]] h k:=by
 have l1:=Q.length_eq;have l2:=p.length_eq;have l3:=l.length_eq;have l4:=T.length_eq;rw[hX]at S;have I:=S.two;have G:D++(c++(d++R))=D++c++d++R:=by simp
 rw[G]at o;refine(eJK Z L (c.length+d.length)).ap o (mQD _) U Y (λx hx y O=>I x (p.subset hx) y (l.subset O)) (λx hx=>V x ?_) (q.sub P t0) ?_ J N K (by omega) (by omega) (by omega) (by omega) (by omega) (λh' C w A B E F=>M h' C w A (B.trans (p.append l)) E F)
 .rw[hX];rcases mQE.1 hx with hx|hx
  .simp[p.subset hx]
  simp[l.subset hx]
 rw[H,hX];simp only[mQy];omega
theorem nXJ{lt:Row->Row->Bool}(sw:FQ lt)(hf:aG f=true)(o:cR h b cap (bT X))(Sv:Ro X)(aV:∀x∈X,kW x.1)(v:Jb lt f p0 p1 b h kW)(B:n=X.length){M:Int}(hn:aS M n)
 (hk:∀h' C,Kp [b] h h'->bR [86] h h'->C.Perm X->C.Pairwise (lx lt)->cR h' b cap (bT C)->k (.tuple #[]) h'):
 Ct 240 [.slice (some ⟨b,0,none⟩) n cap,.int .i64 M,.func (.func f) #[] #[p0,p1]] h k:=by
 obtain⟨A,hA⟩:=Ar.ex;have Qd:=o.bd;rw[iO,<-B]at Qd;obtain⟨WB,jQ⟩:∃g,g=aG:=⟨_,rfl⟩;have tk:gE Tryz.prog ⟨ty,WB,gQu.aK,gQu.bF,λ_=>false,[],λ_ _ _=>False⟩:=by rw[jQ];exact ax _ _
 have an:WB 276=true:=by rw[jQ];kernel_rfl
 have Ao:WB 277=true:=by rw[jQ];kernel_rfl
 clear jQ;have ay:aS 20 20:=⟨rfl⟩;obtain⟨I,Y⟩:∃I:Nat->Int×Int->ad->Prop,∀q g h',I q g h'=∃D R d,X=D++R/\Rs lt 20 D d/\aS g.1 D.length/\aS g.2 (D.length+20)/\q=R.length/\Kp [b] h h'/\bR [86] h h'/\cR h' b cap (bT (d++R)):=⟨_,λ_ _ _=>rfl⟩;have V:I n (0,20) h:=by rw[Y];exact⟨[],X,[],rfl,Rs.nil,⟨rfl⟩,⟨rfl⟩,B,Kp.refl _ _,bR.refl _ _,o⟩
 obtain⟨J,dY⟩:∃J:Nat->Int->ad->Prop,∀q g h',J q g h'=∃bs C,aS g bs/\20<=bs/\bs<=2*n+20/\q=n-bs/\Kp [b] h h'/\bR [86] h h'/\Rt lt bs X C/\cR h' b cap (bT C):=⟨_,λ_ _ _=>rfl⟩;refine ah A tk Tryz.func240 rfl (by kernel_rfl) ?_;cbv;refine aX.go (G:=Int×Int) (λg=>[(7,.v (.int .i64 g.1)),(8,.v (.int .i64 g.2))]) (λ_=>[]) (λq g h'=>I q g h') n (0,20) (by constructor<;>cbv) V ?_
 intro ms g U hI;rw[Y]at hI;cbv;obtain⟨D,R,d,hX,E,r,p,YQ,k1,t1,o1⟩:=hI;obtain⟨L,l⟩:=g;replace r:aS L D.length:=r;replace p:aS l (D.length+20):=p;have ar:n=D.length+R.length:=by rw[B,hX,mQy]
 have f1:A .aI .leq l M=decide (20<=R.length):=by rw[vM A,decide_eq_decide];have:=p.eq;have:=hn.eq;omega
 rw[f1];have pD:=E.perm;by_cases ak:20<=R.length
 .obtain⟨N,aj⟩:∃N,N=R.take 20:=⟨_,rfl⟩;obtain⟨t,ag⟩:∃t,t=R.drop 20:=⟨_,rfl⟩;have eX:R=N++t:=by rw[aj,ag,mXo]
  have l1:N.length=20:=by rw[aj,mQK];omega
  have l2:t.length<ms:=by rw[ag,mXg];omega
  rw[eX]at hX o1;have nx:=vJ (A:=A) p ay (by omega);obtain⟨z2,dL⟩:∃z2,A .bB .add .i64 l 20=z2:=⟨_,rfl⟩;rw[dL]at nx;have c:∀ {m:Value->ad->Prop},(∀h' C,Kp [b] U h'->bR [86] U h'->C.Perm N->C.Pairwise (lx lt)->cR h' b cap (bT ((d++C)++t))->m (.tuple #[]) h')->Ct 276 [.slice (some ⟨b,0,none⟩) n cap,.int .i64 L,.int .i64 l,.func (.func f) #[] #[p0,p1]] U m:=λwT=>cJR sw hf o1 hX pD Sv aV v k1 t1 B r p rfl (by omega) wT;have S:∀a C,C.Perm N->C.Pairwise (lx lt)->Kp [b] h a->bR [86] h a->cR a b cap (bT ((d++C)++t))->I t.length (l,z2) a:=λa C i e w y j=>by
   rw[Y];exact⟨D++N,t,d++C,by rw[hX,mXk],E.snoc l1 i e,by rw[mQy,l1];exact p,by rw[mQy,l1];exact nx,rfl,w,y,j⟩
  obtain⟨mx,T⟩:∃mx,mx=t.length:=⟨_,rfl⟩;rw[<-T]at S l2;clear Y V hk dY;rw[mQu ak];cbv;rw[an];cbv;refine c (λa C k2 t2 i e o2=>?_);have jd:=S a C i e (k1.trans k2) (t1.trans t2) o2;clear S c;cbv;rw[dL];refine⟨mx,(_,_),l2,by constructor<;>cbv,jd⟩
 have al:cR U b cap (bT (d++(R++[]))):=by rw[mXb];exact o1
 have O:X=D++(R++[]):=by rw[mXb];exact hX
 have c:∀ {m:Value->ad->Prop},(∀h' C,Kp [b] U h'->bR [86] U h'->C.Perm R->C.Pairwise (lx lt)->cR h' b cap (bT ((d++C)++[]))->m (.tuple #[]) h')->Ct 276 [.slice (some ⟨b,0,none⟩) n cap,.int .i64 L,.int .i64 M,.func (.func f) #[] #[p0,p1]] U m:=λwT=>cJR sw hf al O pD Sv aV v k1 t1 B r hn rfl ar wT;have Z:∀a C,C.Perm R->C.Pairwise (lx lt)->Kp [b] h a->bR [86] h a->cR a b cap (bT ((d++C)++[]))->J (n-20) 20 a:=λa C i e w y j=>by
  rw[dY];exact⟨20,d++C,ay,mQD _,by omega,rfl,w,y,by rw[hX];exact E.aXs (by omega) i e,by rw[mXb]at j;exact j⟩
 clear Y V r p f1 o1 al hX O E pD;obtain⟨mz,FH⟩:∃mz,mz=n-20:=⟨_,rfl⟩;rw[<-FH]at Z;rw[mQv ak];cbv;rw[an];cbv;refine c (λa C k2 t2 i e o2=>?_);have FN:=Z a C i e (k1.trans k2) (t1.trans t2) o2;clear Z c;cbv;refine aX.go (G:=Int) (λg=>[(6,.v (.int .i64 g))]) (λ_=>[]) (λq g h'=>J q g h') mz 20 (by constructor<;>cbv) FN ?_
 intro aP g h3 Zd;rw[dY]at Zd;cbv;obtain⟨bs,C3,ng,ba,JD,aZ,k3,t3,bk,o3⟩:=Zd;have f2:A .aI .lss g M=decide (bs<n):=by rw[bm A,decide_eq_decide];have:=ng.eq;have:=hn.eq;omega
 rw[f2];by_cases ab:bs<n
 .have hd:=cQc (A:=A) ng (by omega);obtain⟨zw,wA⟩:∃z,A .bB .mul .i64 2 g=z:=⟨_,rfl⟩;obtain⟨zv,P⟩:∃z,A .bB .mul .i64 g 2=z:=⟨_,rfl⟩;rw[wA,P]at hd;obtain⟨nw,nv⟩:=hd;have Z:∀a C,Rt lt (2*bs) X C->Kp [b] h a->bR [86] h a->cR a b cap (bT C)->J (n-2*bs) zv a:=λa C e w y j=>by
   rw[dY];exact⟨2*bs,C,nv,by omega,by omega,rfl,w,y,e,j⟩
  have pz:n-2*bs<aP:=by omega
  obtain⟨mj,aK⟩:∃mj,mj=n-2*bs:=⟨_,rfl⟩;rw[<-aK]at Z pz;obtain⟨I,Y⟩:∃I:Nat->Int×Int->ad->Prop,∀q g h',I q g h'=∃D R d CR,X=D++R/\Rs lt (2*bs) D d/\Rt lt bs R CR/\aS g.1 D.length/\aS g.2 (D.length+2*bs)/\q=R.length/\Kp [b] h h'/\bR [86] h h'/\cR h' b cap (bT (d++CR)):=⟨_,λ_ _ _=>rfl⟩;have V:I n (0,zw) h3:=by rw[Y];exact⟨[],X,[],C3,rfl,Rs.nil,bk,⟨rfl⟩,by rw[mQS,mXj];exact nw,B,k3,t3,o3⟩
  clear dY hk;rw[mQu ab];cbv;rw[wA];refine aX.go (G:=Int×Int) (λg=>[(7,.v (.int .i64 g.1)),(8,.v (.int .i64 g.2))]) (λ_=>[]) (λq g h'=>I q g h') n (0,zw) (by constructor<;>cbv) V ?_
  intro aW g3 H hI;rw[Y]at hI;cbv;obtain⟨D,R,d,CR,hX,E,F,r,p,YQ,k4,t4,o4⟩:=hI;obtain⟨L,l⟩:=g3;replace r:aS L D.length:=r;replace p:aS l (D.length+2*bs):=p;have ar:n=D.length+R.length:=by rw[B,hX,mQy]
  have f1:A .aI .leq l M=decide (2*bs<=R.length):=by rw[vM A,decide_eq_decide];have:=p.eq;have:=hn.eq;omega
  rw[f1];have pD:=E.perm;have nm:=vJ (A:=A) r ng (by omega);obtain⟨zm,Q⟩:∃z,A .bB .add .i64 L g=z:=⟨_,rfl⟩;rw[Q]at nm;by_cases az:2*bs<=R.length
  .obtain⟨u,Xt,Ca,bb,e1,e2,la,pa,sa,K⟩:=F.aXz (by omega);have ji:Xt.length+bs=R.length:=by rw[e1,mQy];omega
   obtain⟨s,Xr,Cb,Cr,e3,e4,lb,pb,sb,aw⟩:=K.aXz (by omega);have iJ:Xr.length+bs=Xt.length:=by rw[e3,mQy];omega
   have O:X=D++(u++(s++Xr)):=by rw[hX,e1,e3]
   have W:cR H b cap (bT (d++(Ca++(Cb++Cr)))):=by rw[<-e4,<-e2];exact o4
   have nx:=vJ (A:=A) p nw (by omega);obtain⟨z2,dL⟩:∃z2,A .bB .add .i64 l zw=z2:=⟨_,rfl⟩;rw[dL]at nx;have l2:Xr.length<aW:=by omega
   have c:∀ {m:Value->ad->Prop},(∀h' C,Kp [b] H h'->bR [86] H h'->C.Perm (u++s)->C.Pairwise (lx lt)->cR h' b cap (bT ((d++C)++Cr))->m (.tuple #[]) h')->Ct 277 [.slice (some ⟨b,0,none⟩) n cap,.int .i64 L,.int .i64 zm,.int .i64 l,.func (.func f) #[] #[p0,p1]] H m:=λwT=>cJH sw hf W O pD pa pb aw.perm sa sb (by omega) (by omega) Sv aV v k4 t4 B r nm p rfl (by omega) (by omega) wT;have S:∀a C,C.Perm (u++s)->C.Pairwise (lx lt)->Kp [b] h a->bR [86] h a->cR a b cap (bT ((d++C)++Cr))->I Xr.length (l,z2) a:=λa C i e w y j=>by
    rw[Y];have tW:(D++(u++s)).length=D.length+2*bs:=by simp only[mQy];omega
    exact⟨D++(u++s),Xr,d++C,Cr,by rw[O];simp,E.snoc (by rw[mQy];omega) i e,aw,by rw[tW];exact p,by rw[tW];exact nx,rfl,w,y,j⟩
   obtain⟨mx,T⟩:∃mx,mx=Xr.length:=⟨_,rfl⟩;rw[<-T]at S l2;clear Y V Z;rw[mQu az];cbv;rw[Q,Ao];cbv;refine c (λa C k2 t2 i e o2=>?_);have jd:=S a C i e (k4.trans k2) (t4.trans t2) o2;clear S c;cbv;rw[wA];cbv;rw[dL];refine⟨mx,(_,_),l2,by constructor<;>cbv,jd⟩
  have f3:A .aI .lss zm M=decide (bs<R.length):=by rw[bm A,decide_eq_decide];have:=nm.eq;have:=hn.eq;omega
  rw[mQv az];clear Y V;cbv;rw[Q];cbv;rw[f3];by_cases aH:bs<R.length
  .obtain⟨u,s,Ca,Cb,e1,e2,la,pa,sa,K⟩:=F.aXz (by omega);have ji:s.length+bs=R.length:=by rw[e1,mQy];omega
   have sb:=K.small (by omega);have O:X=D++(u++(s++[])):=by rw[hX,e1,mXb]
   have W:cR H b cap (bT (d++(Ca++(Cb++[])))):=by rw[mXb,<-e2];exact o4
   have c:∀ {m:Value->ad->Prop},(∀h' C,Kp [b] H h'->bR [86] H h'->C.Perm (u++s)->C.Pairwise (lx lt)->cR h' b cap (bT ((d++C)++[]))->m (.tuple #[]) h')->Ct 277 [.slice (some ⟨b,0,none⟩) n cap,.int .i64 L,.int .i64 zm,.int .i64 M,.func (.func f) #[] #[p0,p1]] H m:=λwT=>cJH sw hf W O pD pa K.perm (List.Perm.refl _) sa sb (by omega) (by omega) Sv aV v k4 t4 B r nm hn rfl (by omega) (by omega) wT;have au:∀a C,C.Perm (u++s)->C.Pairwise (lx lt)->Kp [b] h a->bR [86] h a->cR a b cap (bT ((d++C)++[]))->J mj zv a:=λa C i e w y j=>Z a (d++C) (by rw[hX,e1];exact E.aXs (by rw[mQy];omega) i e) w y (by rw[mXb]at j;exact j);rw[mQu aH];cbv;rw[Ao];cbv;refine c (λa C k2 t2 i e o2=>?_);have jd:=au a C i e (k4.trans k2) (t4.trans t2) o2;clear au Z c;cbv;rw[P];refine⟨mj,_,pz,by constructor<;>cbv,jd⟩
  have jd:=Z H (d++CR) (by rw[hX];exact E.aXs (by omega) F.perm (F.small (by omega))) k4 t4 o4;rw[mQv aH];clear Z;cbv;rw[P];refine⟨mj,_,pz,by constructor<;>cbv,jd⟩
 have af:=hk h3 C3 k3 t3 bk.perm (bk.small (by omega)) o3;clear dY hk;rw[mQv ab];cbv;exact af
end Go.S
