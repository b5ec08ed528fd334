import Derived.Test.YtifjeceolckgaaaGreatYA
import Derived.Test.YtifjeceolckgaaaGreatQE
set_option linter.all false
set_option maxRecDepth 100000
set_option maxHeartbeats 8000000
namespace Go.S
open Go.Sx Go.Proofs
variable {z:Int}{cols:List cK}{c n:Nat}{b:Option Addr}{y:Qy}{f:Value}{k:Value->ad->Prop}{x:aJ}{h h0:ad}
theorem Dh(a b:Int):eR a b<0↔a<b:=by
 unfold eR;by_cases h:a<b
 .rw[if_pos (mQu h)];exact⟨λ_=>h,λ_=>by decide⟩
 rw[if_neg (by simpa using h)];constructor
 .intro c;split at c<;>simp at c
 intro c;exact absurd c h
theorem Bl(a b:Int):eR a b=0↔a=b:=by
 unfold eR;by_cases h:a<b
 .rw[if_pos (mQu h)];exact⟨λc=>by simp at c,λc=>by omega⟩
 rw[if_neg (by simpa using h)];by_cases d:a>b
 .rw[if_pos (mQu d)];exact⟨λc=>by simp at c,λc=>by omega⟩
 rw[if_neg (by simpa using d)];exact⟨λ_=>by omega,λ_=>rfl⟩
theorem AB(a b:cO):bC a b<0↔a.k<b.k\/(a.k=b.k/\(a.n<b.n\/(a.n=b.n/\eC a.s b.s<0))):=by
 have e:bC a b=if eR a.k b.k≠0 then eR a.k b.k else if eR a.n b.n≠0 then eR a.n b.n else if eC a.s b.s≠0 then eC a.s b.s else 0:=by unfold bC;simp only[fP,mQR]
 have f:=Dh a.k b.k;have g:=Bl a.k b.k;have n:=Dh a.n b.n;have i:=Bl a.n b.n;rw[e];split
 .rename_i h;constructor
  .intro c;exact .inl (f.1 c)
  rintro(c| ⟨c,-⟩)
  .exact f.2 c
  exact absurd (g.2 c) h
 rename_i h;have k:=g.1 (mXc.1 h);split
 .rename_i d;constructor
  .intro c;exact .inr ⟨k,.inl (n.1 c)⟩
  rintro(c| ⟨-,c| ⟨c,-⟩⟩)
  .omega
  .exact n.2 c
  exact absurd (i.2 c) d
 rename_i d;have l:=i.1 (mXc.1 d);split
 .constructor
  .intro c;exact .inr ⟨k,.inr ⟨l,c⟩⟩
  rintro(c| ⟨-,c| ⟨-,c⟩⟩)
  .omega
  .omega
  exact c
 rename_i j;constructor
 .intro c;exact absurd c (by decide)
 rintro(c| ⟨-,c| ⟨-,c⟩⟩)
 .omega
 .omega
 rw[mXc.1 j]at c;exact absurd c (by decide)
theorem bXc(a b:ByteArray):eC a b<0\/eC a b=0\/eC b a<0:=by have:=Di a b;omega
def Gi(a b:cO):Bool:=decide (bC a b<0)
theorem BZ(a:cO):Gi a a=false:=by unfold Gi;rw[xg];rfl
theorem AW{a b c:cO}(h:Gi a b=true)(d:Gi b c=true):Gi a c=true:=by
 unfold Gi at *;rw[mQR,AB]at *;rcases h with h| ⟨h,h| ⟨h,e⟩⟩<;>rcases d with d| ⟨d,d| ⟨d,X⟩⟩
 case inr.inr.inr.inr=>exact .inr ⟨by omega,.inr ⟨by omega,IG e X⟩⟩
 all_goals first|exact .inl (by omega) |exact .inr ⟨by omega,.inl (by omega)⟩
theorem Ml(a b:cO):Gi a b=true\/a=b\/Gi b a=true:=by
 unfold Gi;rw[mQR,AB,mQR,AB];obtain⟨k,n,s1⟩:=a;obtain⟨c,d,s2⟩:=b;show(k<c\/(k=c/\(n<d\/(n=d/\eC s1 s2<0))))\/_\/(c<k\/(c=k/\(d<n\/(d=n/\eC s2 s1<0))));rcases mJX k c with h|h|h
 .exact .inl (.inl h)
 .rcases mJX n d with g|g|g
  .exact .inl (.inr ⟨h,.inl g⟩)
  .rcases bXc s1 s2 with f|f|f
   .exact .inl (.inr ⟨h,.inr ⟨g,f⟩⟩)
   .exact .inr (.inl (by rw[h,g,zI f]))
   exact .inr (.inr (.inr ⟨h.symm,.inr ⟨g.symm,f⟩⟩))
  exact .inr (.inr (.inr ⟨h.symm,.inl g⟩))
 exact .inr (.inr (.inl h))
theorem Mm{a b c:cO}(e:Gi a b=false)(d:Gi b c=false):Gi a c=false:=by
 cases h:Gi a c with
 |false=>rfl
 |true=>
  rcases Ml a b with g|g|g
  .rw[g]at e;cases e
  .subst g;rw[h]at d;cases d
  have:=AW g h;rw[this]at d;cases d
theorem tP(k:Int)(d:Bool)(a b:Row):wP k d a b=if d=true then Gi (fT b k) (fT a k)else Gi (fT a k) (fT b k):=by unfold wP Mg Gi;cases d<;>rfl
theorem Ce(k:Int)(d:Bool):FQ (wP k d):=by
 cases d with
 |true=>exact⟨λx=>by rw[tP];exact BZ _,λx y z h a=>by rw[tP]at *;exact AW a h,λx y z h a=>by rw[tP]at *;exact Mm a h⟩
 |false=>exact⟨λx=>by rw[tP];exact BZ _,λx y z h a=>by rw[tP]at *;exact AW h a,λx y z h a=>by rw[tP]at *;exact Mm h a⟩
theorem eKE(a b:cO)(d:Bool)(h:ad)(e:∀h',Le h h'->k (.int .i64 (Mg d a b)) h'):Ct 179 [.agg #[.int .i64 a.k,.int .i64 a.n,.string a.s],.agg #[.int .i64 b.k,.int .i64 b.n,.string b.s],.bool d] h k:=by
 have P:Mg d a b=if d=true then bC b a else bC a b:=rfl
 generalize Mg d a b=D at *;refine mQx gXl Tryz.func179 λA j=>?_;cbv;cases d with
 |true=>rw[if_pos rfl]at P;cbv;refine(pg b a h).mono (λv g hR=>?_);obtain⟨l,z,i,c⟩:=hR;rw[i];rw[<-P]at c;subst c;have f:=e g l;clear e P;cbv;exact f
 |false=>rw[if_neg (by simp)]at P;cbv;refine(pg a b h).mono (λv g hR=>?_);obtain⟨l,z,i,c⟩:=hR;rw[i];rw[<-P]at c;subst c;have f:=e g l;clear e P;cbv;exact f
theorem bXa{o p s:Nat}(Q:h0 o=some (.cells #[.int .i64 z] 3 (0,0)))(P:h0 p=some (.cells #[.pointer (some ⟨s,0,none⟩)] 176 (0,0)))(q:oC h0 s x cols y)(T:o≠n)(S:p≠n)(U:s≠n)(hz:0<=z):Jb (wP z x.desc) 178 (.pointer (some ⟨o,0,none⟩)) (.pointer (some ⟨p,0,none⟩)) n h0 (λr=>z<r.length):=by
 refine⟨λ{h u v G W cx J X cy} l t1 hu hv t B {k} E=>?_⟩;have C:=l _ _ Q (by simpa using T);have M:=l _ _ P (by simpa using S);obtain⟨i,j⟩:∃i:Nat,z=(i:Int):=⟨z.toNat,by omega⟩;have m:aS z i:=⟨j⟩;obtain⟨c,f⟩:=mQA u i;obtain⟨d,N⟩:=mQA v i;have K:=lD f j;have L:=lD N j;have lu:=t.len;have lv:=B.len;have H:G.isSome=true/\0<=z/\z<(W:Int):=⟨t.aT,m.ix (by omega)⟩;have I:J.isSome=true/\0<=z/\z<(X:Int):=⟨B.aT,m.ix (by omega)⟩;have e:=m.eq;have b:∀w:Int,w=Mg x.desc (fT u z) (fT v z)->(w<0↔wP z x.desc u v=true):=λw b=>by unfold wP;rw[mQR,b]
 rw[K,L]at b;refine q.elim (λb5 n5 c5 b6 n6 c6 b7 n7 c7 b8 n8 c8 b9 n9 c9 gW jD gT cb cn cc g Y Z q3 q4 q5 q6 q7=>?_);clear Y Z q3 q4 q5 q6 q7;have O:=l _ _ g (by simpa using U);refine mQx ZZ Tryz.func178 λA hA=>?_;cbv;refine mQw C ?_;cbv;refine⟨H,?_⟩;cbv;refine t.load f e (λcs a=>?_);have a:cs=[.int .i64 c.k,.int .i64 c.n,.string c.s]:=a;subst a;cbv;refine mQw C ?_;cbv;refine⟨I,?_⟩;cbv;refine B.load N e (λcs a=>?_);have a:cs=[.int .i64 d.k,.int .i64 d.n,.string d.s]:=a;subst a;cbv;repeat (first|((try rw[ai A]);(try rw[ai A]);(first|refine mQw M ?_|refine mQw O ?_);cbv)|(refine⟨⟨_,rfl,rfl⟩,?_⟩;cbv))
 refine eKE c d x.desc h (λR V=>?_);have F:=E R _ V (b _ rfl);clear E b;generalize Mg x.desc c d=D at *;cbv;exact F
theorem ZC{o p s:Nat}(Q:h0 o=some (.cells #[.int .i64 z] 3 (0,0)))(P:h0 p=some (.cells #[.pointer (some ⟨s,0,none⟩)] 176 (0,0)))(q:oC h0 s x cols y)(T:o≠n)(S:p≠n)(U:s≠n)(hz:0<=z):Jb (wP z x.desc) 242 (.pointer (some ⟨o,0,none⟩)) (.pointer (some ⟨p,0,none⟩)) n h0 (λr=>z<r.length):=by
 refine⟨λ{h u v G W cx J X cy} l t1 hu hv t B {k} E=>?_⟩;have C:=l _ _ Q (by simpa using T);have M:=l _ _ P (by simpa using S);obtain⟨i,j⟩:∃i:Nat,z=(i:Int):=⟨z.toNat,by omega⟩;have m:aS z i:=⟨j⟩;obtain⟨c,f⟩:=mQA u i;obtain⟨d,N⟩:=mQA v i;have K:=lD f j;have L:=lD N j;have lu:=t.len;have lv:=B.len;have H:G.isSome=true/\0<=z/\z<(W:Int):=⟨t.aT,m.ix (by omega)⟩;have I:J.isSome=true/\0<=z/\z<(X:Int):=⟨B.aT,m.ix (by omega)⟩;have e:=m.eq;have b:∀w:Int,w=Mg x.desc (fT u z) (fT v z)->(w<0↔wP z x.desc u v=true):=λw b=>by unfold wP;rw[mQR,b]
 rw[K,L]at b;refine q.elim (λb5 n5 c5 b6 n6 c6 b7 n7 c7 b8 n8 c8 b9 n9 c9 gW jD gT cb cn cc g Y Z q3 q4 q5 q6 q7=>?_);clear Y Z q3 q4 q5 q6 q7;have O:=l _ _ g (by simpa using U);refine mQx gQs Tryz.func242 λA hA=>?_;cbv;refine mQw C ?_;cbv;refine⟨H,?_⟩;cbv;refine t.load f e (λcs a=>?_);have a:cs=[.int .i64 c.k,.int .i64 c.n,.string c.s]:=a;subst a;cbv;refine mQw C ?_;cbv;refine⟨I,?_⟩;cbv;refine B.load N e (λcs a=>?_);have a:cs=[.int .i64 d.k,.int .i64 d.n,.string d.s]:=a;subst a;cbv;repeat (first|((try rw[ai A]);(try rw[ai A]);(first|refine mQw M ?_|refine mQw O ?_);cbv)|(refine⟨⟨_,rfl,rfl⟩,?_⟩;cbv))
 refine eKE c d x.desc h (λR V=>?_);have F:=E R _ V (b _ rfl);clear E b;generalize Mg x.desc c d=D at *;cbv;exact F
theorem cQf(o:k (.tuple #[]) h):Ct 276 [.slice b 0 c,.int .i64 0,.int .i64 0,f] h k:=by
 obtain⟨A,q⟩:=Ar.ex;have n:=(⟨rfl⟩:aS 0 0).succ (A:=A);obtain⟨a,j⟩:∃z,A .bB .add .i64 0 1=z:=⟨_,rfl⟩;rw[j]at n;have l:A .aI .lss a 0=false:=by rw[bm A];exact mQv (by have:=n.eq;omega)
 obtain⟨I,Y⟩:∃I:Nat->Int->ad->Prop,∀m g h',I m g h'=(g=a/\h'=h):=⟨_,λ_ _ _=>rfl⟩;have J:I 0 a h:=by rw[Y];exact⟨rfl,rfl⟩
 refine mQF fKX A Tryz.func276 ?_;cbv;rw[j];refine aX.go (G:=Int) (λg=>[(8,.v (.int .i64 g))]) (λ_=>[]) (λm g h'=>I m g h') 0 a (by constructor<;>cbv) J ?_
 intro m z p d;rw[Y]at d;cbv;obtain⟨e,i⟩:=d;rw[e,i,l];clear J Y;cbv;exact o
theorem bJQ(p:k (.tuple #[]) h):Ct 240 [.slice b 0 c,.int .i64 0,f] h k:=by
 obtain⟨A,t⟩:=Ar.ex;have n:A .aI .leq 20 0=false:=by rw[vM A];exact mQv (by omega)
 have o:A .aI .lss 20 0=false:=by rw[bm A];exact mQv (by omega)
 obtain⟨I,a⟩:∃I:Nat->Int×Int->ad->Prop,∀m g h',I m g h'=(g=(0,20)/\h'=h):=⟨_,λ_ _ _=>rfl⟩;have l:I 0 (0,20) h:=by rw[a];exact⟨rfl,rfl⟩
 obtain⟨J,d⟩:∃J:Nat->Int->ad->Prop,∀m g h',J m g h'=(g=20/\h'=h):=⟨_,λ_ _ _=>rfl⟩;have F:J 0 20 h:=by rw[d];exact⟨rfl,rfl⟩
 refine mQF gQu A Tryz.func240 ?_;cbv;refine aX.go (G:=Int×Int) (λg=>[(7,.v (.int .i64 g.1)),(8,.v (.int .i64 g.2))]) (λ_=>[]) (λq g h'=>I q g h') 0 (0,20) (by constructor<;>cbv) l ?_
 intro u g r j;rw[a]at j;cbv;obtain⟨e,i⟩:=j;rw[e,i];clear a l;cbv;rw[n];cbv;refine cQf ?_;cbv;refine aX.go (G:=Int) (λg=>[(6,.v (.int .i64 g))]) (λ_=>[]) (λq g h'=>J q g h') 0 20 (by constructor<;>cbv) F ?_
 intro Q g s Z;rw[d]at Z;cbv;obtain⟨e,i⟩:=Z;rw[e,i,o];clear d F;cbv;exact p
theorem aXO{lt:Row->Row->Bool}(L:FQ lt){f:FuncId}(Y:aG f=true){w y:Value}{H:Row->Prop}(I:Le h0 h){rows:List Row}{B:Option Addr}{e:Nat}(s:cF 84 aD h0 h (.slice B n e) rows)(V:∀r∈rows,H r)
 (m:∀d c fr,h d=some (.cells c 84 fr)->Jb lt f w y d h H) 
 (q:∀h',Le h0 h'->(∀tys,84∉tys->bR tys h h')->(∀b o,h b=some o->(∀c fr,o≠.cells c 84 fr)->h' b=some o)->cF 84 aD h0 h' (.slice B n e) (gL lt rows)->k (.tuple #[]) h'):
 Ct 177 [.slice B n e,.func (.func f) #[] #[w,y]] h k:=by
 obtain⟨A,U⟩:=Ar.ex;have tG:=s.sl.len;have JD:=s.sl.bound;by_cases Z:n=0
 .subst Z;have hr:rows=[]:=mXN.1 tG.symm;subst hr;have t:=q h I (λ_ _=>bR.refl _ _) (λ_ _ a _=>a) s;have hz:A .nat 0=0:=by rw[U.nat];rfl
  clear q m;refine mQF gXm A Tryz.func177 ?_;cbv;rw[hz];refine bJQ ?_;cbv;exact t
 obtain⟨d,a,J,hl,o⟩:=s.own (by omega);subst a;obtain⟨c,u,-⟩:=o.out;have N:=m _ _ _ u;have K:aS (A .nat n) n:=aS.nat n;obtain⟨zn,P⟩:∃z,A .nat n=z:=⟨_,rfl⟩;rw[P]at K;obtain⟨X,hX⟩:∃X,X=GL 0 rows:=⟨_,rfl⟩;have p:bT X=rows:=by rw[hX];exact BE 0 rows
 have S:Ro X:=by rw[hX];exact GK 0 rows
 have j:n=X.length:=by rw[hl,<-p,iO]
 have l:∀ {G:Value->ad->Prop},(∀h' C,Kp [d] h h'->bR [86] h h'->C.Perm X->C.Pairwise (lx lt)->cR h' d e (bT C)->G (.tuple #[]) h')->Ct 240 [.slice (some ⟨d,0,none⟩) n e,.int .i64 zn,.func (.func f) #[] #[w,y]] h G:=λwT=>nXJ L Y (X:=X) (by rw[p];exact o) S (λx hx=>V x.1 (by rw[<-p];exact mKq hx)) N j K wT;have fin:∀h' C,Kp [d] h h'->C.Perm X->C.Pairwise (lx lt)->cR h' d e (bT C)->k (.tuple #[]) h':=λh' C i D R E=>by
  have F:bT C=gL lt rows:=by rw[<-p];exact bJT L S D R
  refine q h' (λb o a=>i _ _ (I _ _ a) (λv=>?_)) (λtys ht=>i.ES u ht) (λb o a ho=>i _ _ a (λv=>?_)) ?_
  .rw[mQH.1 v,J]at a;cases a
  .rw[mQH.1 v,u]at a;cases a;exact ho _ _ rfl
  rw[F]at E;exact E.buf J (by rw[<-F,iO,D.length_eq];exact j)
 obtain⟨W,Q⟩:∃g,g=aG:=⟨_,rfl⟩;have tk:gE Tryz.prog ⟨ty,W,gXm.aK,gXm.bF,λ_=>false,[],λ_ _ _=>False⟩:=by rw[Q];exact ax _ _
 have M:W 240=true:=by rw[Q];kernel_rfl
 clear Q q m;refine ah A tk Tryz.func177 rfl (by kernel_rfl) ?_;cbv;rw[M];cbv;rw[P];refine l (λT C k2 t2 i O o2=>?_);have t:=fin T C k2 i O o2;clear fin l;cbv;exact t
theorem Et{nm:ByteArray}:∀ {cols:List cK} {i:Int} {at_:Option Int},0<=i->(∀a,at_=some a->0<=a/\a<i)->(js nm cols i at_).2=0->0<=(js nm cols i at_).1/\(js nm cols i at_).1<i+cols.length
 | [],i,none,_,_,h=>by simp[js]at h
 | [],i,some a,_,b,_=>by
  have:=b a rfl;show 0<=a/\a<i+((0:Nat):Int);omega
 |c::r,i,at_,d,b,h=>by
  unfold js at h |-;rw[mQM];cases t:pW nm c.name with
  |false=>rw[t]at h;have:=Et (cols:=r) (i:=i+1) (at_:=at_) (by omega) (λa e=>by have:=b a e;omega) h;show 0<=(js nm r (i+1) at_).1/\(js nm r (i+1) at_).1<i+((r.length+1:Nat):Int);omega
  |true=>
   rw[t]at h;cases at_ with
   |some a=>exact absurd (show(12:Int)=0 from h) (by decide)
   |none=>have:=Et (cols:=r) (i:=i+1) (at_:=some i) (by omega) (λa e=>by cases e;omega) h;show 0<=(js nm r (i+1) (some i)).1/\(js nm r (i+1) (some i)).1<i+((r.length+1:Nat):Int);omega
theorem Fi{nm:ByteArray}(h:(bN nm cols).2=0):(bN nm cols).1<cols.length:=by
 unfold bN at h |-;split
 .have:(0:Int)<=cols.length:=Int.natCast_nonneg _;show(-1:Int)<_;omega
 rename_i n;rw[if_neg n]at h;have:=Et (nm:=nm) (cols:=cols) (i:=0) (at_:=none) (by omega) (λa e=>by cases e) h;unfold gS;omega
theorem Lb(h:dp x cols=(y,0)):y.order<cols.length/\y.group<cols.length:=by
 have c:=Fi (nm:=x.group) (cols:=cols);have d:=Fi (nm:=x.order) (cols:=cols);unfold dp at h;split at h
 .rename_i a;rw[Prod.mk.injEq]at h;exact absurd h.2 a
 split at h
 .rename_i a;rw[Prod.mk.injEq]at h;exact absurd h.2 a
 split at h
 .rename_i a;rw[Prod.mk.injEq]at h;exact absurd h.2 a
 generalize bN x.group cols=G at *;obtain⟨g,e⟩:=G;generalize bN x.order cols=O at *;obtain⟨o,f⟩:=O;replace c:e=0->g<cols.length:=c;replace d:f=0->o<cols.length:=d;simp only[]at h;split at h
 .rename_i a;rw[Prod.mk.injEq]at h;exact absurd h.2 a
 rename_i a;split at h
 .rename_i b;rw[Prod.mk.injEq]at h;exact absurd h.2 b
 rename_i b;have R:=c (mXc.1 a);have w:=d (mXc.1 b);split at h
 .rw[Prod.mk.injEq]at h;rw[<-h.1];exact⟨w,R⟩
 split at h
 .rw[Prod.mk.injEq]at h;exact absurd h.2 (by decide)
 rw[Prod.mk.injEq]at h;rw[<-h.1];exact⟨w,R⟩
theorem oM{a:Type}{lt:a->a->Bool}{l:List a}{r:a}(h:r∈gL lt l):r∈l:=(gh lt l).subset h
theorem dZm{qp:Nat}(q:oC h qp x cols y)(hx:dr x)(hc:∀c∈cols,Nm c.name){K:List Row}(rZ:∀r∈K,fS r)(al:K.length<=2^20)(bc:dp x cols=(y,0))(hw:∀r∈K,cols.length<=r.length){rb:Option Addr}{rn rc:Nat}(l0:Le h0 h)(qr:cF 84 aD h0 h (.slice rb rn rc) K)
  (Q:∀h' b n c,Le h0 h'->Sl 84 aD h' (.slice b n c) (eJ x cols y.order K).1->k (.tuple #[.slice b n c,.int .i64 (eJ x cols y.order K).2]) h'):
 Ct 87 [.pointer (some ⟨qp,0,none⟩),.slice rb rn rc] h k:=by
 obtain⟨A,hA⟩:=Ar.ex;obtain⟨rows,O⟩:∃r,r=if y.order>=0 then gL (wP y.order x.desc) K else K:=⟨_,rfl⟩
 have hP:eJ x cols y.order K=eZ x cols (bL rows x.eG) []:=by rw[O];rfl
 rw[hP]at Q;obtain⟨D,a⟩:∃D,eZ x cols (bL rows x.eG) []=D:=⟨_,rfl⟩;rw[a]at Q;have S:∀r∈rows,r∈K:=λr hr=>by
  rw[O]at hr;split at hr
  .exact oM hr
  exact hr
 have hr:∀r∈rows,fS r:=λr h=>rZ r (S r h);have mF:rows.length<=2^20:=by
  rw[O];split
  .rw[(gh _ _).length_eq];exact al
  exact al
 obtain⟨bt,-⟩:=Lb bc;have aV:∀r∈K,y.order<r.length:=λr h=>by have:=hw r h;omega
 have fo:A .aI .geq y.order 0=decide (y.order>=0):=cf A ..;have bj:aG 178=true:=by kernel_rfl
 clear hP S;refine q.elim (λB n5 F b6 n6 c6 b7 U c7 b8 n8 c8 b9 d c9 gW jD gT cb cn cc g q1 q2 q3 q4 q5 q6 q7=>?_);clear q1 q2 q3 q4 q5 q6 q7;refine zo A [false,true] (ax jJZ.aK jJZ.bF) Tryz.func87 rfl (by kernel_rfl) ?_;cbv;intro N f f1 e1;have l1:Le h f:=by rw[e1];exact Le.set f1
 have gb:f N=some (.cells #[.pointer (some ⟨qp,0,none⟩)] 176 (0,0)):=by rw[e1];exact ae
 have g1:=l1 _ _ g;have aw:=q.mono l1;have Sz:=qr.mono (l1.t _);have aH:=l0.trans l1;obtain⟨IC,Z⟩:∃IC:Unit->ad->Prop,∀u h',IC u h'=(Le h0 h'/\h' N=some (.cells #[.pointer (some ⟨qp,0,none⟩)] 176 (0,0))/\oC h' qp x cols y/\Sl 84 aD h' (.slice rb rn rc) rows):=⟨_,λ_ _=>rfl⟩;clear e1 g;cbv;refine Dw.go (G:=Unit) (λ_=>[]) (λ_=>[]) IC ?_ ?_
 .clear Q;cbv;repeat (first|((try rw[ai A]);(try rw[ai A]);(first|refine mQw gb ?_|refine mQw g1 ?_);cbv)|(refine⟨⟨_,rfl,rfl⟩,?_⟩;cbv))
  intro ob ak f2 e2;have aW:Le f ak:=by rw[e2];exact Le.set f2
  have bb:ak ob=some (.cells #[.int .i64 0] 3 (0,0)):=by rw[e2];exact ae
  clear e2;cbv;refine ja bb (by simp) (λl e2=>?_);have l2:Le f l:=λb o hb=>by rw[e2,aO (λe=>by rw[e,f2]at hb;cases hb)];exact aW _ _ hb
  have go:l ob=some (.cells #[.int .i64 y.order] 3 (0,0)):=by rw[e2];exact ae
  have V:=l2 _ _ gb;have X:=l2 _ _ g1;have J:=aw.mono l2;have H:=Sz.mono (l2.t _);have jZ:=aH.trans l2;clear e2;cbv;refine mQw go ?_;cbv;rw[fo];by_cases ho:y.order>=0
  .rw[if_pos ho]at O;have W:∀ {k':Value->ad->Prop},(∀h',IC () h'->k' (.tuple #[]) h')->Ct 177 [.slice rb rn rc,.func (.func 178) #[] #[.pointer (some ⟨ob,0,none⟩),.pointer (some ⟨N,0,none⟩)]] l k':=λwT=>aXO (Ce y.order x.desc) bj jZ H aV (λnb c fr gY=>bXa go V J (λe=>by rw[e,gY]at go;cases go) (λe=>by rw[e,gY]at V;cases V) (λe=>by rw[e,gY]at X;cases X) ho) (λh' d1 d2 d3 d4=>wT h' (by
    rw[Z];refine⟨d1,d3 _ _ V (λc fr e=>by cases e),J.lt ((d3 _ _ X (λc fr e=>by cases e)).trans X.symm) (d2 _ (by decide)),by rw[O];exact d4.sl⟩))
   rw[mQu ho];clear Z O;cbv;refine W (λP t=>?_);clear W;cbv;refine⟨(),by constructor<;>cbv,t⟩
  rw[if_neg ho]at O;have t:IC () l:=by rw[Z,O];exact⟨jZ,V,J,H.sl⟩
  clear Z O;rw[mQv ho];cbv;refine⟨(),by constructor<;>cbv,t⟩
 intro u l hI;cbv;rw[Z]at hI;obtain⟨jZ,V,J,H⟩:=hI;clear Z aw Sz aH gb g1 O q qr l0 f1 l1 fo;refine J.elim (λB n5 F b6 n6 c6 b7 U c7 b8 n8 c8 b9 d c9 gW jD gT cb cn cc X q1 q2 q3 q4 q5 q6 q7=>?_);clear q1 q2 q3 q4 q6;repeat (first|((try rw[ai A]);(try rw[ai A]);(first|refine mQw V ?_|refine mQw X ?_);cbv)|(refine⟨⟨_,rfl,rfl⟩,?_⟩;cbv))
 have FG:=q5.len;have vo:=q5.bound;obtain⟨L,Uf⟩:∃L,L=x.items.map (λi:dO=>i.e):=⟨_,rfl⟩;obtain⟨N9,bF⟩:∃N9,N9=d:=⟨_,rfl⟩;obtain⟨I,Y⟩:∃I:Nat->(Int×Option Addr×Nat×Nat)->ad->Prop,∀m g h',I m g h'=∃i,aS g.1 i/\i<=d/\m=d-i/\Le l h'/\cF 42 jM l h' (.slice g.2.1 g.2.2.1 g.2.2.2) (L.take i):=⟨_,λ_ _ _=>rfl⟩;have hJ:I d (0,none,0,0) l:=by rw[Y];exact⟨0,⟨rfl⟩,mQC _,rfl,Le.refl _,cF.nil⟩
 have ke:=hx.aJU;have fZ:=hx.items;cbv;refine aX.go (G:=Int×Option Addr×Nat×Nat) (λg=>[(30,.v (.int .i64 g.1)),(7,.v (.slice g.2.1 g.2.2.1 g.2.2.2))]) (λ_=>[]) (λm g h'=>I m g h') d (0,none,0,0) (by constructor<;>cbv) hJ ?_
 intro m gg P hI;rw[Y]at hI;cbv;obtain⟨i,hz,hi,hm,ET,N⟩:=hI;obtain⟨z,b7,U,c7⟩:=gg;replace hz:aS z i:=hz;replace N:cF 42 jM l P (.slice b7 U c7) (L.take i):=N;have f1:A .aI .lss z (A .nat d)=decide (i<d):=hz.iJ (aS.nat d);have au:=q5.mono (ET.t _);cbv;rw[f1];by_cases aP:i<d
 .obtain⟨it,JA⟩:=mQA x.items i;have cJ:0<=z/\z<(d:Int):=hz.ix aP;have cN:=hz.eq;have cZ:=hz.succ (A:=A);have kX:d-(i+1)<m:=by omega
  have ag:L.take i++[it.e]=L.take (i+1):=by
   have:L[i]? =some it.e:=by rw[Uf,mXe,JA];rfl
   rw[mXt,this];rfl
  have bf:U=i:=by have f:=N.sl.len;rw[f,mQK,Uf,mQN];omega
  have cD:∀T b4 n4 c4,Le l T->cF 42 jM l T (.slice b4 n4 c4) (L.take (i+1))->I (d-(i+1)) (A .bB .add .i64 z 1,b4,n4,c4) T:=λT b4 n4 c4 l4 o4=>by
   rw[Y];exact⟨i+1,cZ,aP,rfl,l4,o4⟩
  have RD:=au.aT (by omega:0<d);clear Y hJ Q cZ;rw[mQu aP];cbv;refine⟨⟨RD,cJ⟩,?_⟩;cbv;refine yQ au JA cN (λbi ni ci qi=>?_);cbv;intro an T f4 e4;have l4:Le P T:=by rw[e4];exact Le.set f4
  have v4:Sl 42 jM T (.slice (some ⟨an,0,none⟩) 1 1) [it.e]:=bA (s:=jM) ((congrFun e4 an).trans ae) ⟨_,rfl,qi.mono (l4.t _)⟩;clear e4;cbv;refine(N.mono (l4.t _)).append v4 (by decide) rfl (by decide) (by omega) (ET.trans l4) (λm5 B F C aZ E t5 k5 qX=>?_);clear t5 k5 v4;rw[ag]at qX;have t:=cD C B m5 F E qX;clear cD;cbv;refine⟨d-(i+1),(A .bB .add .i64 z 1,B,m5,F),kX,by constructor<;>cbv,t⟩
 have bn:i=d:=by omega
 have ag:L.take i=L:=by rw[mXa];rw[Uf,mQN];omega
 rw[ag]at N;have bf:U=x.items.length:=by have f:=N.sl.len;rw[f,Uf,mQN]
 have g3:=ET _ _ X;have Zh:=ET _ _ V;have ar:=H.mono (ET.t _);clear Y hJ;rw[mQv aP];cbv;repeat (first|((try rw[ai A]);(try rw[ai A]);(first|refine mQw Zh ?_|refine mQw g3 ?_);cbv)|(refine⟨⟨_,rfl,rfl⟩,?_⟩;cbv))
 refine Pp ar x.eG (λlb p lc qm=>?_);obtain⟨M,hM⟩:∃M,bL rows x.eG=M:=⟨_,rfl⟩;rw[hM]at qm a;have bk:∀r∈M,fS r:=λr hm=>hr r (by
  rw[<-hM]at hm;unfold bL at hm;split at hm
  .exact hm
  exact mXF hm)
 have bw:M.length<=2^20:=by
  rw[<-hM];unfold bL;split
  .exact mF
  rw[mQK];omega
 have tG:=qm.len;have JD:=qm.bound;have qL:=N.sl;have ay:Le h0 P:=jZ.trans ET;replace q7:=q7.mono (ET.t _);obtain⟨I2,Y⟩:∃I:Nat->(Int×Option Addr×Nat×Nat)->ad->Prop,∀m g h',I m g h'=∃i out,aS g.1 i/\i<=p/\m=p-i/\Le P h'/\out.length=i/\cF 84 aD P h' (.slice g.2.1 g.2.2.1 g.2.2.2) out/\eZ x cols (M.drop i) out=D:=⟨_,λ_ _ _=>rfl⟩;have hJ:I2 p (0,none,0,0) P:=by rw[Y];exact⟨0,[],⟨rfl⟩,mQC _,rfl,Le.refl _,rfl,cF.nil,a⟩
 clear ar hM a hr mF q5 H X V;cbv;refine aX.go (G:=Int×Option Addr×Nat×Nat) (λg=>[(48,.v (.int .i64 g.1)),(10,.v (.slice g.2.1 g.2.2.1 g.2.2.2))]) (λ_=>[]) (λm g h'=>I2 m g h') p (0,none,0,0) (by constructor<;>cbv) hJ ?_
 intro m2 gg T hI;rw[Y]at hI;cbv;obtain⟨j,out,hw,hj,sH,R,aK,qo,a⟩:=hI;obtain⟨w,bo,no,co⟩:=gg;replace hw:aS w j:=hw;replace qo:cF 84 aD P T (.slice bo no co) out:=qo;have f2:A .aI .lss w (A .nat p)=decide (j<p):=hw.iJ (aS.nat p);have aj:=qm.mono (R.t _);have gK:=qo.sl.len;cbv;rw[f2];by_cases KM:j<p
 .obtain⟨r,Jx⟩:=mQA M j;have S:=bk r (mQz Jx);have jo:0<=w/\w<(p:Int):=hw.ix KM;have PF:=hw.eq;have VZ:=hw.succ (A:=A);have sf:p-(j+1)<m2:=by omega
  have Bc:M.drop j=r::M.drop (j+1):=by obtain⟨f,l⟩:=mQB.1 Jx;rw[mQJ f,l]
  rw[Bc]at a;replace a:(if x.items.length=0 then eZ x cols (M.drop (j+1)) (out++[r])else match bS (x.items.map (·.e)) cols r with
   | (v,e)=>if e≠0 then([],e)else eZ x cols (M.drop (j+1)) (out++[v]))=D:=a
  have jd:∀C B m5 F v,Le P C->m5=no+1->cF 84 aD P C (.slice B m5 F) (out++[v])->eZ x cols (M.drop (j+1)) (out++[v])=D->I2 (p-(j+1)) (A .bB .add .i64 w 1,B,m5,F) C:=λC B m5 F v E aZ o5 hd=>by
   rw[Y];exact⟨j+1,out++[v],VZ,KM,rfl,E,by rw[mQy,mQG,aK],o5,hd⟩
  have Tp:=aj.aT (by omega:0<p);have fl:A .aI .gtr (A .nat U) 0=decide (U≠0):=by
   rw[bO A,hA.nat];apply decide_eq_decide.2;constructor
   .intro f l;rw[l]at f;exact absurd f (by decide)
   intro f;have:0<U:=Nat.pos_of_ne_zero f;exact Int.natCast_pos.2 this
  have g4:=R _ _ g3;have RQ:=R _ _ Zh;clear Y hJ VZ;rw[mQu KM];cbv;refine⟨⟨Tp,jo⟩,?_⟩;cbv;refine bZ aj Jx PF (λbr nr cr uG=>?_);cbv;rw[fl];by_cases h0:U=0
  .rw[if_pos (by omega)]at a;rw[mQv (λg=>g h0)];cbv;refine(mU uG).mono (λv5 C hR=>?_);obtain⟨E,B,F,ab,Sy⟩:=hR;subst ab;cbv;intro Yr h6 f6 e6;have l6:Le C h6:=by rw[e6];exact Le.set f6
   have v6:Sl 84 aD h6 (.slice (some ⟨Yr,0,none⟩) 1 1) [r]:=bA (s:=aD) ((congrFun e6 Yr).trans ae) ⟨_,rfl,Sy.sl.mono (l6.t _)⟩;clear e6;cbv;refine(qo.mono ((E.trans l6).t _)).append v6 (by decide) rfl (by decide) (by omega) (R.trans (E.trans l6)) (λm7 b7 c7 h7 Nj l7 t7 k7 mP=>?_);clear t7 k7 v6;have t:=jd h7 b7 m7 c7 r l7 Nj mP a;clear jd Q;cbv;refine⟨p-(j+1),(A .bB .add .i64 w 1,b7,m7,c7),sf,by constructor<;>cbv,t⟩
  rw[if_neg (by omega)]at a;rw[mQu h0];cbv;repeat (first|((try rw[ai A]);(try rw[ai A]);(first|refine mQw RQ ?_|refine mQw g4 ?_);cbv)|(refine⟨⟨_,rfl,rfl⟩,?_⟩;cbv))
  refine FX (xs:=L) (λex az=>?_) hc S (by rw[Uf,mQN];omega) (qL.mono (R.t _)) (q7.mono (R.t _)) uG (λC B bz ca vl e E Je Sy bx=>?_)
  .rw[Uf]at az;obtain⟨it,MQ,rfl⟩:=mQW.1 az;exact fZ it MQ
  rw[Uf]at Je;rw[<-Je]at a;replace a:(if e≠0 then([],e)else eZ x cols (M.drop (j+1)) (out++[vl]))=D:=a;have fe:A .aI .neq e 0=decide (e≠0):=aC A ..;cbv;rw[fe];by_cases he:e≠0
  .rw[if_pos he]at a;subst a;have t:=Q C none 0 0 (ay.trans (R.trans E)) Sl.nil;clear Q jd;rw[mQu he];cbv;exact t
  rw[if_neg he]at a;rw[mQv he];cbv;refine(mU Sy.sl).mono (λv6 h6 hR=>?_);obtain⟨l6,b6,c6,bg,bd⟩:=hR;subst bg;cbv;intro Yq h7 f7 e7;have l7:Le h6 h7:=by rw[e7];exact Le.set f7
  have v7:Sl 84 aD h7 (.slice (some ⟨Yq,0,none⟩) 1 1) [vl]:=bA (s:=aD) ((congrFun e7 Yq).trans ae) ⟨_,rfl,bd.sl.mono (l7.t _)⟩;clear e7;cbv;refine(qo.mono ((E.trans (l6.trans l7)).t _)).append v7 (by decide) rfl (by decide) (by omega) (R.trans (E.trans (l6.trans l7))) (λm8 b8 c8 h8 ba l8 t8 k8 Qp=>?_);clear t8 k8 v7;have t:=jd h8 b8 m8 c8 vl l8 ba Qp a;clear jd Q;cbv;refine⟨p-(j+1),(A .bB .add .i64 w 1,b8,m8,c8),sf,by constructor<;>cbv,t⟩
 have KP:j=p:=by omega
 rw[mQT (by omega)]at a;replace a:(out,0)=D:=a;subst a;clear Y hJ;rw[mQv KM];cbv;refine(Gp qo.sl).mono (λv5 C hR=>?_);obtain⟨E,B,F,ab,Sy⟩:=hR;subst ab;have t:=Q C B no F (ay.trans (R.trans E)) Sy.sl;clear Q;cbv;exact t
theorem eKz:eXB x y:=λ{h0 h p cols} q hx c {rows} r m f hw {b n rc} l qr {k} a=>dZm q hx c r m f hw l qr a
end Go.S
