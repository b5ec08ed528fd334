import Derived.Test.YtifjeceolckgaaaGreatQA
import Derived.Test.YtifjeceolckgaaaGreatVB
set_option linter.all false
set_option maxRecDepth 100000
set_option maxHeartbeats 8000000
namespace Go.S
open Go.Sx Go.Proofs
variable {a:Type}{A:Ar}{d:DB}{D:DB×Int}{f:FuncId}{e s:Int}{xs:List (List Nd)}{o u y:List Value}{cols:List cK}{H K U c cap i m n p:Nat}{I b j:Option Addr}{r:Row}{p0 p1:Value}{k:Value->ad->Prop}{st x:aJ}{h h':ad}
theorem mZQ{m:Unit->Program}{bs:List Value}(e:u=bs)(q:aQI m f u h k):aQI m f bs h k:=e ▸ q
theorem bZ{d:Type}[bM A]{e f:Nat}{s:Sh d}{len:Nat}{xs:List (List d)}(q:Sl e (mW f s) h (.slice b len cap) xs){x:List d}(hx:xs[i]? =some x){n:Int}(m:n=(i:Int)){k:List Value->Prop}
 (l:∀a j c,Sl f s h (.slice a j c) x->k [.slice a j c]):Bn h (A .mS b n 1) 1 k:=by
 refine q.load hx m (λcs y=>?_);obtain⟨v,rfl,g⟩:=y;obtain⟨a,c,rfl,-⟩:=g.out;exact l _ _ _ g
theorem yQ[bM A]{len:Nat}{xs:List dO}(q:Sl 267 eI h (.slice b len cap) xs){x:dO}(hx:xs[i]? =some x){n:Int}(f:n=(i:Int)){k:List Value->Prop}
 (e:∀a d c,Sl 317 fx h (.slice a d c) x.e->k [.int .i64 x.fn,.slice a d c]):Bn h (A .mS b n 2) 2 k:=by
 refine q.load hx f (λcs y=>?_);obtain⟨a,d,c,rfl,v⟩:=y;exact e _ _ _ v
theorem mXU{t:List Value}{xs:List (Row)}(hn:n=xs.length)(I:Nat->ad->Prop)(h0:I 0 h)(q:∀i h',I i h'->Sl 84 aD h' (.slice b n c) xs)
 (step:∀i x h' j p l,i<n->xs[i]? =some x->I i h'->Sl 86 bq h' (.slice j p l) x->Ct f (t++[.slice j p l]++y) h' (λr Y=>∃e,r=.int .i64 e/\(e=0->I (i+1) Y)/\(e≠0->k (.int .i64 e) Y)))
 (fin:∀h',I n h'->k (.int .i64 0) h') (C:aG f=true:=by kernel_rfl):
 Ct 77 [.slice b n c,.func (.func f) t.toArray y.toArray] h k:=by
 obtain⟨A,hA⟩:=Ar.ex;have V:=(q 0 h h0).bound;obtain⟨J,d⟩:∃J:Nat->Int->ad->Prop,∀m z h',J m z h'=∃i,aS z i/\i<=n/\m=n-i/\I i h':=⟨_,λ_ _ _=>rfl⟩;have v:J n 0 h:=by rw[d];exact⟨0,⟨rfl⟩,mQC _,rfl,h0⟩
 obtain⟨W,Q⟩:∃g,g=aG:=⟨_,rfl⟩;have tk:gE Tryz.prog ⟨ty,W,jKf.aK,jKf.bF,λ_=>false,[],λ_ _ _=>False⟩:=by rw[Q];exact ax _ _
 have E:W f=true:=by rw[Q];exact C
 clear Q C;refine ah A tk Tryz.func77 rfl (by kernel_rfl) ?_;cbv;refine aX.go (G:=Int) (λz=>[(10,.v (.int .i64 z))]) (λ_=>[]) (λm z h'=>J m z h') n 0 (by constructor<;>cbv) v ?_
 intro m z u a;rw[d]at a;cbv;obtain⟨i,o,hi,hm,a⟩:=a;have M:A .aI .lss z (A .nat n)=decide (i<n):=o.iJ (aS.nat n);rw[M];by_cases P:i<n
 .obtain⟨x,hx⟩:=mQA xs i;have D:=q i u a;have H:b.isSome=true/\0<=z/\z<(n:Int):=⟨D.aT,o.ix P⟩;have N:=o.eq;have Z:=o.succ (A:=A);have X:n-(i+1)<m:=by omega
  have L:∀h',I (i+1) h'->J (n-(i+1)) (A .bB .add .i64 z 1) h':=λh' R=>by rw[d];exact⟨i+1,Z,P,rfl,R⟩
  have st:=step i x u;clear d v step fin q;rw[mQu P];cbv;refine⟨H,?_⟩;cbv;refine bZ D hx N (λj p l T=>?_);replace st:=st j p l;cbv;rw[E];cbv;refine mZQ (by cases t<;>rfl) ((st P hx a T).mono (λr O hR=>?_));obtain⟨e,S,K,w⟩:=hR;subst S;have B:A .aI .neq e 0=decide (e≠0):=aC A ..;by_cases h0:e=0
  .have F:=L O (K h0);clear L K w st;cbv;rw[B,mQv (λg=>g h0)];cbv;refine⟨n-(i+1),A .bB .add .i64 z 1,X,by constructor<;>cbv,F⟩
  have s:=w h0;clear L K w st;cbv;rw[B,mQu h0];cbv;exact s
 have U:i=n:=by omega
 subst U;have s:=fin u a;clear d v step fin q;rw[mQv P];cbv;exact s
theorem nQb{t:List Value}(hn:n=xs.length)(I:Nat->ad->Prop)(h0:I 0 h)(q:∀i h',I i h'->Sl 42 jM h' (.slice b n c) xs)
 (step:∀i x h' j p l,i<n->xs[i]? =some x->I i h'->Sl 317 fx h' (.slice j p l) x->Ct f (t++[.slice j p l]++y) h' (λr Y=>∃e,r=.int .i64 e/\(e=0->I (i+1) Y)/\(e≠0->k (.int .i64 e) Y)))
 (fin:∀h',I n h'->k (.int .i64 0) h') (C:aG f=true:=by kernel_rfl):
 Ct 147 [.slice b n c,.func (.func f) t.toArray y.toArray] h k:=by
 obtain⟨A,hA⟩:=Ar.ex;have V:=(q 0 h h0).bound;obtain⟨J,d⟩:∃J:Nat->Int->ad->Prop,∀m z h',J m z h'=∃i,aS z i/\i<=n/\m=n-i/\I i h':=⟨_,λ_ _ _=>rfl⟩;have v:J n 0 h:=by rw[d];exact⟨0,⟨rfl⟩,mQC _,rfl,h0⟩
 obtain⟨W,Q⟩:∃g,g=aG:=⟨_,rfl⟩;have tk:gE Tryz.prog ⟨ty,W,gXJ.aK,gXJ.bF,λ_=>false,[],λ_ _ _=>False⟩:=by rw[Q];exact ax _ _
 have E:W f=true:=by rw[Q];exact C
 clear Q C;refine ah A tk Tryz.func147 rfl (by kernel_rfl) ?_;cbv;refine aX.go (G:=Int) (λz=>[(10,.v (.int .i64 z))]) (λ_=>[]) (λm z h'=>J m z h') n 0 (by constructor<;>cbv) v ?_
 intro m z u a;rw[d]at a;cbv;obtain⟨i,o,hi,hm,a⟩:=a;have M:A .aI .lss z (A .nat n)=decide (i<n):=o.iJ (aS.nat n);rw[M];by_cases P:i<n
 .obtain⟨x,hx⟩:=mQA xs i;have D:=q i u a;have H:b.isSome=true/\0<=z/\z<(n:Int):=⟨D.aT,o.ix P⟩;have N:=o.eq;have Z:=o.succ (A:=A);have X:n-(i+1)<m:=by omega
  have L:∀h',I (i+1) h'->J (n-(i+1)) (A .bB .add .i64 z 1) h':=λh' R=>by rw[d];exact⟨i+1,Z,P,rfl,R⟩
  have st:=step i x u;clear d v step fin q;rw[mQu P];cbv;refine⟨H,?_⟩;cbv;refine bZ D hx N (λj p l T=>?_);replace st:=st j p l;cbv;rw[E];cbv;refine mZQ (by cases t<;>rfl) ((st P hx a T).mono (λr O hR=>?_));obtain⟨e,S,K,w⟩:=hR;subst S;have B:A .aI .neq e 0=decide (e≠0):=aC A ..;by_cases h0:e=0
  .have F:=L O (K h0);clear L K w st;cbv;rw[B,mQv (λg=>g h0)];cbv;refine⟨n-(i+1),A .bB .add .i64 z 1,X,by constructor<;>cbv,F⟩
  have s:=w h0;clear L K w st;cbv;rw[B,mQu h0];cbv;exact s
 have U:i=n:=by omega
 subst U;have s:=fin u a;clear d v step fin q;rw[mQv P];cbv;exact s
theorem mJK{xs:List (ByteArray)}(hn:n=xs.length)(I:Nat->ad->Prop)(h0:I 0 h)(q:∀i h',I i h'->Sl 9 dX h' (.slice b n c) xs)
 (step:∀i x h',i<n->xs[i]? =some x->I i h'->True->Ct f (o++[.string x]++u) h' (λr Y=>∃e,r=.int .i64 e/\(e=0->I (i+1) Y)/\(e≠0->k (.int .i64 e) Y)))
 (fin:∀h',I n h'->k (.int .i64 0) h') (w:aG f=true:=by kernel_rfl):
 Ct 84 [.slice b n c,.func (.func f) o.toArray u.toArray] h k:=by
 obtain⟨A,U⟩:=Ar.ex;have T:=(q 0 h h0).bound;obtain⟨J,d⟩:∃J:Nat->Int->ad->Prop,∀m z h',J m z h'=∃i,aS z i/\i<=n/\m=n-i/\I i h':=⟨_,λ_ _ _=>rfl⟩;have s:J n 0 h:=by rw[d];exact⟨0,⟨rfl⟩,mQC _,rfl,h0⟩
 obtain⟨W,Q⟩:∃g,g=aG:=⟨_,rfl⟩;have tk:gE Tryz.prog ⟨ty,W,jKb.aK,jKb.bF,λ_=>false,[],λ_ _ _=>False⟩:=by rw[Q];exact ax _ _
 have C:W f=true:=by rw[Q];exact w
 clear Q w;refine ah A tk Tryz.func84 rfl (by kernel_rfl) ?_;cbv;refine aX.go (G:=Int) (λz=>[(10,.v (.int .i64 z))]) (λ_=>[]) (λm z h'=>J m z h') n 0 (by constructor<;>cbv) s ?_
 intro m z p a;rw[d]at a;cbv;obtain⟨i,j,V,hm,a⟩:=a;have F:A .aI .lss z (A .nat n)=decide (i<n):=j.iJ (aS.nat n);rw[F];by_cases P:i<n
 .obtain⟨x,hx⟩:=mQA xs i;have B:=q i p a;have E:b.isSome=true/\0<=z/\z<(n:Int):=⟨B.aT,j.ix P⟩;have N:=j.eq;have Z:=j.succ (A:=A);have X:n-(i+1)<m:=by omega
  have L:∀h',I (i+1) h'->J (n-(i+1)) (A .bB .add .i64 z 1) h':=λh' M=>by rw[d];exact⟨i+1,Z,P,rfl,M⟩
  have st:=step i x p;clear d s step fin q;rw[mQu P];cbv;refine⟨E,?_⟩;cbv;refine B.load hx N (λcs y=>?_);have y:cs=[.string x]:=y;subst y;have R:=trivial;cbv;rw[C];cbv;refine mZQ (by cases o<;>rfl) ((st P hx a R).mono (λr H hR=>?_));obtain⟨e,O,K,t⟩:=hR;subst O;have v:A .aI .neq e 0=decide (e≠0):=aC A ..;by_cases h0:e=0
  .have D:=L H (K h0);clear L K t st;cbv;rw[v,mQv (λg=>g h0)];cbv;refine⟨n-(i+1),A .bB .add .i64 z 1,X,by constructor<;>cbv,D⟩
  have l:=t h0;clear L K t st;cbv;rw[v,mQu h0];cbv;exact l
 have S:i=n:=by omega
 subst S;have l:=fin p a;clear d s step fin q;rw[mQv P];cbv;exact l
theorem mXV{t:List Value}{xs:List (dO)}(hn:n=xs.length)(I:Nat->ad->Prop)(h0:I 0 h)(q:∀i h',I i h'->Sl 267 eI h' (.slice b n c) xs)
 (step:∀i x h' j p l,i<n->xs[i]? =some x->I i h'->Sl 317 fx h' (.slice j p l) x.e->Ct f (t++[.agg #[.int .i64 x.fn,.slice j p l]]++y) h' (λr Y=>∃e,r=.int .i64 e/\(e=0->I (i+1) Y)/\(e≠0->k (.int .i64 e) Y)))
 (fin:∀h',I n h'->k (.int .i64 0) h') (C:aG f=true:=by kernel_rfl):
 Ct 164 [.slice b n c,.func (.func f) t.toArray y.toArray] h k:=by
 obtain⟨A,hA⟩:=Ar.ex;have V:=(q 0 h h0).bound;obtain⟨J,d⟩:∃J:Nat->Int->ad->Prop,∀m z h',J m z h'=∃i,aS z i/\i<=n/\m=n-i/\I i h':=⟨_,λ_ _ _=>rfl⟩;have v:J n 0 h:=by rw[d];exact⟨0,⟨rfl⟩,mQC _,rfl,h0⟩
 obtain⟨W,Q⟩:∃g,g=aG:=⟨_,rfl⟩;have tk:gE Tryz.prog ⟨ty,W,gXv.aK,gXv.bF,λ_=>false,[],λ_ _ _=>False⟩:=by rw[Q];exact ax _ _
 have E:W f=true:=by rw[Q];exact C
 clear Q C;refine ah A tk Tryz.func164 rfl (by kernel_rfl) ?_;cbv;refine aX.go (G:=Int) (λz=>[(10,.v (.int .i64 z))]) (λ_=>[]) (λm z h'=>J m z h') n 0 (by constructor<;>cbv) v ?_
 intro m z u a;rw[d]at a;cbv;obtain⟨i,o,hi,hm,a⟩:=a;have M:A .aI .lss z (A .nat n)=decide (i<n):=o.iJ (aS.nat n);rw[M];by_cases P:i<n
 .obtain⟨x,hx⟩:=mQA xs i;have D:=q i u a;have H:b.isSome=true/\0<=z/\z<(n:Int):=⟨D.aT,o.ix P⟩;have N:=o.eq;have Z:=o.succ (A:=A);have X:n-(i+1)<m:=by omega
  have L:∀h',I (i+1) h'->J (n-(i+1)) (A .bB .add .i64 z 1) h':=λh' R=>by rw[d];exact⟨i+1,Z,P,rfl,R⟩
  have st:=step i x u;clear d v step fin q;rw[mQu P];cbv;refine⟨H,?_⟩;cbv;refine yQ D hx N (λj p l T=>?_);replace st:=st j p l;obtain⟨xf,xe⟩:=x;cbv;rw[E];cbv;refine mZQ (by cases t<;>rfl) ((st P hx a T).mono (λr O hR=>?_));obtain⟨e,S,K,w⟩:=hR;subst S;have B:A .aI .neq e 0=decide (e≠0):=aC A ..;by_cases h0:e=0
  .have F:=L O (K h0);clear L K w st;cbv;rw[B,mQv (λg=>g h0)];cbv;refine⟨n-(i+1),A .bB .add .i64 z 1,X,by constructor<;>cbv,F⟩
  have s:=w h0;clear L K w st;cbv;rw[B,mQu h0];cbv;exact s
 have U:i=n:=by omega
 subst U;have s:=fin u a;clear d v step fin q;rw[mQv P];cbv;exact s
def aXU(p:Value):Sh Nat where
 n:=1
 R _ cs g:=cs=[.func (.func g) #[] #[p]]
 len:=by rintro h cs x rfl;rfl
 one:=by rintro h cs x rfl;rfl
 tys:=[]
 mono:=λ_ q=>q
theorem nQc{p:Value}{v:List Value}{xs:List (Nat)}(hn:n=xs.length)(I:Nat->ad->Prop)(h0:I 0 h)(q:∀i h',I i h'->Sl 163 (aXU p) h' (.slice b n c) xs)
 (step:∀i x h',i<n->xs[i]? =some x->I i h'->True->Ct f (o++[.func (.func x) #[] #[p]]++v) h' (λr Y=>∃e,r=.int .i64 e/\(e=0->I (i+1) Y)/\(e≠0->k (.int .i64 e) Y)))
 (fin:∀h',I n h'->k (.int .i64 0) h') (B:aG f=true:=by kernel_rfl):
 Ct 169 [.slice b n c,.func (.func f) o.toArray v.toArray] h k:=by
 obtain⟨A,V⟩:=Ar.ex;have U:=(q 0 h h0).bound;obtain⟨J,d⟩:∃J:Nat->Int->ad->Prop,∀m z h',J m z h'=∃i,aS z i/\i<=n/\m=n-i/\I i h':=⟨_,λ_ _ _=>rfl⟩;have t:J n 0 h:=by rw[d];exact⟨0,⟨rfl⟩,mQC _,rfl,h0⟩
 obtain⟨W,Q⟩:∃g,g=aG:=⟨_,rfl⟩;have tk:gE Tryz.prog ⟨ty,W,cZY.aK,cZY.bF,λ_=>false,[],λ_ _ _=>False⟩:=by rw[Q];exact ax _ _
 have D:W f=true:=by rw[Q];exact B
 clear Q B;refine ah A tk Tryz.func169 rfl (by kernel_rfl) ?_;cbv;refine aX.go (G:=Int) (λz=>[(10,.v (.int .i64 z))]) (λ_=>[]) (λm z h'=>J m z h') n 0 (by constructor<;>cbv) t ?_
 intro m z s a;rw[d]at a;cbv;obtain⟨i,j,hi,hm,a⟩:=a;have H:A .aI .lss z (A .nat n)=decide (i<n):=j.iJ (aS.nat n);rw[H];by_cases P:i<n
 .obtain⟨x,hx⟩:=mQA xs i;have C:=q i s a;have F:b.isSome=true/\0<=z/\z<(n:Int):=⟨C.aT,j.ix P⟩;have N:=j.eq;have Z:=j.succ (A:=A);have X:n-(i+1)<m:=by omega
  have L:∀h',I (i+1) h'->J (n-(i+1)) (A .bB .add .i64 z 1) h':=λh' O=>by rw[d];exact⟨i+1,Z,P,rfl,O⟩
  have st:=step i x s;clear d t step fin q;rw[mQu P];cbv;refine⟨F,?_⟩;cbv;refine C.load hx N (λcs y=>?_);have y:cs=[.func (.func x) #[] #[p]]:=y;subst y;have S:=trivial;cbv;rw[D];cbv;refine mZQ (by cases o<;>rfl) ((st P hx a S).mono (λr M hR=>?_));obtain⟨e,R,K,u⟩:=hR;subst R;have w:A .aI .neq e 0=decide (e≠0):=aC A ..;by_cases h0:e=0
  .have E:=L M (K h0);clear L K u st;cbv;rw[w,mQv (λg=>g h0)];cbv;refine⟨n-(i+1),A .bB .add .i64 z 1,X,by constructor<;>cbv,E⟩
  have l:=u h0;clear L K u st;cbv;rw[w,mQu h0];cbv;exact l
 have T:i=n:=by omega
 subst T;have l:=fin s a;clear d t step fin q;rw[mQv P];cbv;exact l
theorem My{ex:List Nd}(r:∀n∈ex,Nm n.name/\kM n.v)(a:∀c∈cols,Nm c.name)(w:Int){l:Nat}(u:Sl 317 fx h (.slice j m l) ex){d:Option Addr}{g:Nat}(t:Sl 155 bI h (.slice d i g) cols)
 (b:∀h' e,Le h h'->e=ku ex cols w->k (.int .i64 e) h'):Ct 154 [.slice j m l,.slice d i g,.int .i64 w] h k:=by
 have P:ku ex cols w=match jv ex cols with
  | (k,f)=>if f=0/\k≠0/\k≠w then 3 else f:=rfl
 generalize ku ex cols w=D at *;refine mQx gXF Tryz.func154 λA B=>?_;cbv;refine bZb (λn q=>(r n q).1) a u t (λp o e s C=>?_);rw[<-C]at P;replace P:D=if e=0/\o≠0/\o≠w then 3 else e:=P
 have b:=λx hx=>b p x s hx;clear C;cbv;repeat' (refine bh (λa=>?_) (λa=>?_)<;>(try rw[a])<;>cbv)
 all_goals
  refine b _ ?_;simp only[aA A,aC A,mQR,decide_eq_false_iff_not]at *;rw[P];first
   | (rw[if_pos ⟨by assumption,by assumption,by assumption⟩])
   | (rw[if_neg (by rintro⟨v,y,z⟩;contradiction)])
theorem rW{ex:List Nd}(t:∀n∈ex,Nm n.name/\kM n.v)(s:∀c∈cols,Nm c.name){a l:Nat}(q:Sl 317 fx h (.slice j a l) ex){d:Option Addr}{g:Nat}(v:Sl 155 bI h (.slice d i g) cols)
 (b:∀h' e,Le h h'->e=aU ex cols->k (.int .i64 e) h'):Ct 81 [.slice j a l,.slice d i g] h k:=by
 obtain⟨A,r⟩:=Ar.ex;have Q:=q.len;have P:aU ex cols=if ex.length=0 then 0 else ku ex cols 1:=rfl
 rw[<-Q]at P;have o:A .aI .eql (A .nat a) 0=decide (a=0):=by rw[aA A,r.nat,decide_eq_decide,mQV];omega
 refine mQF jKd A Tryz.func81 ?_;cbv;rw[o];by_cases h0:a=0
 .have f:=b h 0 (Le.refl _) (by rw[P,if_pos h0]);clear b P;rw[mQu h0];cbv;exact f
 rw[if_neg h0]at P;rw[mQv h0];cbv;refine My t s 1 q v (λp e u m=>?_);have f:=b p e u (m.trans P.symm);clear b P m;cbv;exact f
theorem MN{ex:List Nd}(C:∀n∈ex,Nm n.name/\kM n.v)(d:∀c∈cols,Nm c.name)(E:∀v∈r,kM v){l:Option Addr}{a:Nat}(q:Sl 317 fx h (.slice l a m) ex){g:Option Addr}{j:Nat}(I:Sl 155 bI h (.slice g j i) cols){p:Option Addr}{u s:Nat}(J:Sl 86 bq h (.slice p u s) r)
 (b:∀h' t e,Le h h'->(t,e)=dt ex cols r->k (.tuple #[.bool t,.int .i64 e]) h'):Ct 157 [.slice l a m,.slice g j i,.slice p u s] h k:=by
 obtain⟨A,B⟩:=Ar.ex;have Q:=q.len;have P:dt ex cols r=if ex.length=0 then(true,0)else match eP ex cols r with
  | (v,f)=>(decide (v.k=1)&&decide (v.n=1),f):=rfl
 rw[<-Q]at P;generalize dt ex cols r=D at *;have y:A .aI .eql (A .nat a) 0=decide (a=0):=by rw[aA A,B.nat,decide_eq_decide,mQV];omega
 refine mQF gXC A Tryz.func157 ?_;cbv;rw[y];by_cases h0:a=0
 .have x:=b h true 0 (Le.refl _) (by rw[P,if_pos h0]);clear b P;rw[mQu h0];cbv;exact x
 rw[if_neg h0]at P;rw[mQv h0];cbv;refine Gx C d E q I J (λz v e w H o G=>?_);rw[<-o]at P;replace P:D=(decide (v.k=1)&&decide (v.n=1),e):=P;have b:=λt F=>b z t e H F;obtain⟨K,L,M⟩:=v;subst G;clear o;cbv;repeat' (refine bh (λd=>?_) (λd=>?_)<;>(try rw[d])<;>cbv)
 all_goals
  refine b _ ?_;simp only[aA A,mQR,decide_eq_false_iff_not]at *;rw[P];simp[*]
theorem ik.cJJ{v:Value}(q:ik h v d)(l:bR [51,155,84,86,55,137,150,201] h h'):ik h' v d:=by obtain⟨_,_,_,_,_,_,_,_,_,_,_,_,w,rfl,a,b,c,e,f⟩:=q.out;exact⟨_,_,_,_,_,_,_,_,_,_,_,_,w,rfl,a.mono (l.sub),b.mono (l.sub),c.mono (l.sub),e.mono (l.sub),f⟩
abbrev aXl:List Nat:=[51,155,84,86,55,137,150,201]
abbrev uB:List Nat:=[155,317,9,42,267]
structure fM(h:ad)(pb:Nat)(d:DB)(s:Int)(x:aJ):Prop where
 out:∃b1 n1 c1 b2 n2 c2 b3 n3 c3 b4 n4 c4 b5 n5 c5 b6 n6 c6 b7 n7 c7 b8 n8 c8 b9 n9 c9 gW jD gT,h pb=some (.cells #[.slice b1 n1 c1,.slice b2 n2 c2,.slice b3 n3 c3,.slice b4 n4 c4,.int .i64 s,.int .i64 x.kind,.string x.sE.name,.slice b5 n5 c5,.int .i64 x.sE.key,.bool x.sE.only,.string x.table,.string x.join,.slice b6 n6 c6,.slice b7 n7 c7,.slice b8 n8 c8,.slice b9 n9 c9,.slice gW jD gT,.string x.group,.string x.order,.bool x.desc,.int .i64 x.eG,.string x.name] 91 (0,0))/\ik h (.agg #[.slice b1 n1 c1,.slice b2 n2 c2,.slice b3 n3 c3,.slice b4 n4 c4]) d/\Sl 155 bI h (.slice b5 n5 c5) x.sE.cols/\Sl 317 fx h (.slice b6 n6 c6) x.on/\Sl 9 dX h (.slice b7 n7 c7) x.names/\Sl 42 jM h (.slice b8 n8 c8) x.exprs/\Sl 267 eI h (.slice b9 n9 c9) x.items/\Sl 317 fx h (.slice gW jD gT) x.bV
theorem fM.elim(q:fM h K d s x){p:Prop}(k:∀b A n a B o c C r e E t f F u i G v j H w l I y m J z W D T,h K=some (.cells #[.slice b A n,.slice a B o,.slice c C r,.slice e E t,.int .i64 s,.int .i64 x.kind,.string x.sE.name,.slice f F u,.int .i64 x.sE.key,.bool x.sE.only,.string x.table,.string x.join,.slice i G v,.slice j H w,.slice l I y,.slice m J z,.slice W D T,.string x.group,.string x.order,.bool x.desc,.int .i64 x.eG,.string x.name] 91 (0,0))->ik h (.agg #[.slice b A n,.slice a B o,.slice c C r,.slice e E t]) d->Sl 155 bI h (.slice f F u) x.sE.cols->Sl 317 fx h (.slice i G v) x.on->Sl 9 dX h (.slice j H w) x.names->Sl 42 jM h (.slice l I y) x.exprs->Sl 267 eI h (.slice m J z) x.items->Sl 317 fx h (.slice W D T) x.bV->p):p:=by obtain⟨b,A,n,a,B,o,c,C,r,e,E,t,f,F,u,i,G,v,j,H,w,l,I,y,m,J,z,W,D,T,g,R,L,M,N,O,P,Q⟩:=q.out;exact k b A n a B o c C r e E t f F u i G v j H w l I y m J z W D T g R L M N O P Q
theorem fM.lt(q:fM h p d s x)(A:h' p=h p)(l:bR (aXl++uB) h h'):fM h' p d s x:=by obtain⟨b,B,n,a,C,o,c,E,r,e,F,t,f,G,u,i,H,v,j,I,w,k,J,y,m,K,z,W,D,T,g,R,L,M,N,O,P,Q⟩:=q.out;exact⟨b,B,n,a,C,o,c,E,r,e,F,t,f,G,u,i,H,v,j,I,w,k,J,y,m,K,z,W,D,T,A.trans g,R.cJJ (l.sub),L.mono (l.sub),M.mono (l.sub),N.mono (l.sub),O.mono (l.sub),P.mono (l.sub),Q.mono (l.sub)⟩
theorem fM.mono(q:fM h p d s x)(l:Le h h'):fM h' p d s x:=by refine q.lt ?_ (l.t _);obtain⟨b,A,n,a,B,o,c,C,r,e,E,t,f,F,u,i,G,v,j,H,w,k,I,y,m,J,z,W,D,T,g,-⟩:=q.out;rw[g];exact l _ _ g
theorem fM.has(q:fM h p d s x):∃c,h p=some (.cells c 91 (0,0)):=by obtain⟨b,A,n,a,B,o,e,C,r,f,E,t,i,F,u,j,G,v,k,H,w,l,I,y,m,J,z,W,D,T,g,-⟩:=q.out;exact⟨_,g⟩
theorem fM.kp(q:fM h p d s x)(k:Kp [p] h h'){tys:List Nat}(t:91∉tys):bR tys h h':=by obtain⟨c,g⟩:=q.has;exact k.ES g t
theorem fM.aXV{a:ad}{A:DB}(q:fM h p d s x)(l:Le h h'){f:Option Addr}{v:Nat}{i:Option Addr}{w:Nat}{y r:Nat}{k:Option Addr}{z t:Nat}{c:List Value}
 (g:h' p=some (.cells (List.toArray c) 91 (0,0))) (qd:ik h' (.agg #[.slice f v m,.slice i w n,.slice j y r,.slice k z t]) A) (u:a=bU h' p (.cells (List.toArray (jS c 0 [.slice f v m,.slice i w n,.slice j y r,.slice k z t])) 91 (0,0))):fM a p A s x/\Kp [p] h a:=by
 have lt:bR (aXl++uB) h' a:=by rw[u];exact bR.set g (by decide)
 have e:bR (aXl++uB) h a:=(l.t _).trans lt;refine⟨?_,λb o hb hn=>?_⟩
 .obtain⟨af,Q,al,ab,P,ak,T,O,aj,S,M,ag,L,G,Z,K,F,Y,J,R,H,U,E,N,I,V,W,C,X,D,g0,_,q1,q2,q3,q4,q5,q6⟩:=q.out;have B:=l _ _ g0;rw[g]at B;cases B;refine⟨f,v,m,i,w,n,j,y,r,k,z,t,L,G,Z,K,F,Y,J,R,H,U,E,N,I,V,W,C,X,D,?_,qd.cJJ (lt.sub),q1.mono (e.sub),q2.mono (e.sub),q3.mono (e.sub),q4.mono (e.sub),q5.mono (e.sub),q6.mono (e.sub)⟩;rw[u,ae];rfl
 rw[u,aO (by simpa using hn)];exact l _ _ hb
theorem UP(q:fM h p d s st)(M:ue n d)(L:n<2^18)(nm:ByteArray)(x:Bool)
 (a:∀h',Kp [p] h h'->fM h' p (aL d ⟨s,nm,x⟩).1 s st->k (.int .i64 (aL d ⟨s,nm,x⟩).2) h'):Ct 64 [.pointer (some ⟨p,0,none⟩),.string nm,.bool x] h k:=by
 refine q.elim (λb v j e w m f y o i z r V n5 c5 W n6 c6 X n7 c7 Y n8 c8 Z n9 c9 gW jD gT g B N O P Q R S=>?_);clear N O P Q R S;obtain⟨D,G⟩:∃D,aL d ⟨s,nm,x⟩=D:=⟨_,rfl⟩;rw[G]at a;obtain⟨C,E⟩:=D;replace a:∀h',Kp [p] h h'->fM h' p C s st->k (.int .i64 E) h':=a;have bU:∀ {h' u:ad} {b:Option Addr} {v j:Nat} {e:Option Addr} {w m:Nat} {f:Option Addr} {y o:Nat} {i:Option Addr} {z r:Nat} {c:List Value},Le h h'->h' p=some (.cells (List.toArray c) 91 (0,0))->ik h' (.agg #[.slice b v j,.slice e w m,.slice f y o,.slice i z r]) C->u=bU h' p (.cells (List.toArray (jS c 0 [.slice b v j,.slice e w m,.slice f y o,.slice i z r])) 91 (0,0))->k (.int .i64 E) u:=λl g B F=>by
  have:=q.aXV l g B F;exact a _ this.2 this.1
 clear a;refine mQx jKp Tryz.func64 λA hA=>?_;cbv;rw[ai A];refine mQw g ?_;cbv;rw[ai A];refine mQw g ?_;cbv;refine cQD B M L s nm x G ?_;intro h1 e1 m1 a1 F m2 a2 e3 m3 T e4 m4 U H I;have t:=H _ _ g;cbv;rw[ai A];refine ja t (by simp) (λu J=>?_);have K:=bU H t I J;clear bU t J;cbv;exact K
theorem ik.eJI{a e f:Option Addr}{l g o j:Nat}(q:ik h (.agg #[.slice b n c,.slice a l g,.slice e m i,.slice f o j]) d):Sl 51 ef h (.slice b n c) d.az:=by obtain⟨_,_,_,_,_,_,_,_,_,_,_,_,w,k,p,-⟩:=q.out;cases k;exact p
theorem EZ{E:Nat}(q:fM h E d s st)(nm:ByteArray)
 (b:∀T f n u r y v,T=cI d nm->Sl 155 bI h (.slice f n u) T.S.cols->Sl 84 aD h (.slice r y v) T.rows->k (.agg #[.string T.S.name,.slice f n u,.int .i64 T.S.key,.bool T.S.only,.slice r y v]) h):
 Ct 69 [.pointer (some ⟨E,0,none⟩),.string nm] h k:=by
 refine q.elim (λf n u r y v b3 n3 c3 b4 n4 c4 b5 n5 c5 b6 n6 c6 b7 n7 c7 b8 n8 c8 b9 n9 c9 gW jD gT g qd U V W q4 q5 q6=>?_);clear U V W q4 q5 q6;have o:=qd.eJI;have tG:=o.len;have P:cI d nm=(d.az.find? λt=>decide (t.S.name=nm)).getD ⟨⟨b0,[],0,false⟩,[]⟩:=rfl;generalize cI d nm=D at *;obtain⟨R,hR⟩:∃R,d.az.find? (λt=>decide (t.S.name=nm))=R:=⟨_,rfl⟩;rw[hR]at P;obtain⟨I,Y⟩:∃I:Nat->Int->ad->Prop,∀m z h',I m z h'=∃i,aS z i/\i<=n/\m=n-i/\h'=h/\(d.az.drop i).find? (λt=>decide (t.S.name=nm))=R:=⟨_,λ_ _ _=>rfl⟩;have J:I n 0 h:=by rw[Y];exact⟨0,⟨rfl⟩,mQC _,rfl,rfl,hR⟩
 refine mQx lKS Tryz.func69 λA hA=>?_;cbv;rw[ai A,ai A];refine mQw g ?_;cbv;refine aX.go (G:=Int) (λz=>[(13,.v (.int .i64 z))]) (λ_=>[(4,[.string ⟨#[]⟩,.slice none 0 0,.int .i64 0,.bool false,.slice none 0 0])]) (λm z h'=>I m z h') n 0 (by constructor<;>cbv) J ?_
 intro m z x B;rw[Y]at B;cbv;obtain⟨i,l,hi,hm,e',a⟩:=B;subst e';have H:A .aI .lss z (A .nat n)=decide (i<n):=l.iJ (aS.nat n);rw[H];by_cases c:i<n
 .obtain⟨t,C⟩:=mQA d.az i;have hd:d.az.drop i=t::d.az.drop (i+1):=by obtain⟨x,K⟩:=mQB.1 C;rw[mQJ x,K]
  rw[hd,List.find?_cons]at a;have F:f.isSome=true/\0<=z/\z<(n:Int):=⟨o.aT,l.ix c⟩;have N:=l.eq;have Z:=l.succ (A:=A) (by have:=o.bound;omega);have X:n-(i+1)<m:=by omega
  have w:(d.az.drop (i+1)).find? (λt=>decide (t.S.name=nm))=R->I (n-(i+1)) (A .bB .add .i64 z 1) x:=λe=>by rw[Y];exact⟨i+1,Z,c,rfl,rfl,e⟩
  clear Y J hR hd;rw[mQu c];cbv;refine⟨F,?_⟩;cbv;refine xU o C N (λt1 Q M t2 S O r1 r2=>?_);have fn:A .iQ .eql t.S.name nm=decide (t.S.name=nm):=cS A ..;by_cases j:t.S.name=nm
  .rw[mQu j]at a;have a:some t=R:=a;rw[<-a]at P;have P:D=t:=P;have p:=b t t1 Q M t2 S O P.symm r1 r2;rw[mQu j]at fn;obtain⟨⟨tn,tc,tk,to⟩,tr⟩:=t;clear b w P;cbv;rw[fn];cbv;exact p
  rw[mQv j]at a;have L:=w a;rw[mQv j]at fn;obtain⟨⟨tn,tc,tk,to⟩,tr⟩:=t;clear b w P;cbv;rw[fn];cbv;refine⟨n-(i+1),A .bB .add .i64 z 1,X,by constructor<;>cbv,L⟩
 rw[mQT (by omega)]at a;have a:none=R:=a;rw[<-a]at P;have P:D=⟨⟨b0,[],0,false⟩,[]⟩:=P;have p:=b ⟨⟨b0,[],0,false⟩,[]⟩ none 0 0 none 0 0 P.symm Sl.nil Sl.nil;clear b P Y J;rw[mQv c];cbv;exact p
theorem rB(cols:List cK)(r:Row)(x:List Nd)(xs:List (List Nd))(l:Row):pF cols r (x::xs) l=match eP x cols r with
 | (v,f)=>if f≠0 then([],f)else pF cols r xs (l++[v]):=rfl
theorem Kt(d:∀v∈r,kM v):∀ {ex:List Nd} {l m:List cO},(∀n∈ex,kM n.v)->(∀v∈l,kM v)->gM cols r ex l=some m->∀v∈m,kM v
 | [],l,m,_,b,h=>by cases h;exact b
 |n::e,l,m,c,b,h=>by
  rw[xL]at h;cases hw:xM n l cols r with
  |none=>rw[hw]at h;cases h
  |some w=>
   rw[hw]at h;refine Kt d (λn f=>c n (mXm _ f)) (λv a=>?_) h;rcases mQE.1 a with a|a
   .exact b v a
   rcases mQI.1 a with a|a
   .rw[a];exact OZ (c n mXn) b d hw
   cases a
theorem aJt{l:List cO}(a:∀v∈l,kM v):kM (xV l):=by
 unfold xV;cases h:l.getLast? with
 |none=>exact kA
 |some x=>exact a x (mZE h)
theorem zM{ex:List Nd}{v:cO}(b:∀n∈ex,kM n.v)(c:∀v∈r,kM v)(h:eP ex cols r=(v,e)):kM v:=by
 unfold eP at h;generalize jv ex cols=g at h;obtain⟨k,f⟩:=g;have h:(if f≠0 then(v0,f)else match gM cols r ex []with
  |some l=>(xV l,0)
  |none=>(v0,11))=(v,e):=h
 by_cases a:f≠0
 .rw[if_pos a]at h;cases h;exact kA
 rw[if_neg a]at h;cases hm:gM cols r ex []with
 |none=>rw[hm]at h;cases h;exact kA
 |some l=>rw[hm]at h;cases h;exact aJt (Kt c b (λ_ d=>by cases d) hm)
structure Nx(B h:ad)(ob:Nat)(l:Row):Prop where
 out:∃b n c,h ob=some (.cells #[.slice b n c] 84 (0,0))/\cF 86 bq B h (.slice b n c) l
 le:Le B h
 no:B ob=none
theorem aQU{ex:List Nd}(hn:∀n∈ex,Nm n.name/\kM n.v)(hc:∀c∈cols,Nm c.name)(hr:∀v∈r,kM v){B:ad}{o:Nat}{l:Row}(q:Nx B h o l)(hl:l.length<=2^30)
 {O:Option Addr} {R P:Nat} (qe:Sl 317 fx h (.slice O R P) ex)
 {m t p} {u:Nat} (Z:B u=some (.cells #[.slice m t p] 38 (0,0))) (qc:Sl 155 bI B (.slice m t p) cols) {F G rc}  (gr:B H=some (.cells #[.slice F G rc] 84 (0,0))) (qr:Sl 86 bq B (.slice F G rc) r) 
 (C:∀h' v e,Nx B h' o (l++[v])->(v,e)=eP ex cols r->k (.int .i64 e) h'):
 Ct 148 [.slice O R P,.pointer (some ⟨u,0,none⟩),.pointer (some ⟨H,0,none⟩),.pointer (some ⟨o,0,none⟩)] h k:=by
 have a:=q.le;have x:=q.no;obtain⟨b,n,c,go,E⟩:=q.out;have JD:=E.sl.len;have Q:=a _ _ Z;have W:=a _ _ gr;refine mQx lZs Tryz.func148 λA hA=>?_;cbv;refine mQw Q ?_;cbv;refine mQw W ?_;cbv;refine Gx hn hc hr qe (qc.mono (a.t _)) (qr.mono (a.t _)) (λh1 v e w i hv hw=>?_);obtain⟨L,M,N⟩:=v;subst hw;have K:=i _ _ go;cbv;refine mQw K ?_;cbv;intro D y Y f;have j:Le h1 y:=by rw[f];exact Le.set Y
 have J:Sl 86 bq y (.slice (some ⟨D,0,none⟩) 1 1) [⟨L,M,N⟩]:=bA (s:=bq) ((congrFun f D).trans ae) rfl;have g:=j _ _ K;clear f;cbv;refine(E.mono ((i.trans j).t _)).append J (by decide) rfl (by decide) (by omega) (a.trans (i.trans j)) (λm3 T V h3 X l3 I k3 ry=>?_);have U:h3 o=some (.cells #[.slice b n c] 84 (0,0)):=I [84] (by decide) _ _ _ _ (mQH.2 rfl) g;clear I k3 J;cbv;refine ja U (by simp) (λh4 d=>?_);have S:=C h4 ⟨L,M,N⟩ e ⟨⟨T,m3,V,by rw[d];exact ae,ry.mono (by rw[d];exact bR.set U (by decide))⟩,λb' o' z=>by rw[d,aO (λe=>by rw[e,x]at z;cases z)];exact l3 _ _ z,x⟩ hv;clear C d;cbv;exact S
theorem FX(hn:∀ex∈xs,∀n∈ex,Nm n.name/\kM n.v)(hc:∀c∈cols,Nm c.name)(hr:∀v∈r,kM v)(Cp:xs.length<=2^20)
 {xb:Option Addr} {xn xc:Nat} (qe:Sl 42 jM h (.slice xb xn xc) xs) {F:Option Addr} {G:Nat} (qc:Sl 155 bI h (.slice F H G) cols) {S:Option Addr} {T:Nat} (qr:Sl 86 bq h (.slice S U T) r) 
 (q:∀h' b n c l e,Le h h'->(l,e)=bS xs cols r->cF 86 bq h h' (.slice b n c) l->(∀v∈l,kM v)->k (.tuple #[.slice b n c,.int .i64 e]) h'):
 Ct 67 [.slice xb xn xc,.slice F H G,.slice S U T] h k:=by
 have E:=qe.len;have hP:bS xs cols r=pF cols r xs []:=rfl;generalize bS xs cols r=D at *;refine mQx jKn Tryz.func67 λA hA=>?_;cbv;intro cp t g1 L;have P:Le h t:=by rw[L];exact Le.set g1
 have R:t cp=some (.cells #[.slice F H G] 38 (0,0)):=by rw[L];exact ae
 clear L;cbv;intro rp p g2 M;have l2:Le t p:=by rw[M];exact Le.set g2
 have Q:p rp=some (.cells #[.slice S U T] 84 (0,0)):=by rw[M];exact ae
 clear M;cbv;intro m f g3 N;have l3:Le p f:=by rw[N];exact Le.set g3
 have Uk:f m=some (.cells #[.slice none 0 0] 84 (0,0)):=by rw[N];exact ae
 have jZ:=P.trans l2;have z:Le p (Sx.eF f m):=λb o O=>by
  rw[Sx.cY (λe=>by rw[e,g3]at O;cases O)];exact l3 _ _ O
 clear N;obtain⟨B,w⟩:∃B,B=Sx.eF f m:=⟨_,rfl⟩;rw[<-w]at z;have K:Le B f:=by rw[w];exact Sx.fY f m
 have X:B m=none:=by rw[w];exact Sx.dP f m
 have u:Le h B:=jZ.trans z;obtain⟨I,Y⟩:∃I:Nat->ad->Prop,∀i h',I i h'=∃l,Nx B h' m l/\l.length=i/\(∀v∈l,kM v)/\pF cols r (xs.drop i) l=D:=⟨_,λ_ _=>rfl⟩;have hJ:I 0 f:=by rw[Y];exact⟨[],⟨⟨none,0,0,Uk,cF.nil⟩,K,X⟩,rfl,(λ_ j=>by cases j),hP.symm⟩
 clear w;cbv;refine nQb E I hJ (λi h' g=>?_) (λi x h' b1 n1 c1 hi hx g j=>?_) (λh' g=>?_)
 .rw[Y]at g;obtain⟨l,s,-⟩:=g;exact qe.mono ((u.trans s.le).t _)
 .rw[Y]at g;obtain⟨l,s,Z,W,a⟩:=g;have hd:xs.drop i=x::xs.drop (i+1):=by obtain⟨t,p⟩:=mQB.1 hx;rw[mQJ t,p]
  rw[hd,rB]at a;have V:=mQz hx;refine aQU (hn x V) hc hr s (by omega) j (z _ _ (l2 _ _ R)) (qc.mono (u.t _)) (z _ _ Q) (qr.mono (u.t _)) (λh4 v e SA J=>⟨e,rfl,λh0=>?_,λh0=>?_⟩)
  .rw[<-J]at a;have a:(if e≠0 then([],e)else pF cols r (xs.drop (i+1)) (l++[v]))=D:=a;rw[if_neg (by simpa using h0)]at a;rw[Y];refine⟨l++[v],SA,by rw[mQy,mQG,Z],λy d=>?_,a⟩;rcases mQE.1 d with d|d
   .exact W y d
   rcases mQI.1 d with d|d
   .rw[d];exact zM (λn hh=>(hn x V n hh).2) hr J.symm
   cases d
  rw[<-J]at a;have a:(if e≠0 then([],e)else pF cols r (xs.drop (i+1)) (l++[v]))=D:=a;rw[if_pos h0]at a;have C:=q h4 none 0 0 [] e (u.trans SA.le) a cF.nil (λ_ j=>by cases j);have fe:A .aI .neq e 0=true:=by rw[aC A];exact mQu h0
  clear q Y;cbv;rw[fe];cbv;exact C
 rw[Y]at g;obtain⟨l,s,Z,W,a⟩:=g;rw[mQT (by omega)]at a;have a:(l,0)=D:=a;have l0:=s.le;obtain⟨b,n,c,go,qb⟩:=s.out;have JD:=qb.sl.len;have f0:A .aI .neq 0 0=false:=by rw[aC A];rfl
 have q:=λh' b n c P=>q h' b n c l 0 P a;clear Y;cbv;rw[f0];cbv;refine mQw go ?_;cbv;refine(mU qb.sl).mono (λv h5 hR=>?_);obtain⟨l5,b',c',j,oz⟩:=hR;subst j;have C:=q h5 b' n c' (u.trans (l0.trans l5)) (oz.base (u.trans l0)) W;clear q;cbv;exact C
def iY(ex:List Nd):Prop:=∀n∈ex,Nm n.name/\kM n.v
structure dr(x:aJ):Prop where
 on:iY x.on
 bV:iY x.bV
 exprs:∀e∈x.exprs,iY e
 items:∀i∈x.items,iY i.e
 len:x.exprs.length<=2^20
 names:x.kind=4->x.exprs.length=x.names.length
 group:Nm x.group
 order:Nm x.order
 aJU:x.items.length<=2^20
 dZG:x.names.length<=2^20
theorem hJm(q:fM h p d s st)(Q:ue n d)(O:n<2^18)(P:-2^63<=s/\s<2^63){L:Nat}(X:Sl 86 bq h (.slice I L K) r)
 (a:∀h',Kp [p] h h'->fM h' p (fF d s st.table r).1 s st->k (.int .i64 (fF d s st.table r).2) h'):Ct 79 [.pointer (some ⟨p,0,none⟩),.slice I L K] h k:=by
 refine q.elim (λb w j e x m f y o i z t b5 n5 c5 b6 n6 c6 b7 n7 c7 b8 n8 c8 b9 n9 c9 gW jD gT g B R S T U V W=>?_);clear R S T U V W;obtain⟨D,G⟩:∃D,fF d s st.table r=D:=⟨_,rfl⟩;rw[G]at a;obtain⟨C,E⟩:=D;replace a:∀h',Kp [p] h h'->fM h' p C s st->k (.int .i64 E) h':=a;have bU:∀ {h' v:ad} {b:Option Addr} {w j:Nat} {e:Option Addr} {x m:Nat} {f:Option Addr} {y o:Nat} {i:Option Addr} {z t:Nat} {c:List Value},Le h h'->h' p=some (.cells (List.toArray c) 91 (0,0))->ik h' (.agg #[.slice b w j,.slice e x m,.slice f y o,.slice i z t]) C->v=bU h' p (.cells (List.toArray (jS c 0 [.slice b w j,.slice e x m,.slice f y o,.slice i z t])) 91 (0,0))->k (.int .i64 E) v:=λl g B F=>by
  have:=q.aXV l g B F;exact a _ this.2 this.1
 clear a;refine mQx jKe Tryz.func79 λA hA=>?_;cbv;rw[ai A];refine mQw g ?_;cbv;rw[ai A];refine mQw g ?_;cbv;rw[ai A,ai A];refine mQw g ?_;cbv;refine aZs B Q O s P st.table X G ?_;intro h1 e1 m1 a1 F m2 a2 e3 m3 Y e4 m4 Z H M;have u:=H _ _ g;cbv;rw[ai A];refine ja u (by simp) (λv J=>?_);have N:=bU H u M J;clear bU u J;cbv;exact N
theorem eJF(q:fM h p d s st)(ok:ue n d)(jm:n<2^18)(jx:-2^63<=s/\s<2^63)(X:0<=(cI d st.table).S.key/\(cI d st.table).S.key<r.length){J:Nat}(H:Sl 86 bq h (.slice I J U) r)
 (a:∀h',Kp [p] h h'->fM h' p (iz d s st.table (mD d st.table r)).1 s st->k (.int .i64 (iz d s st.table (mD d st.table r)).2) h'):Ct 78 [.pointer (some ⟨p,0,none⟩),.slice I J U] h k:=by
 have mF:=H.len;obtain⟨x,hx⟩:=aE (xs:=r) (i:=(cI d st.table).S.key.toNat) (by omega);have j:mD d st.table r=x:=lD hx (by omega);rw[j]at a;have N:I.isSome=true/\0<=(cI d st.table).S.key/\(cI d st.table).S.key<(J:Int):=⟨H.aT,by omega,by omega⟩;have P:(cI d st.table).S.key=(((cI d st.table).S.key.toNat:Nat):Int):=by omega
 refine q.elim (λb B o e C t f E u m F v b5 n5 c5 b6 n6 c6 b7 n7 c7 b8 n8 c8 b9 n9 c9 gW jD gT g G q1 q2 q3 q4 q5 q6=>?_);clear q1 q2 q3 q4 q5 q6;obtain⟨D,Q⟩:∃D,iz d s st.table x=D:=⟨_,rfl⟩;rw[Q]at a;obtain⟨K,L⟩:=D;replace a:∀h',Kp [p] h h'->fM h' p K s st->k (.int .i64 L) h':=a;have bU:∀ {h' z:ad} {b:Option Addr} {B o:Nat} {e:Option Addr} {C t:Nat} {f:Option Addr} {E u:Nat} {m:Option Addr} {F v:Nat} {c:List Value},Le h h'->h' p=some (.cells (List.toArray c) 91 (0,0))->ik h' (.agg #[.slice b B o,.slice e C t,.slice f E u,.slice m F v]) K->z=bU h' p (.cells (List.toArray (jS c 0 [.slice b B o,.slice e C t,.slice f E u,.slice m F v])) 91 (0,0))->k (.int .i64 L) z:=λl g G O=>by
  have:=q.aXV l g G O;exact a _ this.2 this.1
 clear a j X;refine mQx lXS Tryz.func78 λA hA=>?_;cbv;rw[ai A];refine mQw g ?_;cbv;rw[ai A];refine mQw g ?_;cbv;rw[ai A,ai A];refine mQw g ?_;cbv;rw[ai A,ai A];refine mQw g ?_;cbv;refine EZ q st.table (λT t1 u1 w1 t2 u2 w2 R r1 r2=>?_);rw[<-R]at N P hx;clear R r1 r2;obtain⟨⟨tn,tc,tk,to⟩,tr⟩:=T;cbv;refine mQw g ?_;cbv;refine⟨⟨_,rfl,rfl⟩,?_⟩;cbv;refine mQw g ?_;cbv;refine⟨⟨_,rfl,rfl⟩,?_⟩;cbv;refine mQw g ?_;cbv;refine⟨⟨_,rfl,rfl⟩,?_⟩;cbv;refine⟨N,?_⟩;cbv;refine H.load hx P (λcs y=>?_);obtain⟨V,W,xs⟩:=x;have y:cs=[.int .i64 V,.int .i64 W,.string xs]:=y;subst y;cbv;refine bJx G ok jm s jx st.table ⟨V,W,xs⟩ Q ?_;intro h1 e1 m1 a1 O m2 a2 e3 m3 a3 e4 m4 a4 S Y;have w:=S _ _ g;cbv;rw[ai A];refine ja w (by simp) (λz M=>?_);have Z:=bU S w Y M;clear bU w M;cbv;exact Z
theorem Lx{d0:DB}(q:fM h p d s st){u r B:Nat}(ge:h u=some (.cells #[.int .i64 e] 35 (0,0))){i k:Option Addr}{v l w x y o:Nat}(gd:h r=some (.cells #[.slice b v l,.slice i w m,.slice j x n,.slice k y o] 32 (0,0)))(z:ik h (.agg #[.slice b v l,.slice i w m,.slice j x n,.slice k y o]) d0)
 (M:h B=some (.cells #[.pointer (some ⟨p,0,none⟩)] 89 (0,0))):gZt 146 [.pointer (some ⟨u,0,none⟩),.pointer (some ⟨r,0,none⟩),.pointer (some ⟨B,0,none⟩)] h (λ_ h'=>Kp [p] h h'/\fM h' p (if e≠0 then d0 else d) s st):=by
 obtain⟨A,hA⟩:=Ar.ex;have L:A .aI .neq e 0=decide (e≠0):=aC A ..;refine zg A (ax gXK.aK gXK.bF) Tryz.func146 rfl (by kernel_rfl) ?_;cbv;refine mQw ge ?_;cbv;rw[L];by_cases h0:e≠0
 .obtain⟨c,a⟩:=q.has;rw[mQu h0];cbv;refine mQw M ?_;cbv;refine mQw gd ?_;cbv;rw[ai A];obtain⟨c⟩:=c;have N:4<=c.length:=by refine q.elim (λI C K H X J G W E F Z D Xh VD WZ Xg Y WY Xf T WX U R S Xe V WW Q O P g z q1 q2 q3 q4 q5 q6=>?_);rw[a]at g;cases g;show 4<=22;omega
  refine ja a (by simpa using N) (λh2 t=>?_);have f:=q.aXV (Le.refl h) a z t;clear t;cbv;rw[if_pos h0];exact⟨f.2,f.1⟩
 rw[mQv h0];cbv;rw[if_neg h0];exact⟨Kp.refl _ _,q⟩
theorem aQP(q:fM h p d s st)
 (step:∀a,Le h a->fM a p d s st->Ct 66 [p0] a (λr f=>r=.int .i64 D.2/\Kp [p] a f/\fM f p D.1 s st)) 
 (w:∀h',Kp [p] h h'->fM h' p (cP d D).1 s st->k (.tuple #[.slice none 0 0,.int .i64 (cP d D).2.2]) h'):Ct 65 [.pointer (some ⟨p,0,none⟩),.func (.func 66) #[] #[p0]] h k:=by
 obtain⟨A,hA⟩:=Ar.ex;have EU:(cP d D).1=if D.2≠0 then d else D.1:=by unfold cP;by_cases c:D.2≠0<;>simp[c]
 have vj:(cP d D).2.2=D.2:=by unfold cP;by_cases c:D.2=0<;>simp[c]
 rw[EU,vj]at w;obtain⟨E,y⟩:=D;replace w:∀h',Kp [p] h h'->fM h' p (if y≠0 then d else E) s st->k (.tuple #[.slice none 0 0,.int .i64 y]) h':=w;replace step:∀a,Le h a->fM a p d s st->Ct 66 [p0] a (λr f=>r=.int .i64 y/\Kp [p] a f/\fM f p E s st):=step;clear EU vj;obtain⟨cp,hp⟩:=q.has;refine oZ A (ax jKo.aK jKo.bF) Tryz.func65 rfl (by kernel_rfl) ?_;cbv;intro x a g1 F;have B:Le h a:=by rw[F];exact Le.set g1
 have sq:a x=some (.cells #[.pointer (some ⟨p,0,none⟩)] 89 (0,0)):=by rw[F];exact ae
 have nw:x≠p:=λe=>by rw[e,hp]at g1;cases g1
 clear F;cbv;intro m f n G;have l2:Le a f:=by rw[G];exact Le.set n
 have S:f m=some (.cells #[.int .i64 0] 35 (0,0)):=by rw[G];exact ae
 have ne:m≠p:=λe=>by rw[e,B _ _ hp]at n;cases n
 have new:m≠x:=λe=>by rw[e,sq]at n;cases n
 have Q:h m=none:=by
  cases hh:h m with
  |none=>rfl
  |some o=>rw[B _ _ hh]at n;cases n
 clear G;refine(q.mono (B.trans l2)).elim (λb1 n1 c1 b2 n2 c2 b3 n3 c3 b4 n4 c4 b5 n5 c5 b6 n6 c6 b7 n7 c7 b8 n8 c8 b9 n9 c9 gW jD gT g qd q1 q2 q3 q4 q5 q6=>?_);clear q1 q2 q3 q4 q5 q6;have rz:=l2 _ _ sq;cbv;refine mQw rz ?_;cbv;rw[ai A];refine mQw g ?_;cbv;intro j h3 i H;have l3:Le f h3:=by rw[H];exact Le.set i
 have T:h3 j=some (.cells #[.slice none 0 0,.slice none 0 0,.slice none 0 0,.slice none 0 0] 32 (0,0)):=by rw[H];exact ae
 have W:j≠p:=λe=>by rw[e,g]at i;cases i
 have J:j≠m:=λe=>by rw[e,S]at i;cases i
 have aj:j≠x:=λe=>by rw[e,rz]at i;cases i
 have ET:Le h f:=B.trans l2;have ag:h j=none:=by
  cases hh:h j with
  |none=>rfl
  |some o=>rw[ET _ _ hh]at i;cases i
 clear H;cbv;refine ja T (by simp) (λz I=>?_);have N:z j=some (.cells #[.slice b1 n1 c1,.slice b2 n2 c2,.slice b3 n3 c3,.slice b4 n4 c4] 32 (0,0)):=by rw[I];exact ae
 have C:Le f z:=λb o t=>by rw[I,aO (λe=>by rw[e,i]at t;cases t)];exact l3 _ _ t
 have U:=C _ _ S;have Ji:=C _ _ rz;have Y:=ET.trans C;have L:=qd.mono C;clear I T l3;cbv;refine(step z Y (q.mono Y)).mono (λr h5 hR=>?_);obtain⟨hr,M,q5⟩:=hR;subst hr;have Cf:∀tys,91∉tys->bR tys z h5:=λtys ht=>(q.mono Y).kp M ht;have ab:=M _ _ N (by simpa using W);have R:=M _ _ U (by simpa using ne);have As:=M _ _ Ji (by simpa using nw);have X:=L.cJJ (Cf _ (by decide));clear step;cbv;refine ja R (by simp) (λu l=>?_);have SN:∀tys,35∉tys->bR tys h5 u:=λtys ht=>by rw[l];exact bR.set R ht
 have K:u m=some (.cells #[.int .i64 y] 35 (0,0)):=by rw[l];exact ae
 have V:u j=some (.cells #[.slice b1 n1 c1,.slice b2 n2 c2,.slice b3 n3 c3,.slice b4 n4 c4] 32 (0,0)):=by rw[l,aO J];exact ab
 have O:u x=some (.cells #[.pointer (some ⟨p,0,none⟩)] 89 (0,0)):=by rw[l,aO (Ne.symm new)];exact As
 have q6:fM u p E s st:=q5.lt (by rw[l,aO (Ne.symm ne)]) (SN _ (by decide));have Mc:=X.cJJ (SN _ (by decide));have Z:Kp [p] h u:=λb o t hn=>by
  rw[l,aO (λe=>by rw[e,Q]at t;cases t)];exact M _ _ (Y _ _ t) hn
 clear l;cbv;refine(Lx q6 K V Mc O).mono (λv h7 hR=>?_);obtain⟨DA,q7⟩:=hR;have af:=w h7 (Z.trans DA) q7;have P:=DA _ _ K (by simpa using ne);clear w;cbv;refine mQw P ?_;cbv;exact af
theorem NY(q:fM h p d s st)
 (step:∀a,Le h a->fM a p d s st->Ct 70 [p0,p1] a (λr f=>r=.int .i64 D.2/\Kp [p] a f/\fM f p D.1 s st)) 
 (w:∀h',Kp [p] h h'->fM h' p (cP d D).1 s st->k (.tuple #[.slice none 0 0,.int .i64 (cP d D).2.2]) h'):Ct 65 [.pointer (some ⟨p,0,none⟩),.func (.func 70) #[] #[p0,p1]] h k:=by
 obtain⟨A,hA⟩:=Ar.ex;have EU:(cP d D).1=if D.2≠0 then d else D.1:=by unfold cP;by_cases c:D.2≠0<;>simp[c]
 have vj:(cP d D).2.2=D.2:=by unfold cP;by_cases c:D.2=0<;>simp[c]
 rw[EU,vj]at w;obtain⟨E,y⟩:=D;replace w:∀h',Kp [p] h h'->fM h' p (if y≠0 then d else E) s st->k (.tuple #[.slice none 0 0,.int .i64 y]) h':=w;replace step:∀a,Le h a->fM a p d s st->Ct 70 [p0,p1] a (λr f=>r=.int .i64 y/\Kp [p] a f/\fM f p E s st):=step;clear EU vj;obtain⟨cp,hp⟩:=q.has;refine oZ A (ax jKo.aK jKo.bF) Tryz.func65 rfl (by kernel_rfl) ?_;cbv;intro x a g1 F;have B:Le h a:=by rw[F];exact Le.set g1
 have sq:a x=some (.cells #[.pointer (some ⟨p,0,none⟩)] 89 (0,0)):=by rw[F];exact ae
 have nw:x≠p:=λe=>by rw[e,hp]at g1;cases g1
 clear F;cbv;intro m f n G;have l2:Le a f:=by rw[G];exact Le.set n
 have S:f m=some (.cells #[.int .i64 0] 35 (0,0)):=by rw[G];exact ae
 have ne:m≠p:=λe=>by rw[e,B _ _ hp]at n;cases n
 have new:m≠x:=λe=>by rw[e,sq]at n;cases n
 have Q:h m=none:=by
  cases hh:h m with
  |none=>rfl
  |some o=>rw[B _ _ hh]at n;cases n
 clear G;refine(q.mono (B.trans l2)).elim (λb1 n1 c1 b2 n2 c2 b3 n3 c3 b4 n4 c4 b5 n5 c5 b6 n6 c6 b7 n7 c7 b8 n8 c8 b9 n9 c9 gW jD gT g qd q1 q2 q3 q4 q5 q6=>?_);clear q1 q2 q3 q4 q5 q6;have rz:=l2 _ _ sq;cbv;refine mQw rz ?_;cbv;rw[ai A];refine mQw g ?_;cbv;intro j h3 i H;have l3:Le f h3:=by rw[H];exact Le.set i
 have T:h3 j=some (.cells #[.slice none 0 0,.slice none 0 0,.slice none 0 0,.slice none 0 0] 32 (0,0)):=by rw[H];exact ae
 have W:j≠p:=λe=>by rw[e,g]at i;cases i
 have J:j≠m:=λe=>by rw[e,S]at i;cases i
 have aj:j≠x:=λe=>by rw[e,rz]at i;cases i
 have ET:Le h f:=B.trans l2;have ag:h j=none:=by
  cases hh:h j with
  |none=>rfl
  |some o=>rw[ET _ _ hh]at i;cases i
 clear H;cbv;refine ja T (by simp) (λz I=>?_);have N:z j=some (.cells #[.slice b1 n1 c1,.slice b2 n2 c2,.slice b3 n3 c3,.slice b4 n4 c4] 32 (0,0)):=by rw[I];exact ae
 have C:Le f z:=λb o t=>by rw[I,aO (λe=>by rw[e,i]at t;cases t)];exact l3 _ _ t
 have U:=C _ _ S;have Ji:=C _ _ rz;have Y:=ET.trans C;have L:=qd.mono C;clear I T l3;cbv;refine(step z Y (q.mono Y)).mono (λr h5 hR=>?_);obtain⟨hr,M,q5⟩:=hR;subst hr;have Cf:∀tys,91∉tys->bR tys z h5:=λtys ht=>(q.mono Y).kp M ht;have ab:=M _ _ N (by simpa using W);have R:=M _ _ U (by simpa using ne);have As:=M _ _ Ji (by simpa using nw);have X:=L.cJJ (Cf _ (by decide));clear step;cbv;refine ja R (by simp) (λu l=>?_);have SN:∀tys,35∉tys->bR tys h5 u:=λtys ht=>by rw[l];exact bR.set R ht
 have K:u m=some (.cells #[.int .i64 y] 35 (0,0)):=by rw[l];exact ae
 have V:u j=some (.cells #[.slice b1 n1 c1,.slice b2 n2 c2,.slice b3 n3 c3,.slice b4 n4 c4] 32 (0,0)):=by rw[l,aO J];exact ab
 have O:u x=some (.cells #[.pointer (some ⟨p,0,none⟩)] 89 (0,0)):=by rw[l,aO (Ne.symm new)];exact As
 have q6:fM u p E s st:=q5.lt (by rw[l,aO (Ne.symm ne)]) (SN _ (by decide));have Mc:=X.cJJ (SN _ (by decide));have Z:Kp [p] h u:=λb o t hn=>by
  rw[l,aO (λe=>by rw[e,Q]at t;cases t)];exact M _ _ (Y _ _ t) hn
 clear l;cbv;refine(Lx q6 K V Mc O).mono (λv h7 hR=>?_);obtain⟨DA,q7⟩:=hR;have af:=w h7 (Z.trans DA) q7;have P:=DA _ _ K (by simpa using ne);clear w;cbv;refine mQw P ?_;cbv;exact af
theorem NZ(q:fM h p d s st)
 (step:∀a,Le h a->fM a p d s st->Ct 80 [p0,p1] a (λr f=>r=.int .i64 D.2/\Kp [p] a f/\fM f p D.1 s st)) 
 (w:∀h',Kp [p] h h'->fM h' p (cP d D).1 s st->k (.tuple #[.slice none 0 0,.int .i64 (cP d D).2.2]) h'):Ct 65 [.pointer (some ⟨p,0,none⟩),.func (.func 80) #[] #[p0,p1]] h k:=by
 obtain⟨A,hA⟩:=Ar.ex;have EU:(cP d D).1=if D.2≠0 then d else D.1:=by unfold cP;by_cases c:D.2≠0<;>simp[c]
 have vj:(cP d D).2.2=D.2:=by unfold cP;by_cases c:D.2=0<;>simp[c]
 rw[EU,vj]at w;obtain⟨E,y⟩:=D;replace w:∀h',Kp [p] h h'->fM h' p (if y≠0 then d else E) s st->k (.tuple #[.slice none 0 0,.int .i64 y]) h':=w;replace step:∀a,Le h a->fM a p d s st->Ct 80 [p0,p1] a (λr f=>r=.int .i64 y/\Kp [p] a f/\fM f p E s st):=step;clear EU vj;obtain⟨cp,hp⟩:=q.has;refine oZ A (ax jKo.aK jKo.bF) Tryz.func65 rfl (by kernel_rfl) ?_;cbv;intro x a g1 F;have B:Le h a:=by rw[F];exact Le.set g1
 have sq:a x=some (.cells #[.pointer (some ⟨p,0,none⟩)] 89 (0,0)):=by rw[F];exact ae
 have nw:x≠p:=λe=>by rw[e,hp]at g1;cases g1
 clear F;cbv;intro m f n G;have l2:Le a f:=by rw[G];exact Le.set n
 have S:f m=some (.cells #[.int .i64 0] 35 (0,0)):=by rw[G];exact ae
 have ne:m≠p:=λe=>by rw[e,B _ _ hp]at n;cases n
 have new:m≠x:=λe=>by rw[e,sq]at n;cases n
 have Q:h m=none:=by
  cases hh:h m with
  |none=>rfl
  |some o=>rw[B _ _ hh]at n;cases n
 clear G;refine(q.mono (B.trans l2)).elim (λb1 n1 c1 b2 n2 c2 b3 n3 c3 b4 n4 c4 b5 n5 c5 b6 n6 c6 b7 n7 c7 b8 n8 c8 b9 n9 c9 gW jD gT g qd q1 q2 q3 q4 q5 q6=>?_);clear q1 q2 q3 q4 q5 q6;have rz:=l2 _ _ sq;cbv;refine mQw rz ?_;cbv;rw[ai A];refine mQw g ?_;cbv;intro j h3 i H;have l3:Le f h3:=by rw[H];exact Le.set i
 have T:h3 j=some (.cells #[.slice none 0 0,.slice none 0 0,.slice none 0 0,.slice none 0 0] 32 (0,0)):=by rw[H];exact ae
 have W:j≠p:=λe=>by rw[e,g]at i;cases i
 have J:j≠m:=λe=>by rw[e,S]at i;cases i
 have aj:j≠x:=λe=>by rw[e,rz]at i;cases i
 have ET:Le h f:=B.trans l2;have ag:h j=none:=by
  cases hh:h j with
  |none=>rfl
  |some o=>rw[ET _ _ hh]at i;cases i
 clear H;cbv;refine ja T (by simp) (λz I=>?_);have N:z j=some (.cells #[.slice b1 n1 c1,.slice b2 n2 c2,.slice b3 n3 c3,.slice b4 n4 c4] 32 (0,0)):=by rw[I];exact ae
 have C:Le f z:=λb o t=>by rw[I,aO (λe=>by rw[e,i]at t;cases t)];exact l3 _ _ t
 have U:=C _ _ S;have Ji:=C _ _ rz;have Y:=ET.trans C;have L:=qd.mono C;clear I T l3;cbv;refine(step z Y (q.mono Y)).mono (λr h5 hR=>?_);obtain⟨hr,M,q5⟩:=hR;subst hr;have Cf:∀tys,91∉tys->bR tys z h5:=λtys ht=>(q.mono Y).kp M ht;have ab:=M _ _ N (by simpa using W);have R:=M _ _ U (by simpa using ne);have As:=M _ _ Ji (by simpa using nw);have X:=L.cJJ (Cf _ (by decide));clear step;cbv;refine ja R (by simp) (λu l=>?_);have SN:∀tys,35∉tys->bR tys h5 u:=λtys ht=>by rw[l];exact bR.set R ht
 have K:u m=some (.cells #[.int .i64 y] 35 (0,0)):=by rw[l];exact ae
 have V:u j=some (.cells #[.slice b1 n1 c1,.slice b2 n2 c2,.slice b3 n3 c3,.slice b4 n4 c4] 32 (0,0)):=by rw[l,aO J];exact ab
 have O:u x=some (.cells #[.pointer (some ⟨p,0,none⟩)] 89 (0,0)):=by rw[l,aO (Ne.symm new)];exact As
 have q6:fM u p E s st:=q5.lt (by rw[l,aO (Ne.symm ne)]) (SN _ (by decide));have Mc:=X.cJJ (SN _ (by decide));have Z:Kp [p] h u:=λb o t hn=>by
  rw[l,aO (λe=>by rw[e,Q]at t;cases t)];exact M _ _ (Y _ _ t) hn
 clear l;cbv;refine(Lx q6 K V Mc O).mono (λv h7 hR=>?_);obtain⟨DA,q7⟩:=hR;have af:=w h7 (Z.trans DA) q7;have P:=DA _ _ K (by simpa using ne);clear w;cbv;refine mQw P ?_;cbv;exact af
theorem aJL(q:fM h p d s st)(hx:dr st)(Y:ue n d)(W:n<2^18)(X:-2^63<=s/\s<2^63){S:Nat}(R:h S=some (.cells #[.pointer (some ⟨p,0,none⟩)] 89 (0,0)))
  (a:D=match bS st.exprs [] []with
  | (r,e)=>if e≠0 then(d,e)else fF d s st.table r)  (f:∀h',Kp [p] h h'->fM h' p D.1 s st->k (.int .i64 D.2) h'):
 Ct 66 [.pointer (some ⟨S,0,none⟩)] h k:=by
 refine q.elim (λw K B x L C y M E z N F b5 n5 c5 b6 n6 c6 b7 n7 c7 b8 n8 c8 b9 n9 c9 gW jD gT g O q1 q2 q3 q4 q5 q6=>?_);clear q1 q2 q3 q5 q6;obtain⟨t,u⟩:=D;replace f:∀h',Kp [p] h h'->fM h' p t s st->k (.int .i64 u) h':=f;refine mQx lKU Tryz.func66 λA hA=>?_;cbv;refine mQw R ?_;cbv;rw[ai A,ai A];refine mQw g ?_;cbv;refine FX hx.exprs (cols:=[]) (λ_ V=>by cases V) (r:=[]) (λ_ I=>by cases I) hx.len q4 Sl.nil Sl.nil (λU b m c l e i I qb il=>?_);rw[<-I]at a;replace a:(t,u)=if e≠0 then(d,e)else fF d s st.table l:=a
 have Q:A .aI .eql e 0=decide (e=0):=aA A ..;have j:=i _ _ R;have o:=i _ _ g;by_cases h0:e=0
 .rw[if_neg (λg=>g h0)]at a;have bU:∀ {h' H:ad} {w:Option Addr} {K B:Nat} {x:Option Addr} {L C:Nat} {y:Option Addr} {M E:Nat} {z:Option Addr} {N F:Nat} {c:List Value},Le h h'->h' p=some (.cells (List.toArray c) 91 (0,0))->ik h' (.agg #[.slice w K B,.slice x L C,.slice y M E,.slice z N F]) t->H=bU h' p (.cells (List.toArray (jS c 0 [.slice w K B,.slice x L C,.slice y M E,.slice z N F])) 91 (0,0))->k (.int .i64 u) H:=λl g O P=>by
   have:=q.aXV l g O P;exact f _ this.2 this.1
  clear f;cbv;rw[Q,mQu h0];cbv;refine mQw j ?_;cbv;refine mQw j ?_;cbv;try rw[ai A]
  refine mQw o ?_;cbv;refine mQw j ?_;cbv;try rw[ai A]
  refine mQw o ?_;cbv;refine mQw j ?_;cbv;first|rw[ai A,ai A] |rw[ai A] |skip
  refine mQw o ?_;cbv;refine aZs (O.mono i) Y W s X st.table qb.sl a.symm ?_;intro H e1 m1 a1 P m2 a2 e3 m3 a3 e4 m4 a4 J T;have G:=J _ _ o;have rz:=J _ _ j;cbv;refine mQw rz ?_;cbv;refine⟨⟨_,rfl,rfl⟩,?_⟩;cbv;try rw[ai A]
  refine ja G (by simp) (λh3 Z=>?_);have v:=bU (i.trans J) G T Z;clear bU G Z;cbv;exact v
 rw[if_pos h0]at a;cases a;have v:=f U (i.kp _) (q.mono i);clear f;cbv;rw[Q,mQv h0];cbv;exact v
theorem cQd(q:fM h p d s st)(hx:dr st)(J:SJ n d)(jm:n+2<2^18)(G:-2^63<=s/\s<2^63)
 (l:∀h',Kp [p] h h'->fM h' p (nO d s st).1 s st->k (.tuple #[.slice none 0 0,.int .i64 (nO d s st).2.2]) h'):
 Ct 26 [.pointer (some ⟨p,0,none⟩)] h k:=by
 have P:nO d s st=match aL d ⟨s,st.table,true⟩with
  | (d,e)=>if e≠0 then(d,[],e)else cP d (match bS st.exprs [] []with
   | (r,e)=>if e≠0 then(d,e)else fF d s st.table r):=rfl
 generalize nO d s st=D at *;have x:=yH J ⟨s,st.table,true⟩ G;obtain⟨c,M⟩:=q.has;refine q.elim (λW n1 c1 X n2 c2 Y n3 c3 b4 n4 c4 b5 n5 c5 b6 n6 c6 b7 n7 c7 b8 n8 c8 b9 n9 c9 gW jD gT g qd S f i w T U=>?_);clear S f i w T U;refine mQx jKT Tryz.func26 λA hA=>?_;cbv;intro z C t o;have v:Le h C:=by rw[o];exact Le.set t
 have y:C z=some (.cells #[.pointer (some ⟨p,0,none⟩)] 89 (0,0)):=by rw[o];exact ae
 have R:z≠p:=λe=>by rw[e,M]at t;cases t
 have L:=v _ _ g;clear o;cbv;refine mQw y ?_;cbv;refine mQw y ?_;cbv;first|rw[ai A,ai A] |rw[ai A] |skip
 refine mQw L ?_;cbv;refine UP (q.mono v) J.Ko (by omega) st.table true (λj I f=>?_);generalize aL d ⟨s,st.table,true⟩=H at *;obtain⟨a,e⟩:=H;replace f:fM j p a s st:=f;replace x:SJ (n+1) a:=x;replace P:D=if e≠0 then(a,[],e)else cP a (match bS st.exprs [] []with
  | (r,e)=>if e≠0 then(a,e)else fF a s st.table r):=P
 have B:A .aI .neq e 0=decide (e≠0):=aC A ..;have Z:Kp [p] h j:=(v.kp _).trans I;have K:=I _ _ y (by simpa using R);by_cases h0:e≠0
 .rw[if_pos h0]at P;subst P;have m:=l j Z f;clear l;cbv;rw[B,mQu h0];cbv;exact m
 rw[if_neg h0]at P;have F:∀b,Le j b->fM b p a s st->Ct 66 [.pointer (some ⟨z,0,none⟩)] b (λr u=>r=.int .i64 (match bS st.exprs [] []with
  | (r,e)=>if e≠0 then(a,e)else fF a s st.table r).2/\Kp [p] b u/\fM u p (match bS st.exprs [] []with
  | (r,e)=>if e≠0 then(a,e)else fF a s st.table r).1 s st):=λb Q i=>aJL i hx x.Ko (by omega) G (Q _ _ K) rfl (λu O w=>⟨rfl,O,w⟩)
 generalize (match bS st.exprs [] []with
  | (r,e)=>if e≠0 then(a,e)else fF a s st.table r)=E at *
 cbv;rw[B,mQv h0];cbv;refine mQw K ?_;cbv;refine aQP f F (λb N i=>?_);rw[<-P]at i |-;have m:=l b (Z.trans N) i;clear l F;generalize D.2.2=V at *;cbv;exact m
def ph(nm:ByteArray)(c:cK):cK:=⟨nm++aM [46]++c.name,c.kind,c.null⟩
theorem mT(t:cW):aR t=t.S.cols.map (ph t.S.name):=rfl
theorem VI{f:a->a}{xs:List a}{x:a}(h:xs[i]? =some x):((xs.take i).map f++xs.drop i).set i (f x)=(xs.take (i+1)).map f++xs.drop (i+1):=by
 have d:=(mQB.1 h).1;have hd:xs.drop i=x::xs.drop (i+1):=by obtain⟨b,c⟩:=mQB.1 h;rw[mQJ b,c]
 have l:((xs.take i).map f).length=i:=by simp;omega
 rw[hd,mJv _ _ (by omega),l,mXK,List.set_cons_zero];rw[mXt,h];simp
theorem VJ{f:a->a}{xs:List a}{x:a}(h:xs[i]? =some x):((xs.take i).map f++xs.drop i)[i]? =some x:=by have b:=(mQB.1 h).1;rw[mXJ (by simp;omega),mQN,mQK,mZs (by omega),mXK,mXr,mJr,h]
theorem me{nm:ByteArray}(wD:Nm nm)(hc:∀c∈cols,Nm c.name){s:Option Addr}{cn t:Nat}(O:Sl 155 bI h (.slice s cn t) cols)(key:Int)(only:Bool)(Q:Option Addr)(S R:Nat)
 (p:∀h' b n c,Le h h'->cF 155 bI h h' (.slice b n c) (cols.map (ph nm))->k (.slice b n c) h'):
 Ct 72 [.agg #[.string nm,.slice s cn t,.int .i64 key,.bool only,.slice Q S R]] h k:=by
 obtain⟨A,E⟩:=Ar.ex;obtain⟨X,hX⟩:∃X,A .cat nm ⟨#[46]⟩=X:=⟨_,rfl⟩;have K:X=nm++aM [46]:=by rw[<-hX,E.cat];rfl
 have jE:((nm.size+(⟨#[46]⟩:ByteArray).size:Nat):Int)<=2^62:=by have:=wD.sz;have e:(⟨#[46]⟩:ByteArray).size=1:=rfl;rw[e];omega
 have F:∀c∈cols,((X.size+c.name.size:Nat):Int)<=2^62:=λc C=>by
  have l:=wD.sz;have D:=(hc c C).sz;have e:X.size=nm.size+1:=by rw[K,mZm];rfl
  rw[e];omega
 have j:∀c:cK,A .cat X c.name=(ph nm c).name:=λc=>by rw[E.cat,K];rfl
 refine mQF jKk A Tryz.func72 ?_;cbv;refine(EC O).mono (λv l hR=>?_);obtain⟨l1,b',c',hv,qb⟩:=hR;subst hv;rcases qb.out with⟨b0,B,u⟩|⟨r,cap,B,u,o⟩
 .have x:=p l b' 0 0 l1 (by rw[u];exact cF.nil);have f0:A .aI .lss 0 (A .nat 0)=false:=by rw[bm A,E.nat];rfl
  cases B;clear p;cbv;refine aX.go (G:=Unit) (λ_=>[(11,.v (.int .i64 0))]) (λ_=>[(1,[.string nm,.slice s 0 t,.int .i64 key,.bool only,.slice Q S R])]) (λm z h'=>h'=l) 0 () (by constructor<;>cbv) rfl ?_
  intro m z h' e;subst e;cbv;rw[f0];cbv;exact x
 have DF:=O.len;cases B;have ab:cols.length=cols.length:=rfl;generalize hN:cols.length=N at *;obtain⟨I,Y⟩:∃I:Nat->Int->ad->Prop,∀m z h',I m z h'=∃i,aS z i/\i<=N/\m=N-i/\Kp [r] l h'/\fX 155 bI h' r c' ((cols.take i).map (ph nm)++cols.drop i):=⟨_,λ_ _ _=>rfl⟩;have J:I N 0 l:=by rw[Y];exact⟨0,⟨rfl⟩,mQC _,rfl,Kp.refl _ _,o⟩
 have ag:=O.bound;clear o qb;cbv;refine aX.go (G:=Int) (λz=>[(11,.v (.int .i64 z))]) (λ_=>[(1,[.string nm,.slice s N t,.int .i64 key,.bool only,.slice Q S R])]) (λm z h'=>I m z h') N 0 (by constructor<;>cbv) J ?_
 intro m z D hI;rw[Y]at hI;cbv;obtain⟨i,w,hi,hm,k2,o⟩:=hI;have f1:A .aI .lss z (A .nat N)=decide (i<N):=w.iJ (aS.nat N);rw[f1];by_cases P:i<N
 .obtain⟨c,Z⟩:=mQA cols i;have C:=mQz Z;have hg:=VJ (f:=ph nm) Z;have mX:=VI (f:=ph nm) Z;have q:((cols.take i).map (ph nm)++cols.drop i).length=N:=by simp;omega
  generalize (cols.take i).map (ph nm)++cols.drop i=L at *;have U:0<=z/\z<(N:Int):=w.ix P;have V:=w.eq;have cZ:=w.succ (A:=A);have kX:N-(i+1)<m:=by omega
  have F:=F c C;have j:=j c;have T:∀g,Kp [r] D g->fX 155 bI g r c' (L.set i (ph nm c))->I (N-(i+1)) (A .bB .add .i64 z 1) g:=λg H M=>by
   rw[Y];exact⟨i+1,cZ,P,rfl,k2.trans H,by rw[<-mX];exact M⟩
  have qs:=o.sl q.symm;clear Y J p cZ;rw[mQu P];cbv;refine⟨jE,?_⟩;cbv;rw[hX];refine⟨⟨rfl,U⟩,?_⟩;cbv;refine qs.cC hg V (o:=0) (m:=1) (by decide) (λcs d=>?_);obtain⟨Bt,a,W⟩:=c;have d:cs=[.string Bt,.int .i64 a,.bool W]:=d;subst d;have j:A .cat X Bt=(ph nm ⟨Bt,a,W⟩).name:=j;cbv;refine⟨F,?_⟩;cbv;rw[j];generalize hy:(ph nm ⟨Bt,a,W⟩).name=y at *;refine⟨⟨rfl,U⟩,?_⟩;cbv;refine o.LS (by decide) hg V rfl (off:=0) (new:=[.string y]) (show 0+1<=3 by omega) (x':=ph nm ⟨Bt,a,W⟩) (λcs d=>?_) (λg H t3 M=>?_)
  .have d:cs=[.string Bt,.int .i64 a,.bool W]:=d;subst d;show [Value.string y,.int .i64 a,.bool W]=[.string (ph nm ⟨Bt,a,W⟩).name,.int .i64 a,.bool W];rw[hy]
  have jd:=T g H M;clear T;cbv;refine⟨N-(i+1),A .bB .add .i64 z 1,kX,by constructor<;>cbv,jd⟩
 have lW:i=N:=by omega
 rw[lW,<-hN,mXa (mQD _),mQT (mQD _),mXb]at o;have pz:(cols.map (ph nm)).length=N:=by rw[mQN,hN]
 have x:=p D (some ⟨r,0,none⟩) N c' (l1.dJ (λb hb=>by rw[mQH.1 hb];exact u) k2) (o.buf u pz.symm);clear Y J p;rw[mQv P];cbv;exact x
end Go.S
