import Derived.Test.YtifjeceolckgaaaGreatYB
set_option linter.all false
set_option maxRecDepth 100000
set_option maxHeartbeats 8000000
namespace Go.S
open Go.Sx Go.Proofs
variable {a:Type}{de:Bool}{n:Int}{f g rows:List Row}{l:List a}{cols:List cK}{U e j qp rc rn:Nat}{o:Obj}{b rb:Option Addr}{y:Qy}{r:Row}{k:Value->ad->Prop}{x:aJ}{B h h' h0:ad}{w:cO}{i:dO}
def GY:Sh (Option Addr×Nat×Nat)where
 n:=1
 R _ cs t:=cs=[.slice t.1 t.2.1 t.2.2]
 len:=by rintro h cs x rfl;rfl
 one:=by rintro h cs x rfl;rfl
 tys:=[]
 mono:=λ_ q=>q
def yi(h:ad)(b:Option Addr):ad:=match b with
 |some a=>Sx.eF h a.block
 |none=>h
theorem Qj(h:ad)(b:Option Addr):Le (yi h b) h:=by
 cases b with
 |none=>exact Le.refl h
 |some a=>exact Sx.fY h a.block
theorem YY(q:yi h b j=some o):h j=some o/\b≠some ⟨j,0,none⟩:=by refine⟨Qj h b _ _ q,λe=>?_⟩;subst e;replace q:Sx.eF h j j=some o:=q;rw[Sx.dP]at q;cases q
theorem YX(q:h j=some o)(c:∀a,b=some a->a.block≠j):yi h b j=some o:=by
 cases b with
 |none=>exact q
 |some a=>show Sx.eF h a.block j=_;rw[Sx.cY (λe=>c a rfl e.symm)];exact q
theorem ru{tys:List Nat}(l:bR tys h h')(b:Option Addr):bR tys (yi h b) (yi h' b):=λj c e fr m d=>by
 cases b with
 |none=>exact l j c e fr m d
 |some a=>
  replace d:Sx.eF h a.block j=some (.cells c e fr):=d;by_cases N:j=a.block
  .subst N;rw[Sx.dP]at d;cases d
  rw[Sx.cY N]at d;show Sx.eF h' a.block j=_;rw[Sx.cY N];exact l j c e fr m d
abbrev Hd:=Option Addr×Nat×Nat
structure uf{α:Type}(e:Nat)(s:Sh α)(h:ad)(hf:List Hd)(gf:List (List α)):Prop where
 len:hf.length=gf.length
 ok:∀(j:Nat) t g,hf[j]? =some t->gf[j]? =some g->Sl e s h (.slice t.1 t.2.1 t.2.2) g
theorem uf.mono{b:Type}{s:Sh b}{a:List Hd}{f:List (List b)}(q:uf e s h a f)(l:bR (e::s.tys) h h'):uf e s h' a f:=⟨q.len,λj t g c d=>(q.ok j t g c d).mono l⟩
theorem uf.nil{s:Sh a}:uf e s h [] ([]:List (List a)):=⟨rfl,λj t g b=>by cases b⟩
theorem uf.snoc{d:Type}{s:Sh d}{f:List Hd}{k:List (List d)}(q:uf e s h f k){t:Hd}{g:List d}(n:Sl e s h (.slice t.1 t.2.1 t.2.2) g):uf e s h (f++[t]) (k++[g]):=by
 have l:=q.len;refine⟨by rw[mQy,mQy,l];rfl,λj o m a b=>?_⟩;rcases mXi j f.length with c|c
 .rw[mZw c]at a;rw[mZw (by omega)]at b;exact q.ok j o m a b
 rw[mXJ c]at a;rw[mXJ (by omega)]at b;rw[<-l]at b;generalize j-f.length=i at *
 match i with
 |0=>cases a;cases b;exact n
 |i+1=>cases a
theorem uf.sl{k:Type}{a:Nat}{s:Sh k}{v:Value}{f:List Hd}{d:List (List k)}(q:uf a s h f d)(o:Sl e GY h v f):Sl e (mW a s) h v d:=by
 obtain⟨b,cap,p,u,w,r⟩:=o.out;have l:=q.len;refine⟨b,cap,by rw[p,l],by omega,by omega,?_⟩;rcases r with rfl| ⟨oB,off,c,fr,m,n,g⟩
 .exact .inl (mXN.1 (by rw[<-l];rfl))
 refine .inr ⟨oB,off,c,fr,m,n,?_,λi x hx=>?_⟩
 .have:=g.1;rw[l]at this;exact this
 have y:=(mQB.1 hx).1;obtain⟨t,j⟩:=mQA f i;exact⟨_,g.2 i t j,q.ok i t x j hx⟩
theorem Uj{u:Type}{s:Sh u}{x:Option Addr}{len cap F:Nat}{g:List u}{y:u}{B:List Hd}{z:List (List u)}(q:cF e s h0 h (.slice b len cap) g)(Z:len=0->b=none)(fin:uf e s (yi h b) B z)(T:Sl e s h (.slice x 1 F) [y])(I:e∉s.tys){i bytes:Nat}(R:i=s.n)(U:bytes<=128)(M:len+1<=2^39)
  (V:Le h0 h) (J:∀m p c' h',m=len+1->Le h0 h'->(∀tys,e∉tys->bR tys h h')->cF e s h0 h' (.slice p m c') (g++[y])->uf e s (yi h' p) B z->k (.slice p m c') h'):
 iU h b len cap x 1 i bytes e k:=by
 have K:∀j c n fr,h j=some (.cells c n fr)->n≠e->b≠some ⟨j,0,none⟩:=λj c n fr d E t=>by
  rcases mXI len with f|f
  .rw[Z f]at t;cases t
  obtain⟨v,S,-,-,o⟩:=q.own f;obtain⟨c',W,-⟩:=o.out;rw[S]at t;cases t;rw[W]at d;cases d;exact E rfl
 refine q.Dr T I R U M V (λm p c' h' L l kp C fr=>?_);have D:∀tys,e∉tys->bR tys h h':=λtys O j c n w X d=>kp j _ d (K j c n w d (λH=>O (H ▸ X)));refine J m p c' h' L l D C (fin.mono (λj c n w _ d=>?_));obtain⟨N,P⟩:=YY d;refine YX (kp j _ N P) (λa A G=>?_);obtain⟨v,Q,-⟩:=C.own (by omega);rw[Q]at A;cases A;replace G:v=j:=G;subst G;rcases fr v Q with r|r|r
 .exact P r
 .rw[r]at N;cases N
 omega
theorem dZC:Nm b0:=⟨oh.2 (by decide),by decide⟩
def hJA(n:Nd):List Value:=[.int .i64 n.op,.int .i64 n.a,.int .i64 n.b,.int .i64 n.v.k,.int .i64 n.v.n,.string n.v.s,.string n.name]
theorem bKD{n:Nat}{a b c:Nd}(f:h n=some (.cells (List.toArray (hJA a++hJA b++hJA c)) e (0,0))):Sl e fx h (.slice (some ⟨n,0,none⟩) 3 3) [a,b,c]:=by
 refine Sl.fresh (xs:=[a,b,c]) f ⟨by show 0+3*7<=21;decide,λj y d=>?_⟩ (by simp) (by simp)
 match j,d with
 |0,d=>cases d;rfl
 |1,d=>cases d;rfl
 |2,d=>cases d;rfl
 |j+3,d=>cases d
theorem bKZ(fn:Int){v x:cO}(y:kM v)(hx:kM x)(a:∀h' w e u,Le h h'->(w,e)=iR fn v x->u=w.v->k (.tuple #[u,.int .i64 e]) h'):
 Ct 244 [.int .i64 fn,.agg #[.int .i64 v.k,.int .i64 v.n,.string v.s],.agg #[.int .i64 x.k,.int .i64 x.n,.string x.s]] h k:=by
 obtain⟨A,L⟩:=Ar.ex;have C:A .aI .eql v.k 0=decide (v.k=0):=aA A ..;have F:A .aI .eql fn 2=decide (fn=2):=aA A ..;have G:A .aI .eql fn 3=decide (fn=3):=aA A ..;have H:A .aI .eql fn 4=decide (fn=4):=aA A ..;have P:iR fn v x=if v.k=0 then(x,0)else if fn=2 then eP [lit v,lit x,bin 14 0 1] [] []else if(fn=3/\bC x v<0)\/(fn=4/\bC x v>0)then(x,0)else(v,0):=rfl
 generalize iR fn v x=D at *;refine mQF cZQ A Tryz.func244 ?_;cbv;rw[C];by_cases h0:v.k=0
 .rw[if_pos h0]at P;have f:=a h x 0 _ (Le.refl h) P.symm rfl;rw[mQu h0];clear a P;cbv;exact f
 rw[if_neg h0]at P;rw[mQv h0];cbv;rw[F];by_cases g:fn=2
 .rw[if_pos g]at P;subst P;rw[mQu g];cbv;intro B b E o;have i:Le h b:=by rw[o];exact Le.set E
  have K:Sl 317 fx b (.slice (some ⟨B,0,none⟩) 3 3) [lit v,lit x,bin 14 0 1]:=bKD ((congrFun o B).trans ae);clear o;cbv;refine Gx (ex:=[lit v,lit x,bin 14 0 1]) (cols:=[]) (r:=[]) (λn j=>?_) (λc J=>by cases J) (λv y=>by cases y) K Sl.nil Sl.nil (λh' w e u l b g=>?_)
  .rcases mQI.1 j with rfl|j
   .exact⟨dZC,y⟩
   rcases mQI.1 j with rfl|j
   .exact⟨dZC,hx⟩
   rw[mQH]at j;subst j;exact⟨dZC,kA⟩
  have f:=a h' w e u (i.trans l) b g;clear a;subst g;cbv;exact f
 rw[if_neg g]at P;rw[mQv g];cbv;rw[G];by_cases q:fn=3
 .have I:A .aI .eql 3 4=false:=by rw[aA A];rfl
  subst q;rw[mQu rfl];cbv;refine(pg x v h).mono (λr b hR=>?_);obtain⟨i,z,t,m⟩:=hR;subst t;rw[<-m]at P;have p:A .aI .lss z 0=decide (z<0):=bm A ..;clear m;cbv;rw[p];by_cases d:z<0
  .rw[if_pos (.inl ⟨rfl,d⟩)]at P;have f:=a b x 0 _ i P.symm rfl;rw[mQu d];clear a P;cbv;exact f
  rw[if_neg (by rintro(⟨-,h⟩|⟨h,-⟩);exact d h;exact absurd h (by decide))]at P;have f:=a b v 0 _ i P.symm rfl;rw[mQv d];clear a P;cbv;rw[I];cbv;exact f
 rw[mQv q];cbv;rw[H];by_cases s:fn=4
 .subst s;rw[mQu rfl];cbv;refine(pg x v h).mono (λr b hR=>?_);obtain⟨i,z,t,m⟩:=hR;subst t;rw[<-m]at P;have p:A .aI .gtr z 0=decide (z>0):=bO A ..;clear m;cbv;rw[p];by_cases d:z>0
  .rw[if_pos (.inr ⟨rfl,d⟩)]at P;have f:=a b x 0 _ i P.symm rfl;rw[mQu d];clear a P;cbv;exact f
  rw[if_neg (by rintro(⟨h,-⟩|⟨-,h⟩);exact absurd h (by decide);exact d h)]at P;have f:=a b v 0 _ i P.symm rfl;rw[mQv d];clear a P;cbv;exact f
 rw[if_neg (by rintro(⟨h,-⟩|⟨h,-⟩);exact q h;exact s h)]at P;have f:=a h v 0 _ (Le.refl h) P.symm rfl;rw[mQv s];clear a P;cbv;exact f
structure Ru(B h:ad)(vb:Nat)(w:cO):Prop where
 v:h vb=some (.cells #[.int .i64 w.k,.int .i64 w.n,.string w.s] 86 (0,0))
 le:Le B h
 no:B vb=none
 iv:kM w
theorem ZU(fn:Int)(e:List Nd)(cols:List cK)(r:Row)(s:List Row)(v:cO):lO fn e cols (r::s) v=match eP e cols r with
 | (x,f)=>if f≠0 then(v0,f)else if x.k=0 then lO fn e cols s v else match iR fn v x with
  | (w,f)=>if f≠0 then(v0,f)else lO fn e cols s w:=rfl
theorem Ta{fn:Int}{v x:cO}{e:Int}(b:kM v)(hx:kM x)(h:iR fn v x=(w,e)):kM w:=by
 unfold iR at h;split at h
 .cases h;exact hx
 split at h
 .exact zM (λn a=>by
   rcases mQI.1 a with rfl|a
   .exact b
   rcases mQI.1 a with rfl|a
   .exact hx
   rw[mQH]at a;subst a;exact kA) (λv b=>by cases b) h
 split at h
 .cases h;exact hx
 cases h;exact b
theorem fJS(hn:∀n∈i.e,Nm n.name/\kM n.v)(hc:∀c∈cols,Nm c.name)(q:Ru B h j w){qb ib:Nat}(gq:B qb=some (.cells #[.pointer (some ⟨qp,0,none⟩)] 176 (0,0))){T:Option Addr}{W:Nat}(X:B ib=some (.cells #[.int .i64 i.fn,.slice T W U] 267 (0,0)))(qe:Sl 317 fx B (.slice T W U) i.e)(qs:oC B qp x cols y)(hr:∀v∈r,kM v)(qr:Sl 86 bq h (.slice rb rn rc) r)
  (d:∀h' e,(e=0->∃w',Ru B h' j w'/\∀s,lO i.fn i.e cols (r::s) w=lO i.fn i.e cols s w')->(e≠0->Le B h'/\(∃u,Ru B h' j u)/\∀s,lO i.fn i.e cols (r::s) w=(v0,e))->k (.int .i64 e) h'):
 Ct 243 [.slice rb rn rc,.pointer (some ⟨ib,0,none⟩),.pointer (some ⟨qb,0,none⟩),.pointer (some ⟨j,0,none⟩)] h k:=by
 have l:=q.le;have Q:=l _ _ gq;have Z:=l _ _ X;have p:=qs.mono l;have N:=qe.mono (l.t _);have E:=λs=>ZU i.fn i.e cols r s w;generalize hV:eP i.e cols r=V at *;obtain⟨m,R⟩:=V;replace E:∀s,lO i.fn i.e cols (r::s) w=if R≠0 then(v0,R)else if m.k=0 then lO i.fn i.e cols s w else match iR i.fn w m with
  | (w,f)=>if f≠0 then(v0,f)else lO i.fn i.e cols s w:=E
 have Y:kM m:=zM (λn h=>(hn n h).2) hr hV;refine p.elim (λb5 n5 c5 b6 n6 c6 b7 n7 c7 b8 n8 c8 b9 n9 c9 gW jD gT cb cn cc g q1 q2 q3 q4 q5 q6 q7=>?_);clear q1 q2 q3 q4 q5 q6;refine mQx gQr Tryz.func243 λA hA=>?_;cbv;repeat (first|((try rw[ai A]);(try rw[ai A]);(first|refine mQw Z ?_|refine mQw Q ?_|refine mQw g ?_);cbv)|(refine⟨⟨_,rfl,rfl⟩,?_⟩;cbv))
 refine Gx hn hc hr N q7 qr (λI v e u C hv hu=>?_);rw[hV]at hv;cases hv;subst hu;have L:=C _ _ Z;have K:=C _ _ q.v;have fe:A .aI .eql R 0=decide (R=0):=aA A ..;have SS:A .aI .neq m.k 0=decide (m.k≠0):=aC A ..;have b:Ru B I j w:=⟨K,l.trans C,q.no,q.iv⟩;clear gq X Q Z qs p g q7;cbv;rw[fe];by_cases z:R=0
 .subst z;rw[mQu rfl];cbv;rw[SS];by_cases t:m.k=0
  .have o:=d I 0 (λ_=>⟨w,b,λs=>by rw[E,if_neg (λg=>g rfl),if_pos t]⟩) (λe=>absurd rfl e);rw[mQv (λg=>g t)];clear d E;cbv;exact o
  rw[mQu t];cbv;repeat (first|((try rw[ai A]);(try rw[ai A]);(first|refine mQw L ?_|refine mQw K ?_);cbv)|(refine⟨⟨_,rfl,rfl⟩,?_⟩;cbv))
  refine bKZ i.fn q.iv Y (λh2 D G u2 l2 S PH=>?_);have O:=l2 _ _ K;subst PH;have fZ:kM D:=Ta q.iv Y S.symm;have a:∀s,lO i.fn i.e cols (r::s) w=if G≠0 then(v0,G)else lO i.fn i.e cols s D:=λs=>by
   rw[E,if_neg (λg=>g rfl),if_neg t,<-S]
  have M:=(l.trans C).trans l2;clear E S;cbv;refine ja O (by simp) (λh3 H=>?_);have J:Ru B h3 j D:=⟨by rw[H];exact ae,λb' o' P=>by rw[H,aO (λe=>by rw[e,q.no]at P;cases P)];exact M _ _ P,q.no,fZ⟩;have o:=d h3 G (λF=>⟨D,J,λs=>by rw[a,if_neg (λg=>g F)]⟩) (λF=>⟨J.le,⟨_,J⟩,λs=>by rw[a,if_pos F]⟩);clear d H a;cbv;exact o
 have o:=d I R (λe=>absurd e z) (λ_=>⟨b.le,⟨_,b⟩,λs=>by rw[E,if_pos z]⟩);rw[mQv z];clear d E;cbv;exact o
structure bZf(cols:List cK)(group:Int)(i:dO)(g:List Row):Prop where
 gKM:i.fn=0->g≠[]/\0<=group
 wide:∀r∈g,group<r.length
 rr:∀r∈g,fS r
theorem eXv{r:Int}(h:i.fn=1):yA cols r i g=(⟨2,g.length,b0⟩,0):=by unfold yA;rw[if_pos h]
theorem eXw{o:Int}(h:i.fn=0):yA cols o i (r::g)=(fT r o,0):=by unfold yA;rw[if_neg (by omega),if_pos h]
theorem eXu{r:Int}(h:¬i.fn=1)(h0:¬i.fn=0):yA cols r i g=lO i.fn i.e cols g v0:=by unfold yA;rw[if_neg h,if_neg h0]
theorem UE(q:oC h qp x cols y)(hc:∀c∈cols,Nm c.name){t:dO}(hn:∀n∈t.e,Nm n.name/\kM n.v)(ok:bZf cols y.group t g){eb:Option Addr}{en ec:Nat}(qe:Sl 317 fx h (.slice eb en ec) t.e)(qr:Sl 84 aD h (.slice rb U rc) g)
  (z:∀h' v e u,Le h h'->(v,e)=yA cols y.group t g->u=v.v->k (.tuple #[u,.int .i64 e]) h'):
 Ct 185 [.pointer (some ⟨qp,0,none⟩),.agg #[.int .i64 t.fn,.slice eb en ec],.slice rb U rc] h k:=by
 obtain⟨A,hA⟩:=Ar.ex;have V:=qr.len;have f1:A .aI .eql t.fn 1=decide (t.fn=1):=aA A ..;have f0:A .aI .eql t.fn 0=decide (t.fn=0):=aA A ..;obtain⟨N,hN⟩:∃N,A .nat U=N:=⟨_,rfl⟩;have aH:N=(U:Int):=by rw[<-hN,hA.nat];rfl
 obtain⟨D,P⟩:∃D,D=yA cols y.group t g:=⟨_,rfl⟩;rw[<-P]at z;refine mQF gXg A Tryz.func185 ?_;cbv;intro qb m g1 e1;have l1:Le h m:=by rw[e1];exact Le.set g1
 have gq:m qb=some (.cells #[.pointer (some ⟨qp,0,none⟩)] 176 (0,0)):=by rw[e1];exact ae
 clear e1;cbv;intro ib K g2 e2;have l2:Le m K:=by rw[e2];exact Le.set g2
 have gi:K ib=some (.cells #[.int .i64 t.fn,.slice eb en ec] 267 (0,0)):=by rw[e2];exact ae
 clear e2;cbv;intro l p g3 e3;have l3:Le K p:=by rw[e3];exact Le.set g3
 have gv:p l=some (.cells #[.int .i64 0,.int .i64 0,.string ⟨#[]⟩] 86 (0,0)):=by rw[e3];exact ae
 have O:=l3 _ _ gi;have az:=(l2.trans l3) _ _ gq;have rL:=l1.trans (l2.trans l3);have lB:Le K (Sx.eF p l):=λb o a=>by
  rw[Sx.cY (λe=>by rw[e,g3]at a;cases a)];exact l3 _ _ a
 clear e3;obtain⟨B,hB⟩:∃B,B=Sx.eF p l:=⟨_,rfl⟩;rw[<-hB]at lB;have ag:Le B p:=by rw[hB];exact Sx.fY p l
 have X:B l=none:=by rw[hB];exact Sx.dP p l
 clear hB;have M:Le h B:=(l1.trans l2).trans lB;cbv;repeat (first|((try rw[ai A]);(try rw[ai A]);refine mQw O ?_;cbv)|(refine⟨⟨_,rfl,rfl⟩,?_⟩;cbv))
 rw[f1];by_cases m:t.fn=1
 .rw[eXv m,<-V]at P;rw[mQu m];cbv;rw[hN];refine ja gv (by simp) (λf d=>?_);have G:Le h f:=λb o a=>by rw[d,aO (λe=>by rw[e]at a;rw[M _ _ a]at X;cases X)];exact rL _ _ a
  have C:f l=some (.cells #[.int .i64 2,.int .i64 N,.string b0] 86 (0,0)):=by rw[d];exact ae
  have E:=z f ⟨2,N,b0⟩ 0 _ G (by rw[P,aH]) rfl;clear z d P;cbv;repeat (first|((try rw[ai A]);(try rw[ai A]);refine mQw C ?_;cbv)|(refine⟨⟨_,rfl,rfl⟩,?_⟩;cbv))
  exact E
 rw[mQv m];cbv;repeat (first|((try rw[ai A]);(try rw[ai A]);refine mQw O ?_;cbv)|(refine⟨⟨_,rfl,rfl⟩,?_⟩;cbv))
 rw[f0];by_cases h0:t.fn=0
 ·-- aZ
  obtain⟨CE,YV⟩:=ok.gKM h0;cases g with
  |nil=>exact absurd rfl CE
  |cons r rs=>
   rw[eXw h0]at P;have hw:=ok.wide r mXn;obtain⟨F,Q⟩:∃j:Nat,y.group=(j:Int):=⟨y.group.toNat,by omega⟩;obtain⟨H,NA⟩:=mQA r F;have aK:=lD NA Q;have An:F<r.length:=by omega
   have R:aS y.group F:=⟨Q⟩;rw[aK]at P;have Lp:rb.isSome=true/\(0:Int)<=0/\(0:Int)<(U:Int):=⟨qr.aT (by rw[V,mQM];omega),by omega,by rw[V,mQM];omega⟩;refine q.elim (λb5 n5 c5 b6 n6 c6 b7 n7 c7 b8 n8 c8 b9 n9 c9 gW jD gT cb cn cc S q1 q2 q3 q4 q5 q6 q7=>?_);have aw:=rL _ _ S;clear q1 q2 q3 q4 q5 q6 q7 S;rw[mQu h0];cbv;refine⟨Lp,?_⟩;cbv;have al:(r::rs)[0]? =some r:=rfl;refine bZ (qr.mono (rL.t _)) al rfl (λab an ac T=>?_);replace T:Sl 86 bq p (.slice ab an ac) r:=T;have RM:=T.len;have aj:ab.isSome=true/\0<=y.group/\y.group<(an:Int):=⟨T.aT,R.ix (by omega)⟩;cbv;repeat (first|((try rw[ai A]);(try rw[ai A]);(first|refine mQw az ?_|refine mQw aw ?_);cbv)|(refine⟨⟨_,rfl,rfl⟩,?_⟩;cbv))
   refine⟨aj,?_⟩;cbv;refine T.load NA R.eq (λcs ay=>?_);replace ay:cs=[.int .i64 H.k,.int .i64 H.n,.string H.s]:=ay;subst ay;cbv;refine ja gv (by simp) (λf d=>?_);have G:Le h f:=λb o a=>by rw[d,aO (λe=>by rw[e]at a;rw[M _ _ a]at X;cases X)];exact rL _ _ a
   have C:f l=some (.cells #[.int .i64 H.k,.int .i64 H.n,.string H.s] 86 (0,0)):=by rw[d];exact ae
   have E:=z f H 0 _ G P.symm rfl;clear z d P;cbv;repeat (first|((try rw[ai A]);(try rw[ai A]);refine mQw C ?_;cbv)|(refine⟨⟨_,rfl,rfl⟩,?_⟩;cbv))
   exact E
 rw[eXu m h0]at P;obtain⟨J,Y⟩:∃J:Nat->ad->Prop,∀i h',J i h'=∃w,Ru B h' l w/\lO t.fn t.e cols (g.drop i) w=D:=⟨_,λ_ _=>rfl⟩;have MX:J 0 p:=by rw[Y];exact⟨v0,⟨gv,ag,X,kA⟩,P.symm⟩
 have au:=qr.mono (M.t _);have aP:=qe.mono (M.t _);have ar:=q.mono M;have aV:=lB _ _ (l2 _ _ gq);have aW:=lB _ _ gi;rw[mQv h0];cbv;refine mXU V J MX (λi h' I=>?_) (λi r h' ab an ac hi JA I hv=>?_) (λh' I=>?_)
 .rw[Y]at I;obtain⟨w,L,-⟩:=I;exact au.mono (L.le.t _)
 .rw[Y]at I;obtain⟨w,L,s⟩:=I;have Bc:g.drop i=r::g.drop (i+1):=by obtain⟨m,K⟩:=mQB.1 JA;rw[mQJ m,K]
  rw[Bc]at s;refine fJS hn hc L aV aW aP ar (ok.rr r (mQz JA)) hv (λh5 e s0 s1=>⟨e,rfl,λW=>?_,λW=>?_⟩)
  .obtain⟨w',ak,RA⟩:=s0 W;rw[Y];exact⟨w',ak,by rw[<-s,RA]⟩
  obtain⟨l5,⟨u,qu⟩,RA⟩:=s1 W;rw[RA]at s;have fe:A .aI .neq e 0=true:=by rw[aC A];exact mQu W
  have Z:=qu.v;have aY:=qu.no;clear Y MX;cbv;rw[fe];cbv;refine ja Z (by simp) (λf d=>?_);have G:Le h f:=λb o a=>by rw[d,aO (λe=>by rw[e]at a;rw[M _ _ a]at X;cases X)];exact l5 _ _ (M _ _ a)
  have C:f l=some (.cells #[.int .i64 0,.int .i64 0,.string ⟨#[]⟩] 86 (0,0)):=by rw[d];exact ae
  have E:=z f v0 e _ G s rfl;clear z d;cbv;repeat (first|((try rw[ai A]);(try rw[ai A]);refine mQw C ?_;cbv)|(refine⟨⟨_,rfl,rfl⟩,?_⟩;cbv))
  exact E
 rw[Y]at I;obtain⟨w,L,s⟩:=I;rw[mQT (by omega)]at s;replace s:(w,0)=D:=s;have fe:A .aI .neq 0 0=false:=by rw[aC A];rfl
 have Z:=L.v;have l5:=L.le;clear Y MX;cbv;rw[fe];cbv;repeat (first|((try rw[ai A]);(try rw[ai A]);refine mQw Z ?_;cbv)|(refine⟨⟨_,rfl,rfl⟩,?_⟩;cbv))
 refine ja Z (by simp) (λf d=>?_);have G:Le h f:=λb o a=>by rw[d,aO (λe=>by rw[e]at a;rw[M _ _ a]at X;cases X)];exact l5 _ _ (M _ _ a)
 have C:f l=some (.cells #[.int .i64 w.k,.int .i64 w.n,.string w.s] 86 (0,0)):=by rw[d];exact ae
 have E:=z f w 0 _ G s rfl;clear z d;cbv;repeat (first|((try rw[ai A]);(try rw[ai A]);refine mQw C ?_;cbv)|(refine⟨⟨_,rfl,rfl⟩,?_⟩;cbv))
 exact E
theorem bQm{o:Nat}{l:Row}(w:Nx B h o l)(hl:l.length<=2^30){M L G:Nat}(q:oC B M x cols y)(hc:∀c∈cols,Nm c.name)(hn:∀n∈i.e,Nm n.name/\kM n.v)(ok:bZf cols y.group i g){N:Option Addr}{P O:Nat}(gq:B L=some (.cells #[.pointer (some ⟨M,0,none⟩)] 176 (0,0)))(Z:B G=some (.cells #[.slice N P O] 34 (0,0)))(qr:Sl 84 aD B (.slice N P O) g){C:Option Addr}{E D:Nat}(qe:Sl 317 fx h (.slice C E D) i.e)
  (I:∀h' v e,Nx B h' o (l++[v])->(v,e)=yA cols y.group i g->k (.int .i64 e) h'):
 Ct 184 [.agg #[.int .i64 i.fn,.slice C E D],.pointer (some ⟨L,0,none⟩),.pointer (some ⟨G,0,none⟩),.pointer (some ⟨o,0,none⟩)] h k:=by
 have d:=w.le;have F:=w.no;obtain⟨b,n,c,go,a⟩:=w.out;have JD:=a.sl.len;have Q:=d _ _ gq;have m:=d _ _ Z;refine mQx JL Tryz.func184 λA hA=>?_;cbv;repeat (first|((try rw[ai A]);(try rw[ai A]);(first|refine mQw Q ?_|refine mQw m ?_);cbv)|(refine⟨⟨_,rfl,rfl⟩,?_⟩;cbv))
 refine UE (q.mono d) hc hn ok qe (qr.mono (d.t _)) (λh1 v e u r hv hu=>?_);subst hu;have K:=r _ _ go;cbv;repeat (first|((try rw[ai A]);(try rw[ai A]);refine mQw K ?_;cbv)|(refine⟨⟨_,rfl,rfl⟩,?_⟩;cbv))
 intro J H Y j;have t:Le h1 H:=by rw[j];exact Le.set Y
 have S:Sl 86 bq H (.slice (some ⟨J,0,none⟩) 1 1) [v]:=bA (s:=bq) ((congrFun j J).trans ae) rfl;have p:=t _ _ K;clear j;cbv;refine(a.mono ((r.trans t).t _)).append S (by decide) rfl (by decide) (by omega) (d.trans (r.trans t)) (λm3 V W h3 X l3 R k3 ry=>?_);have U:h3 o=some (.cells #[.slice b n c] 84 (0,0)):=R [84] (by decide) _ _ _ _ (mQH.2 rfl) p;clear R k3 S;cbv;refine ja U (by simp) (λh4 f=>?_);have T:=I h4 v e ⟨⟨V,m3,W,by rw[f];exact ae,ry.mono (by rw[f];exact bR.set U (by decide))⟩,λb' o' z=>by rw[f,aO (λe=>by rw[e,F]at z;cases z)];exact l3 _ _ z,F⟩ hv;clear I f;cbv;exact T
theorem Nb(k:Int)(r:Row)(s:List Row)(f:List (List Row)){c:List Row}{p:Row}(h:g=c++[p]):cG k (r::s) (f++[g])=if re (fT p k) (fT r k)=true then cG k s (f++[g++[r]])else cG k s (f++[g]++[[r]]):=by
 have e:cG k (r::s) (f++[g])=match (f++[g]).getLast? with
  |none=>cG k s [[r]]
  |some a=>match a.getLast? with
   |none=>cG k s (f++[g]++[[r]])
   |some p=>if re (fT p k) (fT r k)=true then cG k s ((f++[g]).dropLast++[a++[r]])else cG k s (f++[g]++[[r]]):=rfl
 rw[e,mJW,nQt];show(match g.getLast? with
  |none=>cG k s (f++[g]++[[r]])
  |some p=>if re (fT p k) (fT r k)=true then cG k s (f++[g++[r]])else cG k s (f++[g]++[[r]]))=_
 have b:g.getLast?=some p:=by rw[h,mJW]
 rw[b]
structure hQm(h2 h:ad)(k:Int)(S:List Row)(i:Nat)(hd:List Hd)(gs:List (List Row)):Prop where
 z:i=0->hd=[]/\gs=[]
 s:0<i->∃hf gf t g g' p,hd=hf++[t]/\gs=gf++[g]/\g=g'++[p]/\S[i-1]? =some p/\uf 84 aD (yi h t.1) hf gf/\cF 84 aD h2 h (.slice t.1 t.2.1 t.2.2) g
theorem hQm.fin{a:ad}{k:Int}{S:List Row}{i:Nat}{hd:List Hd}{s:List (List Row)}(q:hQm a h k S i hd s):uf 84 aD h hd s:=by
 rcases mXI i with h0|h0
 .obtain⟨rfl,rfl⟩:=q.z h0;exact uf.nil
 obtain⟨e,d,t,g,c,p,rfl,rfl,-,-,f,b⟩:=q.s h0;exact(f.mono ((Qj h t.1).t _)).snoc b.sl
theorem bQi(q:oC h qp x cols y)(hg:0<=y.group){fI:List Row}(mF:fI.length<=2^20)(hw:∀r∈fI,y.group<r.length){R:Nat}(l0:Le h0 h)(qr:cF 84 aD h0 h (.slice rb R rc) fI)
  (hk:∀h' b n c,Le h0 h'->(∀tys,84∉tys->bR tys h h')->(∀b o,h b=some o->(∀c fr,o≠.cells c 84 fr)->h' b=some o)->Sl 34 (mW 84 aD) h' (.slice b n c) (gV y.group x.desc fI)->k (.slice b n c) h'):
 Ct 183 [.pointer (some ⟨qp,0,none⟩),.slice rb R rc] h k:=by
 obtain⟨A,hA⟩:=Ar.ex;obtain⟨S,hS⟩:∃S,S=gL (wP y.group x.desc) fI:=⟨_,rfl⟩;have dc:S.length=fI.length:=by rw[hS];exact(gh _ _).length_eq
 have aH:∀r∈S,y.group<r.length:=λr hr=>by rw[hS]at hr;exact hw r (oM hr)
 obtain⟨D,cl⟩:∃D,cG y.group S []=D:=⟨_,rfl⟩;have hP:gV y.group x.desc fI=D:=by unfold gV;rw[if_neg (by omega),<-hS,cl]
 rw[hP]at hk;have fo:A .aI .lss y.group 0=false:=by rw[bm A];exact mQv (by omega)
 have cx:aG 242=true:=by kernel_rfl
 obtain⟨gk,cj⟩:∃j:Nat,y.group=(j:Int):=⟨y.group.toNat,by omega⟩;have aH:∀r∈S,gk<r.length:=λr hr=>by have:=aH r hr;omega
 have al:aS y.group gk:=⟨cj⟩;clear cj;refine q.elim (λb5 n5 c5 b6 n6 c6 b7 n7 c7 b8 n8 c8 d n9 w gW jD gT cb cn cc g q1 q2 q3 q4 q5 q6 q7=>?_);clear q1 q2 q3 q4 q5 q6 q7 hP;refine mQF gXh A Tryz.func183 ?_;cbv;intro qb h1 f1 e1;have l1:Le h h1:=by rw[e1];exact Le.set f1
 have gb:h1 qb=some (.cells #[.pointer (some ⟨qp,0,none⟩)] 176 (0,0)):=by rw[e1];exact ae
 have g1:=l1 _ _ g;clear e1;cbv;repeat (first|((try rw[ai A]);(try rw[ai A]);(first|refine mQw gb ?_|refine mQw g1 ?_);cbv)|(refine⟨⟨_,rfl,rfl⟩,?_⟩;cbv))
 intro ob bf f2 e2;have bn:Le h1 bf:=by rw[e2];exact Le.set f2
 have cq:bf ob=some (.cells #[.int .i64 0] 3 (0,0)):=by rw[e2];exact ae
 clear e2;cbv;refine ja cq (by simp) (λhq e2=>?_);have bc:Le h1 hq:=λb o L=>by rw[e2,aO (λe=>by rw[e,f2]at L;cases L)];exact bn _ _ L
 have go:hq ob=some (.cells #[.int .i64 y.group] 3 (0,0)):=by rw[e2];exact ae
 have TR:=l1.trans bc;have ba:=bc _ _ gb;have gq:=TR _ _ g;have bz:=q.mono TR;have ca:=l0.trans TR;have ch:=qr.mono (TR.t _);clear e2;cbv;refine mQw go ?_;cbv;rw[fo];cbv;refine aXO (Ce y.group x.desc) cx ca ch hw (λnb c fr gY=>ZC go ba bz (λe=>by rw[e,gY]at go;cases go) (λe=>by rw[e,gY]at ba;cases ba) (λe=>by rw[e,gY]at gq;cases gq) hg) (λu d1 d2 d3 d4=>?_);rw[<-hS]at d4;have cv:=d3 _ _ go (λc fr e=>by cases e);have TS:=d4.sl;have KH:R=S.length:=TS.len;have sJ:∀h' b n c,Le u h'->Sl 34 (mW 84 aD) h' (.slice b n c) D->k (.slice b n c) h':=λh' b n c l qs=>hk h' b n c (d1.trans l) (λtys ht=>(TR.t tys).trans ((d2 tys ht).trans (l.t tys))) (λb o L ho=>l _ _ (d3 _ _ (TR _ _ L) ho)) qs;clear hk d1 d2 d3 d4 go ba gq bz ca ch gb g1 g q qr l0 TR bc bn l1 hS;obtain⟨I,aY⟩:∃I:Nat->(Int×Option Addr×Nat×Nat)->ad->Prop,∀m g h',I m g h'=∃i hd gs,aS g.1 i/\i<=R/\m=R-i/\Le u h'/\cF 34 GY u h' (.slice g.2.1 g.2.2.1 g.2.2.2) hd/\(g.2.2.1=0->g.2.1=none)/\hd.length<=i/\(∀g∈gs,g.length<=i)/\hQm u h' y.group S i hd gs/\cG y.group (S.drop i) gs=D:=⟨_,λ_ _ _=>rfl⟩;have hJ:I R (0,none,0,0) u:=by rw[aY];exact⟨0,[],[],⟨rfl⟩,mQC _,rfl,Le.refl _,cF.nil,λ_=>rfl,mQC _,(λg hg=>by cases hg),⟨λ_=>⟨rfl,rfl⟩,λe=>absurd e (by omega)⟩,cl⟩
 cbv;refine aX.go (G:=Int×Option Addr×Nat×Nat) (λg=>[(22,.v (.int .i64 g.1)),(6,.v (.slice g.2.1 g.2.2.1 g.2.2.2))]) (λ_=>[]) (λm g h'=>I m g h') R (0,none,0,0) (by constructor<;>cbv) hJ ?_
 intro m gg W hI;rw[aY]at hI;cbv;obtain⟨i,hd,gs,hz,hi,hm,rK,V,br,T,RI,st,B⟩:=hI;obtain⟨z,bo,no,co⟩:=gg;replace hz:aS z i:=hz;replace V:cF 34 GY u W (.slice bo no co) hd:=V;replace br:no=0->bo=none:=br;have f2:A .aI .lss z (A .nat R)=decide (i<R):=hz.iJ (aS.nat R);have gK:no=hd.length:=V.sl.len;rw[f2];by_cases aP:i<R
 .obtain⟨r,Jx⟩:=mQA S i;have bd:=TS.mono (rK.t _);have cN:=hz.eq;have cJ:rb.isSome=true/\0<=z/\z<(R:Int):=⟨TS.aT,hz.ix aP⟩;have cZ:=hz.succ (A:=A);obtain⟨z2,dL⟩:∃z2,A .bB .add .i64 z 1=z2:=⟨_,rfl⟩;rw[dL]at cZ;obtain⟨mm,sf⟩:∃mm,mm=R-(i+1):=⟨_,rfl⟩;have sh:mm<m:=by omega
  have Bc:S.drop i=r::S.drop (i+1):=by obtain⟨h1,u⟩:=mQB.1 Jx;rw[mQJ h1,u]
  rw[Bc]at B;have jd:∀h5 b5 m5 c5 az au,Le u h5->cF 34 GY u h5 (.slice b5 m5 c5) az->az.length<=i+1->(∀g∈au,g.length<=i+1)->hQm u h5 y.group S (i+1) az au->cG y.group (S.drop (i+1)) au=D->I mm (z2,b5,m5,c5) h5:=λh5 b5 m5 c5 az au l5 o5 cr qX s5 cA=>by
   rw[aY];refine⟨i+1,az,au,cZ,aP,sf,l5,o5,λe=>?_,cr,qX,s5,cA⟩;exfalso;obtain⟨f,_,t,_,_,_,e1,-⟩:=s5.s (by omega);have:=o5.sl.len;rw[e1,mQy,mQG]at this;replace e:m5=0:=e;omega
  have aZ:=rK _ _ cv;clear aY hJ sJ;rw[mQu aP];cbv;refine⟨cJ,?_⟩;cbv;refine bZ bd Jx cN (λxb xn xc uG=>?_);have cD:=uG.len;have cE:=aH r (mQz Jx);cbv;have cz:A .aI .eql z 0=decide (i=0):=by rw[aA A,decide_eq_decide];have:=hz.eq;omega
  rw[cz];by_cases Jf:i=0
  .obtain⟨rfl,rfl⟩:=st.z Jf;replace B:cG y.group (S.drop (i+1)) [[r]]=D:=B;obtain⟨f,Q⟩:∃f:List Hd,f=[]:=⟨_,rfl⟩;obtain⟨H,YU⟩:∃H:List (List Row),H=[]:=⟨_,rfl⟩;have aj:uf 84 aD W f H:=by rw[Q,YU];exact uf.nil
   have X:([]:List Row).length<=i:=mQC _;have RI:∀x∈H,x.length<=i:=λx hx=>by rw[YU]at hx;cases hx
   rw[<-Q]at V gK T;replace B:cG y.group (S.drop (i+1)) (H++[[]++[r]])=D:=by rw[YU];exact B
   clear st Q YU aZ;rw[mQu Jf];cbv;intro Ad h5 f5 e5;have l5:Le W h5:=by rw[e5];exact Le.set f5
   have v5:Sl 34 GY h5 (.slice (some ⟨Ad,0,none⟩) 1 1) [(none,0,0)]:=bA (s:=GY) ((congrFun e5 Ad).trans ae) rfl;clear e5;cbv;refine(V.mono (l5.t _)).append v5 (by decide) rfl (by decide) (by omega) (rK.trans l5) (λa b6 c6 h6 cy l6 t6 k6 o6=>?_);have aK:bR [84,86] W h6:=(l5.t _).trans (t6 _ (by decide));have bb:=aj.mono aK;have T:a=f.length+1:=by omega
   clear v5 t6 k6 V aj;obtain⟨U,nP⟩:∃U,A .nat a=U:=⟨_,rfl⟩;have ak:aS U a:=by rw[<-nP];exact aS.nat a
   obtain⟨P,Ba⟩:∃P,A .bB .sub .i64 U 1=P:=⟨_,rfl⟩;have Z:aS P (a-1):=by rw[<-Ba];exact ff (A:=A) ak (⟨rfl⟩:aS 1 1) (by omega) (by omega)
   have uO:=Z.eq;have E:b6.isSome=true/\0<=P/\P<(a:Int):=⟨o6.sl.aT,Z.ix (by omega)⟩;have RH:(f++[(none,0,0)])[a-1]? =some (none,0,0):=by rw[T,mXy,mXJ (mQD _),mXK];rfl
   have K:∀cs,GY.R h6 cs (none,0,0)->cs=[.slice none 0 0]:=λcs h=>h;cbv;rw[nP,Ba];refine⟨E,?_⟩;cbv;refine o6.sl.load RH uO (λcs v=>?_);replace v:cs=[.slice none 0 0]:=K cs v;subst v;clear K;cbv;intro C h8 f8 e8;have M:Le h6 h8:=by rw[e8];exact Le.set f8
   have v8:Sl 84 aD h8 (.slice (some ⟨C,0,none⟩) 1 1) [r]:=bA (s:=aD) ((congrFun e8 C).trans ae) ⟨_,rfl,uG.mono (((aK.sub)).trans (M.t _))⟩;clear e8;cbv;refine Uj (h0:=u) (((cF.nil:cF 84 aD u h6 (.slice none 0 0) ([]:List Row))).mono (M.t _)) (λ_=>rfl) (((show uf 84 aD (yi h6 none) f H from bb)).mono (ru (M.t _) none)) v8 (by decide) rfl (by decide) (by omega) (l6.trans M) (λN d w h9 bt l9 t9 F QF=>?_);have o9:=(o6.mono (M.t _)).mono (t9 [34] (by decide));obtain⟨J,yV,Qo,bg,OU⟩:=o9.own (by omega);have Y:b6=some ⟨J,0,none⟩:=yV;subst Y;cbv;refine⟨E,?_⟩;cbv;refine OU.setAt (by decide) (i:=a-1) (by omega) uO rfl (x:=(d,N,w)) rfl (λfL yS O xJ=>?_);have fU:Le u fL:=λb o L=>yS _ _ (l9 _ _ L) (λhm=>by rw[mQH.1 hm,Qo]at L;cases L);have ag:(f++[(none,0,0)]).set (a-1) (d,N,w)=f++[(d,N,w)]:=by rw[T,mXy];simp
   rw[ag]at xJ;have QY:=xJ.buf (n:=a) Qo (by rw[T,mQy,mQG]);have af:=jd fL (some ⟨J,0,none⟩) a c6 (f++[(d,N,w)]) (H++[([]:List Row)++[r]]) fU QY (by rw[mQy,mQG];omega) (λx hx=>by
    rcases mQE.1 hx with hx|hx
    .have:=RI x hx;omega
    rw[mQH]at hx;rw[hx,mQy,mQG];have:=X;omega) ⟨λe=>absurd e (by omega),λ_=>⟨f,H,(d,N,w),([]:List Row)++[r],([]:List Row),r,rfl,rfl,rfl,by rw[mXy];exact Jx,QF.mono (ru (O _ (by decide)) d),F.mono (O _ (by decide))⟩⟩ B
   clear jd OU xJ QY F QF;cbv;rw[dL];refine⟨mm,(_,_),sh,by constructor<;>cbv,af⟩
  obtain⟨Wo,aw,t,g,g',p,bF,ar,eg,cm,aW,XL⟩:=st.s (by omega);obtain⟨tb,tn,tc⟩:=t;replace aW:uf 84 aD (yi W tb) Wo aw:=aW;replace XL:cF 84 aD u W (.slice tb tn tc) g:=XL;have bw:=st.fin;have cw:=RI;rw[ar,Nb y.group r (S.drop (i+1)) aw eg]at B;have cU:=aH p (mQz cm);obtain⟨xp,ck⟩:=mQA p gk;obtain⟨xr,bk⟩:=mQA r gk;rw[lD ck al.eq,lD bk al.eq]at B;have bx:=al.eq;have HR:tn=g.length:=XL.sl.len;have An:0<g.length:=by rw[eg,mQy,mQG];omega
  have X:g.length<=i:=RI g (by rw[ar];simp);have RI:∀x∈aw,x.length<=i:=λx hx=>RI x (by rw[ar];exact mZf _ hx);obtain⟨z1,jV⟩:∃z1,A .bB .sub .i64 z 1=z1:=⟨_,rfl⟩;have bj:aS z1 (i-1):=by rw[<-jV];exact ff (A:=A) hz (⟨rfl⟩:aS 1 1) (by omega) (by omega)
  have MF:=bj.eq;have zU:rb.isSome=true/\0<=z1/\z1<(R:Int):=⟨bd.aT,bj.ix (by omega)⟩;have ct:A .not (A .and (A .aI .eql xp.k xr.k) (A .and (A .aI .eql xp.n xr.n) (A .and (A .iQ .eql xp.s xr.s) true)))= !re xp xr:=by rw[pA A xp xr,hA.not]
  clear st aH;rw[mQv Jf];cbv;rw[jV];refine⟨zU,?_⟩;cbv;refine bZ bd cm MF (λab an ac qp=>?_);have RM:=qp.len;have RR:ab.isSome=true/\0<=y.group/\y.group<(an:Int):=⟨qp.aT,al.ix (by omega)⟩;have cp:xb.isSome=true/\0<=y.group/\y.group<(xn:Int):=⟨uG.aT,al.ix (by omega)⟩;cbv;refine mQw aZ ?_;cbv;refine⟨RR,?_⟩;cbv;refine qp.load ck bx (λcs v=>?_);replace v:cs=[.int .i64 xp.k,.int .i64 xp.n,.string xp.s]:=v;subst v;cbv;refine mQw aZ ?_;cbv;refine⟨cp,?_⟩;cbv;refine uG.load bk bx (λcs v=>?_);replace v:cs=[.int .i64 xr.k,.int .i64 xr.n,.string xr.s]:=v;subst v;cbv;rw[ct];by_cases aV:re xp xr=true
  .rw[if_pos aV]at B;rw[aV];subst bF;obtain⟨f,Q⟩:∃f,f=Wo:=⟨_,rfl⟩;subst Q;have T:no=f.length+1:=by rw[gK,mQy,mQG]
   have db:f.length+1<=i:=by omega
   obtain⟨U,nP⟩:∃U,A .nat no=U:=⟨_,rfl⟩;have ak:aS U no:=by rw[<-nP];exact aS.nat no
   obtain⟨P,Ba⟩:∃P,A .bB .sub .i64 U 1=P:=⟨_,rfl⟩;have Z:aS P (no-1):=by rw[<-Ba];exact ff (A:=A) ak (⟨rfl⟩:aS 1 1) (by omega) (by omega)
   have uO:=Z.eq;have E:bo.isSome=true/\0<=P/\P<(no:Int):=⟨V.sl.aT,Z.ix (by omega)⟩;have RH:(f++[(tb,tn,tc)])[no-1]? =some (tb,tn,tc):=by rw[T,mXy,mXJ (mQD _),mXK];rfl
   have K:∀cs,GY.R W cs (tb,tn,tc)->cs=[.slice tb tn tc]:=λcs h=>h;cbv;rw[nP,Ba];refine⟨E,?_⟩;cbv;refine V.sl.load RH uO (λcs v=>?_);replace v:cs=[.slice tb tn tc]:=K cs v;subst v;clear K;cbv;intro C h8 f8 e8;have M:Le W h8:=by rw[e8];exact Le.set f8
   have v8:Sl 84 aD h8 (.slice (some ⟨C,0,none⟩) 1 1) [r]:=bA (s:=aD) ((congrFun e8 C).trans ae) ⟨_,rfl,uG.mono (((bR.refl _ _)).trans (M.t _))⟩;clear e8;cbv;refine Uj (h0:=u) ((XL).mono (M.t _)) (λe=>absurd e (by omega)) ((aW).mono (ru (M.t _) tb)) v8 (by decide) rfl (by decide) (by omega) (rK.trans M) (λN d w h9 bt l9 t9 F QF=>?_);have o9:=(V.mono (M.t _)).mono (t9 [34] (by decide));obtain⟨J,yV,Qo,bg,OU⟩:=o9.own (by omega);have Y:bo=some ⟨J,0,none⟩:=yV;subst Y;cbv;refine⟨E,?_⟩;cbv;refine OU.setAt (by decide) (i:=no-1) (by omega) uO rfl (x:=(d,N,w)) rfl (λfL yS O xJ=>?_);have fU:Le u fL:=λb o L=>yS _ _ (l9 _ _ L) (λhm=>by rw[mQH.1 hm,Qo]at L;cases L);have ag:(f++[(tb,tn,tc)]).set (no-1) (d,N,w)=f++[(d,N,w)]:=by rw[T,mXy];simp
   rw[ag]at xJ;have QY:=xJ.buf (n:=no) Qo (by rw[T,mQy,mQG]);have af:=jd fL (some ⟨J,0,none⟩) no co (f++[(d,N,w)]) (aw++[g++[r]]) fU QY (by rw[mQy,mQG];omega) (λx hx=>by
    rcases mQE.1 hx with hx|hx
    .have:=RI x hx;omega
    rw[mQH]at hx;rw[hx,mQy,mQG];have:=X;omega) ⟨λe=>absurd e (by omega),λ_=>⟨f,aw,(d,N,w),g++[r],g,r,rfl,rfl,rfl,by rw[mXy];exact Jx,QF.mono (ru (O _ (by decide)) d),F.mono (O _ (by decide))⟩⟩ B
   clear jd OU xJ QY F QF;cbv;rw[dL];refine⟨mm,(_,_),sh,by constructor<;>cbv,af⟩
  rw[if_neg aV]at B;have cu:re xp xr=false:=by simpa using aV
  rw[cu];obtain⟨f,Q⟩:∃f,f=hd:=⟨_,rfl⟩;obtain⟨H,YU⟩:∃H,H=gs:=⟨_,rfl⟩;have aj:uf 84 aD W f H:=by rw[Q,YU];exact bw
  have RI:∀x∈H,x.length<=i:=λx hx=>by rw[YU]at hx;exact cw x hx
  have X:([]:List Row).length<=i:=mQC _;rw[<-Q]at V gK T;replace B:cG y.group (S.drop (i+1)) (H++[[]++[r]])=D:=by rw[YU,ar];exact B
  clear Q YU bF ar aW XL bw aZ;cbv;intro Ad h5 f5 e5;have l5:Le W h5:=by rw[e5];exact Le.set f5
  have v5:Sl 34 GY h5 (.slice (some ⟨Ad,0,none⟩) 1 1) [(none,0,0)]:=bA (s:=GY) ((congrFun e5 Ad).trans ae) rfl;clear e5;cbv;refine(V.mono (l5.t _)).append v5 (by decide) rfl (by decide) (by omega) (rK.trans l5) (λa b6 c6 h6 cy l6 t6 k6 o6=>?_);have aK:bR [84,86] W h6:=(l5.t _).trans (t6 _ (by decide));have bb:=aj.mono aK;have T:a=f.length+1:=by omega
  clear v5 t6 k6 V aj;obtain⟨U,nP⟩:∃U,A .nat a=U:=⟨_,rfl⟩;have ak:aS U a:=by rw[<-nP];exact aS.nat a
  obtain⟨P,Ba⟩:∃P,A .bB .sub .i64 U 1=P:=⟨_,rfl⟩;have Z:aS P (a-1):=by rw[<-Ba];exact ff (A:=A) ak (⟨rfl⟩:aS 1 1) (by omega) (by omega)
  have uO:=Z.eq;have E:b6.isSome=true/\0<=P/\P<(a:Int):=⟨o6.sl.aT,Z.ix (by omega)⟩;have RH:(f++[(none,0,0)])[a-1]? =some (none,0,0):=by rw[T,mXy,mXJ (mQD _),mXK];rfl
  have K:∀cs,GY.R h6 cs (none,0,0)->cs=[.slice none 0 0]:=λcs h=>h;cbv;rw[nP,Ba];refine⟨E,?_⟩;cbv;refine o6.sl.load RH uO (λcs v=>?_);replace v:cs=[.slice none 0 0]:=K cs v;subst v;clear K;cbv;intro C h8 f8 e8;have M:Le h6 h8:=by rw[e8];exact Le.set f8
  have v8:Sl 84 aD h8 (.slice (some ⟨C,0,none⟩) 1 1) [r]:=bA (s:=aD) ((congrFun e8 C).trans ae) ⟨_,rfl,uG.mono (((aK.sub)).trans (M.t _))⟩;clear e8;cbv;refine Uj (h0:=u) (((cF.nil:cF 84 aD u h6 (.slice none 0 0) ([]:List Row))).mono (M.t _)) (λ_=>rfl) (((show uf 84 aD (yi h6 none) f H from bb)).mono (ru (M.t _) none)) v8 (by decide) rfl (by decide) (by omega) (l6.trans M) (λN d w h9 bt l9 t9 F QF=>?_);have o9:=(o6.mono (M.t _)).mono (t9 [34] (by decide));obtain⟨J,yV,Qo,bg,OU⟩:=o9.own (by omega);have Y:b6=some ⟨J,0,none⟩:=yV;subst Y;cbv;refine⟨E,?_⟩;cbv;refine OU.setAt (by decide) (i:=a-1) (by omega) uO rfl (x:=(d,N,w)) rfl (λfL yS O xJ=>?_);have fU:Le u fL:=λb o L=>yS _ _ (l9 _ _ L) (λhm=>by rw[mQH.1 hm,Qo]at L;cases L);have ag:(f++[(none,0,0)]).set (a-1) (d,N,w)=f++[(d,N,w)]:=by rw[T,mXy];simp
  rw[ag]at xJ;have QY:=xJ.buf (n:=a) Qo (by rw[T,mQy,mQG]);have af:=jd fL (some ⟨J,0,none⟩) a c6 (f++[(d,N,w)]) (H++[([]:List Row)++[r]]) fU QY (by rw[mQy,mQG];omega) (λx hx=>by
   rcases mQE.1 hx with hx|hx
   .have:=RI x hx;omega
   rw[mQH]at hx;rw[hx,mQy,mQG];have:=X;omega) ⟨λe=>absurd e (by omega),λ_=>⟨f,H,(d,N,w),([]:List Row)++[r],([]:List Row),r,rfl,rfl,rfl,by rw[mXy];exact Jx,QF.mono (ru (O _ (by decide)) d),F.mono (O _ (by decide))⟩⟩ B
  clear jd OU xJ QY F QF;cbv;rw[dL];refine⟨mm,(_,_),sh,by constructor<;>cbv,af⟩
 have cB:i=R:=by omega
 rw[mQT (by omega)]at B;replace B:gs=D:=B;subst B;have af:=sJ W bo no co rK (st.fin.sl V.sl);clear aY hJ;rw[mQv aP];cbv;exact af
theorem UD(cols:List cK)(a:Int)(g:List Row)(i:dO)(is:List dO)(r:Row):ki cols a g (i::is) r=match yA cols a i g with
 | (v,e)=>if e≠0 then([],e)else ki cols a g is (r++[v]):=rfl
theorem Fb{k:Int}:∀(rs:List Row) (out:List (List Row)),(∀g∈out,g≠[])->(∀g∈cG k rs out,g≠[])/\∀g∈cG k rs out,∀r∈g,r∈rs\/∃b∈out,r∈b
 | [],out,h=>⟨h,λg a r l=>.inr ⟨g,a,l⟩⟩
 |r::rs,out,h=>by
  have key:∀z,(∀g∈z,g≠[])->(∀g∈z,∀x∈g,x=r\/∃b∈out,x∈b)->(∀g∈cG k rs z,g≠[])/\∀g∈cG k rs z,∀x∈g,x∈r::rs\/∃b∈out,x∈b:=λz f i=>by
   obtain⟨m,n⟩:=Fb rs z f;refine⟨m,λg a x hx=>?_⟩;rcases n g a x hx with c| ⟨b,c,j⟩
   .exact .inl (mXm _ c)
   rcases i b c x j with d|d
   .exact .inl (by rw[d];exact mXn)
   exact .inr d
  have snoc:(∀g∈out++[[r]],g≠[])/\∀g∈out++[[r]],∀x∈g,x=r\/∃b∈out,x∈b:=by
   refine⟨λg a=>?_,λg a x hx=>?_⟩
   .rcases mQE.1 a with a|a
    .exact h g a
    rw[mQH]at a;rw[a];simp
   rcases mQE.1 a with a|a
   .exact .inr ⟨g,a,hx⟩
   rw[mQH]at a;rw[a,mQH]at hx;exact .inl hx
  unfold cG;split
  .exact key _ (λg a=>by rw[mQH]at a;rw[a];simp) (λg a x hx=>by
    rw[mQH]at a;rw[a,mQH]at hx;exact .inl hx)
  rename_i e Y;have R:=mZE Y;split
  .exact key _ snoc.1 snoc.2
  split
  .refine key _ (λg a=>?_) (λg a x hx=>?_)
   .rcases mQE.1 a with a|a
    .exact h g ((mJV _).subset a)
    rw[mQH]at a;rw[a];simp
   rcases mQE.1 a with a|a
   .exact .inr ⟨g,(mJV _).subset a,hx⟩
   rw[mQH]at a;rw[a]at hx;rcases mQE.1 hx with hx|hx
   .exact .inr ⟨e,R,hx⟩
   rw[mQH]at hx;exact .inl hx
  exact key _ snoc.1 snoc.2
theorem Qt{k:Int}:(0<=k->∀g∈gV k de rows,g≠[])/\∀g∈gV k de rows,∀r∈g,r∈rows:=by
 unfold gV;split
 .rename_i e;refine⟨λh=>absurd h (by omega),λg a r b=>?_⟩;rw[mQH]at a;rw[a]at b;exact b
 obtain⟨i,c⟩:=Fb (k:=k) (gL (wP k de) rows) [] (λg a=>by cases a);refine⟨λ_=>i,λg a r b=>?_⟩;rcases c g a r b with h| ⟨d,h,-⟩
 .exact oM h
 cases h
theorem Fa{k:Int}:∀(rs:List Row) (out:List (List Row)),(cG k rs out).length<=out.length+rs.length
 | [],out=>mQD _
 |r::rs,out=>by
  have key:∀z,z.length<=out.length+1->(cG k rs z).length<=out.length+(r::rs).length:=λz h=>by
   have:=Fa (k:=k) rs z;rw[mQM];omega
  have snoc:(out++[[r]]).length<=out.length+1:=by rw[mQy];exact mQD _
  unfold cG;split
  .exact key _ (by show 1<=_;omega)
  rename_i g Y;split
  .exact key _ snoc
  split
  .refine key _ ?_;rw[mQy,List.length_dropLast,mQG];omega
  exact key _ snoc
theorem Qs{k:Int}:(gV k de rows).length<=rows.length+1:=by
 unfold gV;split
 .show 1<=_;omega
 have h:=Fa (k:=k) (gL (wP k de) rows) [];have a:=(gh (wP k de) rows).length_eq;rw[a]at h;replace h:(cG k (gL (wP k de) rows) []).length<=0+rows.length:=h;omega
theorem Mr:(bL l n).length<=l.length:=by
 unfold bL;split
 .exact mQD _
 rw[mQK];exact mZZ _ _
theorem vE{x:a}(h:x∈bL l n):x∈l:=by
 unfold bL at h;split at h
 .exact h
 exact mXF h
theorem QC{f:a->Int}:∀ {l:List a},ey f l=0->∀x∈l,f x=0
 | [],_,x,hx=>by cases hx
 |y::l,h,x,hx=>by
  unfold ey at h;by_cases h0:f y≠0
  .rw[if_pos h0]at h;exact absurd h h0
  rw[if_neg h0]at h;rcases mQI.1 hx with rfl|hx
  .exact mXc.1 h0
  exact QC h x hx
theorem Zk(h:dp x cols=(y,0))(b:y.kK=true):∀i∈x.items,i.fn=0->0<=y.group:=by
 unfold dp at h;split at h
 .rename_i a;rw[Prod.mk.injEq]at h;exact absurd h.2 a
 split at h
 .rename_i a;rw[Prod.mk.injEq]at h;exact absurd h.2 a
 split at h
 .rename_i a;rw[Prod.mk.injEq]at h;exact absurd h.2 a
 generalize bN x.group cols=G at *;obtain⟨g,f⟩:=G;generalize bN x.order cols=O at *;obtain⟨o,j⟩:=O;simp only[]at h;split at h
 .rename_i a;rw[Prod.mk.injEq]at h;exact absurd h.2 a
 split at h
 .rename_i c;rw[Prod.mk.injEq]at h;exact absurd h.2 c
 split at h
 .rw[Prod.mk.injEq]at h;rw[<-h.1]at b;cases b
 split at h
 .rw[Prod.mk.injEq]at h;exact absurd h.2 (by decide)
 rw[Prod.mk.injEq]at h;intro i e h0;have:=QC h.2 i e;rw[<-h.1];show 0<=g;unfold cM at this;rw[if_neg (λd=>d h0)]at this;by_cases Y:g<0
 .rw[if_pos Y]at this;exact absurd this (by decide)
 omega
theorem cXs{p:Nat}(q:oC h p x cols y)(F:f.length<=2^20)(w:∀r∈f,y.group<r.length){g:Option Addr}{i:Nat}(d:Le h0 h)(e:cF 84 aD h0 h (.slice g j i) f)
  (a:∀h' b n c,Le h0 h'->(∀tys,84∉tys->bR tys h h')->(∀b o,h b=some o->(∀c fr,o≠.cells c 84 fr)->h' b=some o)->Sl 34 (mW 84 aD) h' (.slice b n c) (gV y.group x.desc f)->k (.slice b n c) h'):
 Ct 183 [.pointer (some ⟨p,0,none⟩),.slice g j i] h k:=by
 by_cases t:0<=y.group
 .exact bQi q t F w d e a
 refine Wx q (by omega) e.sl (λh' b l s=>a h' _ _ _ (d.trans l) (λtys _=>l.t tys) (λb o m _=>l _ _ m) ?_);have:gV y.group x.desc f=[f]:=by unfold gV;rw[if_pos (by omega)]
 rw[this];exact s
theorem cXw(q:oC h qp x cols y)(hx:dr x)(hc:∀c∈cols,Nm c.name)(rZ:∀r∈f,fS r)(aw:f.length<=2^20)(an:dp x cols=(y,0))(FK:y.kK=true)(C:∀r∈f,cols.length<=r.length)(l0:Le h0 h)(qr:cF 84 aD h0 h (.slice rb rn rc) f)
  (hk:∀h' b n c,Le h0 h'->Sl 84 aD h' (.slice b n c) (dw x cols y.group f).1->k (.tuple #[.slice b n c,.int .i64 (dw x cols y.group f).2]) h'):
 Ct 88 [.pointer (some ⟨qp,0,none⟩),.slice rb rn rc] h k:=by
 have hP:dw x cols y.group f=gJ x cols y.group (bL (gV y.group x.desc f) x.eG) []:=rfl;rw[hP]at hk;obtain⟨GS,t⟩:∃GS,gV y.group x.desc f=GS:=⟨_,rfl⟩;obtain⟨D,a⟩:∃D,gJ x cols y.group (bL (gV y.group x.desc f) x.eG) []=D:=⟨_,rfl⟩;rw[a]at hk;rw[t]at a;obtain⟨-,bF⟩:=Lb an;have S:∀r∈f,y.group<r.length:=λr h=>by have:=C r h;omega
 have O:=Zk an FK;obtain⟨ab,K⟩:=Qt (k:=y.group) (de:=x.desc) (rows:=f);rw[t]at ab K;have nR:∀g∈bL GS x.eG,∀i∈x.items,bZf cols y.group i g:=λg hg i hi=>⟨λh0=>⟨ab (O i hi h0) g (vE hg),O i hi h0⟩,λr hr=>S r (K g (vE hg) r hr),λr hr=>rZ r (K g (vE hg) r hr)⟩;have TQ:=hx.items;refine q.elim (λN n5 P b6 n6 c6 b7 n7 c7 b8 n8 c8 b9 n9 c9 gW jD gT cb cn cc g q1 q2 q3 q4 q5 q6 q7=>?_);clear q1 q2 q3 q4 q5 q6 q7;refine mQx hQa Tryz.func88 λA hA=>?_;cbv;intro qb F f1 e1;have l1:Le h F:=by rw[e1];exact Le.set f1
 have gb:F qb=some (.cells #[.pointer (some ⟨qp,0,none⟩)] 176 (0,0)):=by rw[e1];exact ae
 have g1:=l1 _ _ g;have W:=q.mono l1;clear e1;cbv;repeat (first|((try rw[ai A]);(try rw[ai A]);(first|refine mQw gb ?_|refine mQw g1 ?_);cbv)|(refine⟨⟨_,rfl,rfl⟩,?_⟩;cbv))
 refine cXs W aw S (l0.trans l1) (qr.mono (l1.t _)) (λp ck ch cj jZ t2 f2 qg=>?_);rw[t]at qg;have yY:=f2 _ _ gb (λc fr e=>by cases e);have g2:=f2 _ _ g1 (λc fr e=>by cases e);have aj:=W.lt (g2.trans g1.symm) (t2 _ (by decide));clear t2 f2 W g1 gb g q qr l0 l1 f1 O ab K S C rZ;cbv;repeat (first|((try rw[ai A]);(try rw[ai A]);(first|refine mQw yY ?_|refine mQw g2 ?_);cbv)|(refine⟨⟨_,rfl,rfl⟩,?_⟩;cbv))
 refine Pq qg x.eG (λlb d lc qm=>?_);obtain⟨M,hM⟩:∃M,bL GS x.eG=M:=⟨_,rfl⟩;have ca:M.length<=2^21:=by have F:=Mr (l:=GS) (n:=x.eG);have p:=Qs (k:=y.group) (de:=x.desc) (rows:=f);rw[t]at p;rw[hM]at F;omega
 rw[hM]at qm a nR;have tG:=qm.len;have bz:=qm.bound.1;refine aj.elim (λN n5 P b6 n6 c6 b7 n7 c7 b8 n8 c8 b9 n9 c9 gW jD gT cb cn cc g2 q1 q2 q3 q4 q5 q6 q7=>?_);clear q1 q2 q3 q4 q6 q7;have FG:=q5.len;have ke:=hx.aJU;obtain⟨I2,aY⟩:∃I:Nat->(Int×Option Addr×Nat×Nat)->ad->Prop,∀m g h',I m g h'=∃i out,aS g.1 i/\i<=d/\m=d-i/\Le p h'/\out.length=i/\cF 84 aD p h' (.slice g.2.1 g.2.2.1 g.2.2.2) out/\gJ x cols y.group (M.drop i) out=D:=⟨_,λ_ _ _=>rfl⟩;have hJ:I2 d (0,none,0,0) p:=by rw[aY];exact⟨0,[],⟨rfl⟩,mQC _,rfl,Le.refl _,rfl,cF.nil,a⟩
 clear hM a qg t;cbv;repeat (refine⟨⟨_,rfl,rfl⟩,?_⟩;cbv)
 refine aX.go (G:=Int×Option Addr×Nat×Nat) (λg=>[(21,.v (.int .i64 g.1)),(6,.v (.slice g.2.1 g.2.2.1 g.2.2.2))]) (λ_=>[]) (λm g h'=>I2 m g h') d (0,none,0,0) (by constructor<;>cbv) hJ ?_
 intro m2 gg h4 z;rw[aY]at z;cbv;obtain⟨j,out,C,hj,sH,L,au,qo,a⟩:=z;obtain⟨w,bo,no,co⟩:=gg;replace C:aS w j:=C;replace qo:cF 84 aD p h4 (.slice bo no co) out:=qo;have f2:A .aI .lss w (A .nat d)=decide (j<d):=C.iJ (aS.nat d);have ag:=qm.mono (L.t _);have gK:=qo.sl.len;cbv;rw[f2];by_cases KM:j<d
 .obtain⟨r,Jx⟩:=mQA M j;have bd:=nR r (mQz Jx);have jo:0<=w/\w<(d:Int):=C.ix KM;have PF:=C.eq;have VZ:=C.succ (A:=A);have sf:d-(j+1)<m2:=by omega
  have Bc:M.drop j=r::M.drop (j+1):=by obtain⟨F,p⟩:=mQB.1 Jx;rw[mQJ F,p]
  obtain⟨DD,uU⟩:∃DD,ki cols y.group r x.items []=DD:=⟨_,rfl⟩;rw[Bc]at a;replace a:(match ki cols y.group r x.items []with
   | (r,e)=>if e≠0 then([],e)else gJ x cols y.group (M.drop (j+1)) (out++[r]))=D:=a
  rw[uU]at a;obtain⟨R,E⟩:=DD;replace a:(if E≠0 then([],E)else gJ x cols y.group (M.drop (j+1)) (out++[R]))=D:=a;have jd:∀u N m5 P,Le p u->m5=no+1->cF 84 aD p u (.slice N m5 P) (out++[R])->E=0->I2 (d-(j+1)) (A .bB .add .i64 w 1,N,m5,P) u:=λu N m5 P l5 bx o5 h0=>by
   rw[aY];exact⟨j+1,out++[R],VZ,KM,rfl,l5,by rw[mQy,mQG,au],o5,by rw[if_neg (λg=>g h0)]at a;exact a⟩
  have Tp:=ag.aT (by omega:0<d);have g4:=L _ _ g2;have RQ:=L _ _ yY;have bb:=aj.mono L;clear aY hJ VZ;rw[mQu KM];cbv;refine⟨⟨Tp,jo⟩,?_⟩;cbv;refine bZ ag Jx PF (λbr nr cr uG=>?_);cbv;intro gx al f5 U;have aV:Le h4 al:=by rw[U];exact Le.set f5
  have az:al gx=some (.cells #[.slice none 0 0] 34 (0,0)):=by rw[U];exact ae
  clear U;cbv;refine ja az (by simp) (λu U=>?_);have l5:Le h4 u:=λb o V=>by rw[U,aO (λe=>by rw[e,f5]at V;cases V)];exact aV _ _ V
  have bj:u gx=some (.cells #[.slice br nr cr] 34 (0,0)):=by rw[U];exact ae
  clear U;cbv;intro ox H f6 e6;have l6:Le u H:=by rw[e6];exact Le.set f6
  have bg:H ox=some (.cells #[.slice none 0 0] 84 (0,0)):=by rw[e6];exact ae
  have T:Le u (Sx.eF H ox):=λb o V=>by
   rw[Sx.cY (λe=>by rw[e,f6]at V;cases V)];exact l6 _ _ V
  clear e6;obtain⟨B,hB⟩:∃B,B=Sx.eF H ox:=⟨_,rfl⟩;rw[<-hB]at T;have bk:Le B H:=by rw[hB];exact Sx.fY H ox
  have ay:B ox=none:=by rw[hB];exact Sx.dP H ox
  have Z:Le h4 B:=l5.trans T;obtain⟨J,Y⟩:∃J:Nat->ad->Prop,∀i h',J i h'=∃l,Nx B h' ox l/\l.length=i/\ki cols y.group r (x.items.drop i) l=(R,E):=⟨_,λ_ _=>rfl⟩;have MX:J 0 H:=by rw[Y];exact⟨[],⟨⟨none,0,0,bg,cF.nil⟩,bk,ay⟩,rfl,uU⟩
  have g6:=l5.trans l6 _ _ g4;have aH:=l5.trans l6 _ _ RQ;have aW:=q5.mono (L.t _);have ba:=bb.mono Z;have bc:=uG.mono (Z.t _);clear hB;cbv;repeat (first|((try rw[ai A]);(try rw[ai A]);(first|refine mQw aH ?_|refine mQw g6 ?_);cbv)|(refine⟨⟨_,rfl,rfl⟩,?_⟩;cbv))
  refine mXV FG J MX (λi h' z=>?_) (λi it h' b1 n1 c1 hi JA z hv=>?_) (λh' z=>?_)
  .rw[Y]at z;obtain⟨l,X,-⟩:=z;exact aW.mono ((Z.trans X.le).t _)
  .rw[Y]at z;obtain⟨l,X,tW,Q⟩:=z;have MQ:=mQz JA;have bn:x.items.drop i=it::x.items.drop (i+1):=by obtain⟨F,p⟩:=mQB.1 JA;rw[mQJ F,p]
   rw[bn,UD]at Q;refine bQm X (by omega) ba hc (TQ it MQ) (bd it MQ) (Z _ _ RQ) (T _ _ bj) bc hv (λh7 v e q7 Je=>⟨e,rfl,λh0=>?_,λh0=>?_⟩)
   .rw[<-Je]at Q;replace Q:(if e≠0 then([],e)else ki cols y.group r (x.items.drop (i+1)) (l++[v]))=(R,E):=Q;rw[if_neg (λg=>g h0)]at Q;rw[Y];exact⟨l++[v],q7,by rw[mQy,mQG,tW],Q⟩
   rw[<-Je]at Q;replace Q:(if e≠0 then([],e)else ki cols y.group r (x.items.drop (i+1)) (l++[v]))=(R,E):=Q;rw[if_pos h0]at Q;have aP:[]=R:=(Prod.mk.inj Q).1;have bt:e=E:=(Prod.mk.inj Q).2;subst aP bt;rw[if_pos h0]at a;subst a;have fe:A .aI .neq e 0=true:=by rw[aC A];exact mQu h0
   have af:=hk h7 none 0 0 (jZ.trans (L.trans (Z.trans q7.le))) Sl.nil;clear hk jd Y MX;cbv;rw[fe];cbv;exact af
  rw[Y]at z;obtain⟨l,X,tW,Q⟩:=z;rw[mQT (by omega)]at Q;replace Q:(l,(0:Int))=(R,E):=Q;cases Q;obtain⟨b7,n7,c7,g7,aK⟩:=X.out;have l7:Le h4 h':=Z.trans X.le;have fe:A .aI .neq 0 0=false:=by rw[aC A];rfl
  clear Y MX;cbv;rw[fe];cbv;repeat (first|((try rw[ai A]);(try rw[ai A]);refine mQw g7 ?_;cbv)|(refine⟨⟨_,rfl,rfl⟩,?_⟩;cbv))
  refine(mU aK.sl).mono (λv8 h8 hR=>?_);obtain⟨l8,b8,c8,bf,aZ⟩:=hR;subst bf;cbv;intro ak h9 f9 e9;have l9:Le h8 h9:=by rw[e9];exact Le.set f9
  have v9:Sl 84 aD h9 (.slice (some ⟨ak,0,none⟩) 1 1) [R]:=bA (s:=aD) ((congrFun e9 ak).trans ae) ⟨_,rfl,aZ.sl.mono (l9.t _)⟩;clear e9;cbv;refine(qo.mono ((l7.trans (l8.trans l9)).t _)).append v9 (by decide) rfl (by decide) (by omega) (L.trans (l7.trans (l8.trans l9))) (λGh gW gT fL wH fU bw yS jN=>?_);clear bw yS v9;have af:=jd fL gW Gh gT fU wH jN rfl;clear jd hk;cbv;refine⟨d-(j+1),(A .bB .add .i64 w 1,gW,Gh,gT),sf,by constructor<;>cbv,af⟩
 have KP:j=d:=by omega
 rw[mQT (by omega)]at a;replace a:(out,0)=D:=a;subst a;clear aY hJ;rw[mQv KM];cbv;refine(Gp qo.sl).mono (λv5 u hR=>?_);obtain⟨l5,N,P,ar,Sy⟩:=hR;subst ar;have af:=hk u N no P (jZ.trans (L.trans l5)) Sy.sl;clear hk;cbv;exact af
theorem Er(g:y.kK=true):Rp x y:=λ{h0 h p cols} q hx c {rows} r m f hw {b n rc} l qr {k} a=>cXw q hx c r m f g hw l qr a
end Go.S
