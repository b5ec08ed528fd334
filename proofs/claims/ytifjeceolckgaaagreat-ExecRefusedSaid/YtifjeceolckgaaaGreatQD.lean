import Derived.Test.YtifjeceolckgaaaGreatQC
set_option linter.all false
set_option maxRecDepth 100000
set_option maxHeartbeats 8000000
namespace Go.S
open Go.Sx Go.Proofs
variable {a:Type}{l rows:List Row}{D:List Row×Int}{cols:List cK}{xs:List dO}{H c e j m n o p qb qp r rc rn:Nat}{b rb:Option Addr}{f:Option Nat}{y:Qy}{k:Value->ad->Prop}{x:aJ}{B h h':ad}
theorem eQs{d:Nat}(q:oC h p x cols y)(i:h d=some (.cells #[.pointer (some ⟨p,0,none⟩)] 176 (0,0)))(hx:dr x)(l:∀c∈cols,Nm c.name)
 (a:∀h',Le h h'->k (.int .i64 (aU x.on cols)) h'):Ct 161 [.pointer (some ⟨d,0,none⟩)] h k:=by
 refine q.elim (λr J w s K z t L B u M C v N D W I T E G F g O n P Q R S o=>?_);refine mQx gXy Tryz.func161 λA H=>?_;cbv;repeat (first|((try rw[ai A]);(try rw[ai A]);(first|refine mQw i ?_|refine mQw g ?_);cbv)|(refine⟨⟨_,rfl,rfl⟩,?_⟩;cbv))
 refine rW hx.on l n o (λj e m b=>?_);rw[<-b]at a;have f:=a j m;clear a b;cbv;exact f
theorem eQr{d:Nat}(q:oC h p x cols y)(i:h d=some (.cells #[.pointer (some ⟨p,0,none⟩)] 176 (0,0)))(hx:dr x)(l:∀c∈cols,Nm c.name)
 (a:∀h',Le h h'->k (.int .i64 (aU x.bV cols)) h'):Ct 162 [.pointer (some ⟨d,0,none⟩)] h k:=by
 refine q.elim (λr J w s K z t L B u M C v N D W I T E G F g O P Q R S n o=>?_);refine mQx gXx Tryz.func162 λA H=>?_;cbv;repeat (first|((try rw[ai A]);(try rw[ai A]);(first|refine mQw i ?_|refine mQw g ?_);cbv)|(refine⟨⟨_,rfl,rfl⟩,?_⟩;cbv))
 refine rW hx.bV l n o (λj e m b=>?_);rw[<-b]at a;have f:=a j m;clear a b;cbv;exact f
theorem eQp(q:oC h p x cols y)(d:h j=some (.cells #[.pointer (some ⟨p,0,none⟩)] 176 (0,0)))(hx:dr x)(I:∀c∈cols,Nm c.name)
 (i:∀h',Kp [p] h h'->oC h' p x cols ⟨(bN x.group cols).1,y.order,y.kK⟩->k (.int .i64 (bN x.group cols).2) h'):Ct 166 [.pointer (some ⟨j,0,none⟩)] h k:=by
 refine q.elim (λn N v r O w s P z t Q B u R C W L T D G F g S U V Y Z q6 q7=>?_);refine mQx gXu Tryz.func166 λA hA=>?_;cbv;repeat (first|((try rw[ai A]);(try rw[ai A]);(first|refine mQw d ?_|refine mQw g ?_);cbv)|(refine⟨⟨_,rfl,rfl⟩,?_⟩;cbv))
 refine WS q I hx.group (λe l=>?_);have X:=l _ _ d;have a:=l _ _ g;have M:bR uB h e:=l.t _;generalize bN x.group cols=E at *;obtain⟨e1,e2⟩:=E;cbv;repeat (first|((try rw[ai A]);(try rw[ai A]);refine mQw X ?_;cbv)|(refine⟨⟨_,rfl,rfl⟩,?_⟩;cbv))
 first|rw[ai A] |skip
 refine ja a (by simp) (λf J=>?_);have iJ:bR uB e f:=by rw[J];exact bR.set a (by decide)
 have lt:=M.trans iJ;have m:=i f (λb o H K=>by rw[J,aO (by simpa using K)];exact l _ _ H) ⟨n,N,v,r,O,w,s,P,z,t,Q,B,u,R,C,W,L,T,D,G,F,(by rw[J,ae];rfl),S.mono (lt.sub),U.mono (lt.sub),V.mono (lt.sub),Y.mono (lt.sub),Z.mono (lt.sub),q6.mono (lt.sub),q7.mono (lt.sub)⟩;clear i J;cbv;exact m
theorem eQo(q:oC h p x cols y)(d:h j=some (.cells #[.pointer (some ⟨p,0,none⟩)] 176 (0,0)))(hx:dr x)(I:∀c∈cols,Nm c.name)
 (i:∀h',Kp [p] h h'->oC h' p x cols ⟨y.group,(bN x.order cols).1,y.kK⟩->k (.int .i64 (bN x.order cols).2) h'):Ct 168 [.pointer (some ⟨j,0,none⟩)] h k:=by
 refine q.elim (λn N v r O w s P z t Q B u R C W L T D G F g S U V Y Z q6 q7=>?_);refine mQx gXs Tryz.func168 λA hA=>?_;cbv;repeat (first|((try rw[ai A]);(try rw[ai A]);(first|refine mQw d ?_|refine mQw g ?_);cbv)|(refine⟨⟨_,rfl,rfl⟩,?_⟩;cbv))
 refine WS q I hx.order (λe l=>?_);have X:=l _ _ d;have a:=l _ _ g;have M:bR uB h e:=l.t _;generalize bN x.order cols=E at *;obtain⟨e1,e2⟩:=E;cbv;repeat (first|((try rw[ai A]);(try rw[ai A]);refine mQw X ?_;cbv)|(refine⟨⟨_,rfl,rfl⟩,?_⟩;cbv))
 first|rw[ai A] |skip
 refine ja a (by simp) (λf J=>?_);have iJ:bR uB e f:=by rw[J];exact bR.set a (by decide)
 have lt:=M.trans iJ;have m:=i f (λb o H K=>by rw[J,aO (by simpa using K)];exact l _ _ H) ⟨n,N,v,r,O,w,s,P,z,t,Q,B,u,R,C,W,L,T,D,G,F,(by rw[J,ae];rfl),S.mono (lt.sub),U.mono (lt.sub),V.mono (lt.sub),Y.mono (lt.sub),Z.mono (lt.sub),q6.mono (lt.sub),q7.mono (lt.sub)⟩;clear i J;cbv;exact m
theorem pP(f:a->Int)(x:a)(r:List a):ey f (x::r)=if f x≠0 then f x else ey f r:=rfl
theorem eQq(q:oC h p x cols y)(o:h n=some (.cells #[.pointer (some ⟨p,0,none⟩)] 176 (0,0)))(hx:dr x)(s:∀c∈cols,Nm c.name)
 (b:∀h',Le h h'->k (.int .i64 (ey (lT cols) x.items)) h'):Ct 163 [.pointer (some ⟨n,0,none⟩)] h k:=by
 refine q.elim (λF n5 M G n6 N H n7 O K n8 P L n9 Q W jD V S U T g w z B C j D E=>?_);clear w z B C D E;obtain⟨R,hR⟩:∃R,ey (lT cols) x.items=R:=⟨_,rfl⟩;rw[hR]at b;obtain⟨I,Y⟩:∃I:Nat->ad->Prop,∀i h',I i h'=(Le h h'/\ey (lT cols) (x.items.drop i)=R):=⟨_,λ_ _=>rfl⟩;have J:I 0 h:=by rw[Y];exact⟨Le.refl _,hR⟩
 refine mQx gXw Tryz.func163 λA X=>?_;cbv;repeat (first|((try rw[ai A]);(try rw[ai A]);(first|refine mQw o ?_|refine mQw g ?_);cbv)|(refine⟨⟨_,rfl,rfl⟩,?_⟩;cbv))
 refine mXV j.len I J (λi h' a=>?_) (λi t h' ib im ic Z u a v=>?_) (λh' a=>?_)
 .rw[Y]at a;exact j.mono (a.1.t _)
 .rw[Y]at a;obtain⟨l,e⟩:=a;have hd:x.items.drop i=t::x.items.drop (i+1):=by obtain⟨r,d⟩:=mQB.1 u;rw[mQJ r,d]
  rw[hd,pP]at e;refine fQH (q.mono l) s (hx.items t (mQz u)) v (λd m=>⟨_,rfl,λh0=>?_,λh0=>?_⟩)
  .rw[if_neg (λg=>g h0)]at e;rw[Y];exact⟨l.trans m,e⟩
  rw[if_pos h0]at e;rw[e];have f:=b d (l.trans m);clear b Y h0;cbv;exact f
 rw[Y]at a;obtain⟨l,e⟩:=a;rw[mQT (by rw[j.len];exact mQD _)]at e;have e:(0:Int)=R:=e;subst e;have f:=b h' l;clear b Y;cbv;exact f
theorem eQn(fn:Int){i:Option Addr}(a:k (.bool (decide (fn≠0))) h):Ct 172 [.agg #[.int .i64 fn,.slice i m c]] h k:=by obtain⟨A,b⟩:=Ar.ex;have f:A .aI .neq fn 0=decide (fn≠0):=aC A ..;refine mQF gXq A Tryz.func172 ?_;cbv;rw[f];exact a
theorem YJ(q:Sl 267 eI h (.slice b n c) xs)
 (d:∀z:Int,decide (z>=0)=xs.any (λi=>decide (i.fn≠0))->k (.int .i64 z) h):Ct 238 [.slice b n c,.func (.func 172) #[] #[]] h k:=by
 have D:=q.len;have y:=q.bound;obtain⟨R,hR⟩:∃R,xs.any (λi=>decide (i.fn≠0))=R:=⟨_,rfl⟩;rw[hR]at d;obtain⟨J,Y⟩:∃J:Nat->Int->ad->Prop,∀m z h',J m z h'=∃i,aS z i/\i<=n/\m=n-i/\h'=h/\(xs.drop i).any (λi=>decide (i.fn≠0))=R:=⟨_,λ_ _ _=>rfl⟩;have l:J n 0 h:=by rw[Y];exact⟨0,⟨rfl⟩,mQC _,rfl,rfl,hR⟩
 refine mQx gQw Tryz.func238 λA w=>?_;cbv;refine aX.go (G:=Int) (λz=>[(8,.v (.int .i64 z))]) (λ_=>[]) (λm z h'=>J m z h') n 0 (by constructor<;>cbv) l ?_
 intro m z j I;rw[Y]at I;cbv;obtain⟨i,g,B,C,e',a⟩:=I;subst e';have s:A .aI .lss z (A .nat n)=decide (i<n):=g.iJ (aS.nat n);rw[s];by_cases P:i<n
 .obtain⟨x,hx⟩:=mQA xs i;have hd:xs.drop i=x::xs.drop (i+1):=by obtain⟨j,t⟩:=mQB.1 hx;rw[mQJ j,t]
  rw[hd,List.any_cons]at a;have p:b.isSome=true/\0<=z/\z<(n:Int):=⟨q.aT,g.ix P⟩;have N:=g.eq;have Z:=g.succ (A:=A);have X:n-(i+1)<m:=by omega
  have L:(xs.drop (i+1)).any (λi=>decide (i.fn≠0))=R->J (n-(i+1)) (A .bB .add .i64 z 1) j:=λe=>by rw[Y];exact⟨i+1,Z,P,rfl,rfl,e⟩
  have M:decide (z>=0)=true:=mQu (by omega);clear Y l Z;rw[mQu P];cbv;refine⟨p,?_⟩;cbv;refine yQ q hx N (λu F v E=>?_);obtain⟨o,H⟩:=x;replace a:(decide (o≠0)||(xs.drop (i+1)).any (λi=>decide (i.fn≠0)))=R:=a;cbv;refine eQn o ?_;by_cases h0:o≠0
  .have r:R=true:=by rw[<-a,mQu h0];rfl
   have f:=d z (by rw[M,r]);clear d L a;rw[mQu h0];cbv;exact f
  rw[mQv h0,mZU]at a;have f:=L a;clear d L a;rw[mQv h0];cbv;refine⟨n-(i+1),A .bB .add .i64 z 1,X,by constructor<;>cbv,f⟩
 rw[mQT (by omega)]at a;have a:false=R:=a;have f:=d (-1) (by rw[<-a];rfl);clear d Y l;rw[mQv P];cbv;exact f
theorem No(q:Sl 267 eI h (.slice b n c) xs)
 (a:k (.bool (xs.any (λi=>decide (i.fn≠0)))) h):Ct 171 [.slice b n c,.func (.func 172) #[] #[]] h k:=by
 refine mQx gXr Tryz.func171 λA e=>?_;cbv;refine YJ q (λz d=>?_);have f:A .aI .geq z 0=decide (z>=0):=cf A ..;rw[<-d]at a;clear d;cbv;rw[f];exact a
theorem iKa{b:Nat}(q:oC h p x cols y)(g:h b=some (.cells #[.pointer (some ⟨p,0,none⟩)] 176 (0,0)))(hx:dr x)(e:∀c∈cols,Nm c.name)
 (a:∀h',Le h h'->k (.int .i64 (aU x.on cols)) h'):Ct 170 [.func (.func 161) #[] #[.pointer (some ⟨b,0,none⟩)]] h k:=by
 refine mQx cZX Tryz.func170 λA i=>?_;cbv;refine eQs q g hx e (λd l=>?_);have f:=a d l;clear a;generalize aU x.on cols=z at *;cbv;exact f
theorem iJZ{b:Nat}(q:oC h p x cols y)(g:h b=some (.cells #[.pointer (some ⟨p,0,none⟩)] 176 (0,0)))(hx:dr x)(e:∀c∈cols,Nm c.name)
 (a:∀h',Le h h'->k (.int .i64 (aU x.bV cols)) h'):Ct 170 [.func (.func 162) #[] #[.pointer (some ⟨b,0,none⟩)]] h k:=by
 refine mQx cZX Tryz.func170 λA i=>?_;cbv;refine eQr q g hx e (λd l=>?_);have f:=a d l;clear a;generalize aU x.bV cols=z at *;cbv;exact f
theorem iJY{b:Nat}(q:oC h p x cols y)(g:h b=some (.cells #[.pointer (some ⟨p,0,none⟩)] 176 (0,0)))(hx:dr x)(e:∀c∈cols,Nm c.name)
 (a:∀h',Le h h'->k (.int .i64 (ey (lT cols) x.items)) h'):Ct 170 [.func (.func 163) #[] #[.pointer (some ⟨b,0,none⟩)]] h k:=by
 refine mQx cZX Tryz.func170 λA i=>?_;cbv;refine eQq q g hx e (λd l=>?_);have f:=a d l;clear a;generalize ey (lT cols) x.items=z at *;cbv;exact f
theorem iJX{b:Nat}(q:oC h p x cols y)(g:h b=some (.cells #[.pointer (some ⟨p,0,none⟩)] 176 (0,0)))(hx:dr x)(e:∀c∈cols,Nm c.name)
 (a:∀h',Kp [p] h h'->oC h' p x cols ⟨(bN x.group cols).1,y.order,y.kK⟩->k (.int .i64 (bN x.group cols).2) h'):Ct 170 [.func (.func 166) #[] #[.pointer (some ⟨b,0,none⟩)]] h k:=by
 refine mQx cZX Tryz.func170 λA l=>?_;cbv;refine eQp q g hx e (λd i j=>?_);have f:=a d i j;clear a;generalize (bN x.group cols).2=z at *;cbv;exact f
theorem iJW{b:Nat}(q:oC h p x cols y)(g:h b=some (.cells #[.pointer (some ⟨p,0,none⟩)] 176 (0,0)))(hx:dr x)(e:∀c∈cols,Nm c.name)
 (a:∀h',Kp [p] h h'->oC h' p x cols ⟨y.group,(bN x.order cols).1,y.kK⟩->k (.int .i64 (bN x.order cols).2) h'):Ct 170 [.func (.func 168) #[] #[.pointer (some ⟨b,0,none⟩)]] h k:=by
 refine mQx cZX Tryz.func170 λA l=>?_;cbv;refine eQo q g hx e (λd i j=>?_);have f:=a d i j;clear a;generalize (bN x.order cols).2=z at *;cbv;exact f
theorem Qz(x:aJ)(cols:List cK):
 (aU x.on cols≠0->(dp x cols).2=aU x.on cols)/\
 (aU x.on cols=0->aU x.bV cols≠0->(dp x cols).2=aU x.bV cols)/\
 (aU x.on cols=0->aU x.bV cols=0->ey (lT cols) x.items≠0->(dp x cols).2=ey (lT cols) x.items)/\
 (aU x.on cols=0->aU x.bV cols=0->ey (lT cols) x.items=0->(bN x.group cols).2≠0->(dp x cols).2=(bN x.group cols).2)/\
 (aU x.on cols=0->aU x.bV cols=0->ey (lT cols) x.items=0->(bN x.group cols).2=0->(bN x.order cols).2≠0->(dp x cols).2=(bN x.order cols).2)/\
 (aU x.on cols=0->aU x.bV cols=0->ey (lT cols) x.items=0->(bN x.group cols).2=0->(bN x.order cols).2=0->dp x cols=
  if(decide (x.group≠b0)||x.items.any λi=>decide (i.fn≠0))=false then(⟨(bN x.group cols).1,(bN x.order cols).1,false⟩,0)
  else if x.items.length=0\/((bN x.order cols).1>=0/\(bN x.order cols).1≠(bN x.group cols).1)then(⟨(bN x.group cols).1,(bN x.order cols).1,true⟩,3)
  else(⟨(bN x.group cols).1,(bN x.order cols).1,true⟩,ey (cM cols (bN x.group cols).1) x.items)):=by
 have P:dp x cols=if aU x.on cols≠0 then(⟨-1,-1,false⟩,aU x.on cols)
  else if aU x.bV cols≠0 then(⟨-1,-1,false⟩,aU x.bV cols)
  else if ey (lT cols) x.items≠0 then(⟨-1,-1,false⟩,ey (lT cols) x.items)
  else match bN x.group cols with
   | (g,e)=>if e≠0 then(⟨g,-1,false⟩,e)else match bN x.order cols with
    | (o,e)=>if e≠0 then(⟨g,o,false⟩,e)else
     if(decide (x.group≠b0)||x.items.any λi=>decide (i.fn≠0))=false then(⟨g,o,false⟩,0)
     else if x.items.length=0\/(o>=0/\o≠g)then(⟨g,o,true⟩,3)
     else(⟨g,o,true⟩,ey (cM cols g) x.items):=rfl
 generalize dp x cols=D at *;generalize aU x.on cols=l at *;generalize aU x.bV cols=m at *;generalize ey (lT cols) x.items=n at *;generalize bN x.group cols=G at *;generalize bN x.order cols=O at *;obtain⟨g,c⟩:=G;obtain⟨o,f⟩:=O;refine⟨λh=>?_,λa h=>?_,λa b h=>?_,λa b j h=>?_,λa b j d h=>?_,λa b j d k=>?_⟩
 .rw[P,if_pos h]
 .rw[P,if_neg (λg=>g a),if_pos h]
 .rw[P,if_neg (λg=>g a),if_neg (λg=>g b),if_pos h]
 .replace h:c≠0:=h;rw[P,if_neg (λg=>g a),if_neg (λg=>g b),if_neg (λg=>g j)];show(if c≠0 then _ else _:Qy×Int).2=c;rw[if_pos h]
 .replace d:c=0:=d;replace h:f≠0:=h;rw[P,if_neg (λg=>g a),if_neg (λg=>g b),if_neg (λg=>g j)];show(if c≠0 then _ else if f≠0 then _ else _:Qy×Int).2=f;rw[if_neg (λg=>g d),if_pos h]
 replace d:c=0:=d;replace k:f=0:=k;rw[P,if_neg (λg=>g a),if_neg (λg=>g b),if_neg (λg=>g j)];show(if c≠0 then _ else if f≠0 then _ else _:Qy×Int)=_;rw[if_neg (λg=>g d),if_neg (λg=>g k)]
theorem cKW{v:Nat}(q:oC h v x cols ⟨-1,-1,false⟩)(hx:dr x)(hc:∀c∈cols,Nm c.name)
 (H:∀h' y,Kp [v] h h'->oC h' v x cols y->((dp x cols).2=0->y=(dp x cols).1)->k (.int .i64 (dp x cols).2) h'):
 Ct 85 [.pointer (some ⟨v,0,none⟩)] h k:=by
 obtain⟨s1,s2,s3,s4,s5,s6⟩:=Qz x cols;have Z:∀g,ey (cM cols g) x.items=ey (cM cols g) x.items:=λ_=>rfl;have sK:∀ {G:ad} {S:Nat} {y:Qy},oC G v x cols y->G S=some (.cells #[.pointer (some ⟨v,0,none⟩)] 176 (0,0))->True:=λ_ _=>trivial;clear sK Z;generalize dp x cols=D at *;obtain⟨Dy,r⟩:=D;replace H:∀h' y,Kp [v] h h'->oC h' v x cols y->(r=0->y=Dy)->k (.int .i64 r) h':=H;obtain⟨cq,hq⟩:=q.has;have bn:∀ {n:Nat},h n=none->n≠v:=λK e=>by rw[e,hq]at K;cases K
 refine mQx hQb Tryz.func85 λA hA=>?_;cbv;intro S G f1 e1;have l1:Le h G:=by rw[e1];exact Le.set f1
 have bk:G S=some (.cells #[.pointer (some ⟨v,0,none⟩)] 176 (0,0)):=by rw[e1];exact ae
 have ag:=bn f1;clear e1;cbv;intro sb w f2 e2;have L:Le G w:=by rw[e2];exact Le.set f2
 have br:sb≠v:=λe=>by rw[e,l1 _ _ hq]at f2;cases f2
 have qs:Sl 163 (aXU (.pointer (some ⟨S,0,none⟩))) w (.slice (some ⟨sb,0,none⟩) 5 5) [161,162,163,166,168]:=by
  refine Sl.fresh (s:=aXU (.pointer (some ⟨S,0,none⟩))) (h:=w) (n:=sb) (xs:=[161,162,163,166,168]) (cap:=5) (c:=[.func (.func 161) #[] #[.pointer (some ⟨S,0,none⟩)],.func (.func 162) #[] #[.pointer (some ⟨S,0,none⟩)],.func (.func 163) #[] #[.pointer (some ⟨S,0,none⟩)],.func (.func 166) #[] #[.pointer (some ⟨S,0,none⟩)],.func (.func 168) #[] #[.pointer (some ⟨S,0,none⟩)]]) (by rw[e2];exact ae) ⟨mQD 5,λi x hx=>?_⟩ (by show 5<=_;omega) (mQD 5)
  match i,hx with
  |0,hx=>cases hx;rfl
  |1,hx=>cases hx;rfl
  |2,hx=>cases hx;rfl
  |3,hx=>cases hx;rfl
  |4,hx=>cases hx;rfl
  |i+5,hx=>simp at hx
 clear e2;have jZ:=l1.trans L;have q2:=q.mono jZ;have yY:=L _ _ bk;have g0:(bN x.group cols).1=(bN x.group cols).1:=rfl;obtain⟨I,Y⟩:∃I:Nat->ad->Prop,∀i h',I i h'=(Kp [v] w h'/\oC h' v x cols ⟨if 3<i then(bN x.group cols).1 else -1,if 4<i then(bN x.order cols).1 else -1,false⟩/\
  (0<i->aU x.on cols=0)/\(1<i->aU x.bV cols=0)/\(2<i->ey (lT cols) x.items=0)/\(3<i->(bN x.group cols).2=0)/\(4<i->(bN x.order cols).2=0)):=⟨_,λ_ _=>rfl⟩
 have hJ:I 0 w:=by rw[Y];exact⟨Kp.refl _ _,q2,λg=>by omega,λg=>by omega,λg=>by omega,λg=>by omega,λg=>by omega⟩
 have bj:∀ {h':ad},Kp [v] w h'->∀tys,178∉tys->bR tys w h':=λkp tys ht=>by
  obtain⟨c,g⟩:=q2.has;exact kp.ES g ht
 have B:∀ {h':ad} {y:Qy} {e:Int},Kp [v] w h'->oC h' v x cols y->r=e->e≠0->k (.int .i64 e) h':=λkp E a h0=>by
  rw[<-a];exact H _ _ ((jZ.kp _).trans kp) E (λh=>absurd (a ▸ h) h0)
 cbv;refine nQc (p:=.pointer (some ⟨S,0,none⟩)) (xs:=[161,162,163,166,168]) (n:=5) rfl I hJ (λi h' b=>?_) (λi g h' hi P b _=>?_) (λh' b=>?_)
 .rw[Y]at b;exact qs.mono (bj b.1 _ (by show 178∉[163];decide))
 .rw[Y]at b;obtain⟨kp,E,X,p2,p3,p4,p5⟩:=b;have Q:=kp _ _ yY (by simpa using ag)
  match i,P with
  |0,P=>
   cases P;refine iKa E Q hx hc (λh3 M=>⟨_,rfl,λh0=>?_,λh0=>?_⟩)
   .rw[Y];exact⟨kp.trans (M.kp _),E.mono M,λ_=>h0,λg=>by omega,λg=>by omega,λg=>by omega,λg=>by omega⟩
   have f:=B (kp.trans (M.kp _)) (E.mono M) (s1 h0) h0;have fe:A .aI .neq (aU x.on cols) 0=true:=by rw[aC A];exact mQu h0
   clear H B Y;generalize aU x.on cols=z at *;cbv;rw[fe];cbv;exact f
  |1,P=>
   cases P;refine iJZ E Q hx hc (λh3 M=>⟨_,rfl,λh0=>?_,λh0=>?_⟩)
   .rw[Y];exact⟨kp.trans (M.kp _),E.mono M,λ_=>X (by omega),λ_=>h0,λg=>by omega,λg=>by omega,λg=>by omega⟩
   have f:=B (kp.trans (M.kp _)) (E.mono M) (s2 (X (by omega)) h0) h0;have fe:A .aI .neq (aU x.bV cols) 0=true:=by rw[aC A];exact mQu h0
   clear H B Y;generalize aU x.bV cols=z at *;cbv;rw[fe];cbv;exact f
  |2,P=>
   cases P;refine iJY E Q hx hc (λh3 M=>⟨_,rfl,λh0=>?_,λh0=>?_⟩)
   .rw[Y];exact⟨kp.trans (M.kp _),E.mono M,λ_=>X (by omega),λ_=>p2 (by omega),λ_=>h0,λg=>by omega,λg=>by omega⟩
   have f:=B (kp.trans (M.kp _)) (E.mono M) (s3 (X (by omega)) (p2 (by omega)) h0) h0;have fe:A .aI .neq (ey (lT cols) x.items) 0=true:=by rw[aC A];exact mQu h0
   clear H B Y;generalize ey (lT cols) x.items=z at *;cbv;rw[fe];cbv;exact f
  |3,P=>
   cases P;refine iJX E Q hx hc (λh3 k3 q3=>⟨_,rfl,λh0=>?_,λh0=>?_⟩)
   .rw[Y];exact⟨kp.trans k3,q3,λ_=>X (by omega),λ_=>p2 (by omega),λ_=>p3 (by omega),λ_=>h0,λg=>by omega⟩
   have f:=B (kp.trans k3) q3 (s4 (X (by omega)) (p2 (by omega)) (p3 (by omega)) h0) h0;have fe:A .aI .neq (bN x.group cols).2 0=true:=by rw[aC A];exact mQu h0
   clear H B Y q3;generalize (bN x.group cols).2=z at *;cbv;rw[fe];cbv;exact f
  |4,P=>
   cases P;refine iJW E Q hx hc (λh3 k3 q3=>⟨_,rfl,λh0=>?_,λh0=>?_⟩)
   .rw[Y];exact⟨kp.trans k3,q3,λ_=>X (by omega),λ_=>p2 (by omega),λ_=>p3 (by omega),λ_=>p4 (by omega),λ_=>h0⟩
   have f:=B (kp.trans k3) q3 (s5 (X (by omega)) (p2 (by omega)) (p3 (by omega)) (p4 (by omega)) h0) h0;have fe:A .aI .neq (bN x.order cols).2 0=true:=by rw[aC A];exact mQu h0
   clear H B Y q3;generalize (bN x.order cols).2=z at *;cbv;rw[fe];cbv;exact f
  |i+5,P=>simp at P
 rw[Y]at b;obtain⟨kp,E,X,p2,p3,p4,p5⟩:=b;have C:=s6 (X (by omega)) (p2 (by omega)) (p3 (by omega)) (p4 (by omega)) (p5 (by omega));have Q:=kp _ _ yY (by simpa using ag);rw[if_pos (by omega),if_pos (by omega)]at E;clear s1 s2 s3 s4 s5 s6 X p2 p3 p4 p5 B Y hJ;have k0:Kp [v] h h':=(jZ.kp _).trans kp;generalize (bN x.group cols).1=d at *;generalize (bN x.order cols).1=o at *;have f0:A .aI .neq 0 0=false:=by rw[aC A];rfl
 have fg:A .iQ .neq x.group ⟨#[]⟩=decide (x.group≠b0):=Gb A ..;refine E.elim (λb5 n5 c5 b6 n6 c6 b7 n7 c7 b8 n8 c8 b9 n9 c9 gW jD gT cb cn cc g q1 aj q3 q4 q5 q6 q7=>?_);cbv;rw[f0];cbv;clear q2 bj;obtain⟨ga,FK⟩:∃ga,ga=(decide (x.group≠b0)||x.items.any λi=>decide (i.fn≠0)):=⟨_,rfl⟩;rw[<-FK]at C;have XQ:∀j,j=bU h' v (.cells #[.int .i64 x.kind,.string x.sE.name,.slice b5 n5 c5,.int .i64 x.sE.key,.bool x.sE.only,.string x.table,.string x.join,.slice b6 n6 c6,.slice b7 n7 c7,.slice b8 n8 c8,.slice b9 n9 c9,.slice gW jD gT,.string x.group,.string x.order,.bool x.desc,.int .i64 x.eG,.string x.name,.slice cb cn cc,.int .i64 d,.int .i64 o,.bool ga] 178 (0,0))->
  oC j v x cols ⟨d,o,ga⟩/\Kp [v] h j:=λj O=>by
  have Cf:bR uB h' j:=by rw[O];exact bR.set g (by decide)
  exact⟨⟨b5,n5,c5,b6,n6,c6,b7,n7,c7,b8,n8,c8,b9,n9,c9,gW,jD,gT,cb,cn,cc,(by rw[O];exact ae),q1.mono (Cf.sub),aj.mono (Cf.sub),q3.mono (Cf.sub),q4.mono (Cf.sub),q5.mono (Cf.sub),q6.mono (Cf.sub),q7.mono (Cf.sub)⟩,k0.trans (by rw[O];exact Kp.set (by simp))⟩
 have We:=q5.len;have tail:∀j,j=bU h' v (.cells #[.int .i64 x.kind,.string x.sE.name,.slice b5 n5 c5,.int .i64 x.sE.key,.bool x.sE.only,.string x.table,.string x.join,.slice b6 n6 c6,.slice b7 n7 c7,.slice b8 n8 c8,.slice b9 n9 c9,.slice gW jD gT,.string x.group,.string x.order,.bool x.desc,.int .i64 x.eG,.string x.name,.slice cb cn cc,.int .i64 d,.int .i64 o,.bool ga] 178 (0,0))->
  oC j v x cols ⟨d,o,ga⟩/\Kp [v] h j:=XQ
 clear tail q1 aj q3 q4 q6 q7;repeat (first|(rw[ai A,ai A];refine mQw Q ?_;cbv)|(rw[ai A];refine mQw Q ?_;cbv)|(refine mQw Q ?_;cbv)|(rw[ai A,ai A];refine mQw g ?_;cbv)|(rw[ai A];refine mQw g ?_;cbv)|(refine mQw g ?_;cbv)|(refine⟨⟨_,rfl,rfl⟩,?_⟩;cbv))
 rw[fg];by_cases Z:x.group≠b0
 .have bo:ga=true:=by rw[FK,mQu Z];rfl
  rw[bo]at C XQ;rw[mQu Z];cbv;first|rw[ai A] |skip
  refine ja g (by simp) (λj O=>?_);obtain⟨V,k5⟩:=XQ j O;have N:j S=some (.cells #[.pointer (some ⟨v,0,none⟩)] 176 (0,0)):=by rw[O,aO ag];exact Q
  have Cf:bR uB h' j:=by rw[O];exact bR.set g (by decide)
  clear O XQ g FK;rw[if_neg (by simp)]at C;have nt:A .not true=false:=by rw[hA.not];rfl
  have KO:=λh' l e=>H h' ⟨d,o,true⟩ (k5.trans (Le.kp l _)) (V.mono l) e;clear H;refine V.elim (λaz bg bb ay bf ba aw bd aZ au bc aW ar ab aV al an ak aP aH aK F _ _ _ _ J _ _=>?_);have ke:=J.len;have fl:A .aI .eql (A .nat ab) 0=decide (x.items.length=0):=by rw[aA A,hA.nat,decide_eq_decide,mQV];omega
  have fo:A .aI .geq o 0=decide (o>=0):=cf A ..;have fn:A .aI .neq o d=decide (o≠d):=aC A ..;have u:∀h' e,Le j h'->r=e->(r=0->Dy=⟨d,o,true⟩)->k (.int .i64 e) h':=λh' e l a hy=>by rw[<-a];exact KO h' l (λh0=>(hy h0).symm)
  clear KO;cbv;repeat (first|((try rw[ai A]);(try rw[ai A]);(first|refine mQw N ?_|refine mQw F ?_);cbv)|(refine⟨⟨_,rfl,rfl⟩,?_⟩;cbv))
  rw[nt];cbv;repeat (first|((try rw[ai A]);(try rw[ai A]);(first|refine mQw N ?_|refine mQw F ?_);cbv)|(refine⟨⟨_,rfl,rfl⟩,?_⟩;cbv))
  rw[fl];by_cases Jf:x.items.length=0
  .rw[if_pos (.inl Jf)]at C;cases C;have f:=u j 3 (Le.refl _) rfl (λh=>by cases h);clear u;rw[mQu Jf];cbv;exact f
  rw[mQv Jf];cbv;repeat (first|((try rw[ai A]);(try rw[ai A]);(first|refine mQw N ?_|refine mQw F ?_);cbv)|(refine⟨⟨_,rfl,rfl⟩,?_⟩;cbv))
  rw[fo];have U:¬(o>=0/\o≠d)->(Dy,r)=(⟨d,o,true⟩,ey (cM cols d) x.items):=λK=>by
   rw[if_neg (by rintro(g|g)<;>contradiction)]at C;exact C
  by_cases ho:o>=0
  .rw[mQu ho];cbv;repeat (first|((try rw[ai A]);(try rw[ai A]);(first|refine mQw N ?_|refine mQw F ?_);cbv)|(refine⟨⟨_,rfl,rfl⟩,?_⟩;cbv))
   rw[fn];by_cases K:o≠d
   .rw[if_pos (.inr ⟨ho,K⟩)]at C;cases C;have f:=u j 3 (Le.refl _) rfl (λh=>by cases h);clear u U;rw[mQu K];cbv;exact f
   have W:=U (λg=>K g.2);clear U C;rw[mQv K];cbv;repeat (first|((try rw[ai A]);(try rw[ai A]);(first|refine mQw N ?_|refine mQw F ?_);cbv)|(refine⟨⟨_,rfl,rfl⟩,?_⟩;cbv))
   obtain⟨R,hR⟩:∃R,ey (cM cols d) x.items=R:=⟨_,rfl⟩;rw[hR]at W;cases W;obtain⟨T,m⟩:∃I:Nat->ad->Prop,∀i h',I i h'=(Le j h'/\ey (cM cols d) (x.items.drop i)=r):=⟨_,λ_ _=>rfl⟩;have jL:T 0 j:=by rw[m];exact⟨Le.refl _,hR⟩
   refine mXV ke T jL (λi h' b=>?_) (λi t h' ib im ic hi uQ b hv=>?_) (λh' b=>?_)
   .rw[m]at b;exact J.mono (b.1.t _)
   .rw[m]at b;obtain⟨l,a⟩:=b;have hd:x.items.drop i=t::x.items.drop (i+1):=by obtain⟨G,w⟩:=mQB.1 uQ;rw[mQJ G,w]
    rw[hd,pP]at a;refine CK (V.mono l) hc (hx.items t (mQz uQ)) hv (λw L=>⟨_,rfl,λh0=>?_,λh0=>?_⟩)
    .replace h0:cM cols d t=0:=h0;rw[if_neg (λg=>g h0)]at a;rw[m];exact⟨l.trans L,a⟩
    replace h0:cM cols d t≠0:=h0;rw[if_pos h0]at a;have f:=u w r (l.trans L) rfl (λ_=>rfl);clear u m h0;have Ep:cM cols d t=r:=a;rw[show cM cols (⟨d,o,true⟩:Qy).group t=r from Ep];cbv;exact f
   rw[m]at b;obtain⟨l,a⟩:=b;rw[mQT (by rw[ke];exact mQD _)]at a;have a:(0:Int)=r:=a;have f:=u h' 0 l a.symm (λ_=>rfl);clear u m;cbv;exact f
  have W:=U (λg=>ho g.1);clear U C;rw[mQv ho];cbv;repeat (first|((try rw[ai A]);(try rw[ai A]);(first|refine mQw N ?_|refine mQw F ?_);cbv)|(refine⟨⟨_,rfl,rfl⟩,?_⟩;cbv))
  obtain⟨R,hR⟩:∃R,ey (cM cols d) x.items=R:=⟨_,rfl⟩;rw[hR]at W;cases W;obtain⟨T,m⟩:∃I:Nat->ad->Prop,∀i h',I i h'=(Le j h'/\ey (cM cols d) (x.items.drop i)=r):=⟨_,λ_ _=>rfl⟩;have jL:T 0 j:=by rw[m];exact⟨Le.refl _,hR⟩
  refine mXV ke T jL (λi h' b=>?_) (λi t h' ib im ic hi uQ b hv=>?_) (λh' b=>?_)
  .rw[m]at b;exact J.mono (b.1.t _)
  .rw[m]at b;obtain⟨l,a⟩:=b;have hd:x.items.drop i=t::x.items.drop (i+1):=by obtain⟨G,w⟩:=mQB.1 uQ;rw[mQJ G,w]
   rw[hd,pP]at a;refine CK (V.mono l) hc (hx.items t (mQz uQ)) hv (λw L=>⟨_,rfl,λh0=>?_,λh0=>?_⟩)
   .replace h0:cM cols d t=0:=h0;rw[if_neg (λg=>g h0)]at a;rw[m];exact⟨l.trans L,a⟩
   replace h0:cM cols d t≠0:=h0;rw[if_pos h0]at a;have f:=u w r (l.trans L) rfl (λ_=>rfl);clear u m h0;have Ep:cM cols d t=r:=a;rw[show cM cols (⟨d,o,true⟩:Qy).group t=r from Ep];cbv;exact f
  rw[m]at b;obtain⟨l,a⟩:=b;rw[mQT (by rw[ke];exact mQD _)]at a;have a:(0:Int)=r:=a;have f:=u h' 0 l a.symm (λ_=>rfl);clear u m;cbv;exact f
 rw[mQv Z];rw[mQv Z,mZU]at FK;cbv;repeat (first|(rw[ai A,ai A];refine mQw Q ?_;cbv)|(rw[ai A];refine mQw Q ?_;cbv)|(refine mQw Q ?_;cbv)|(rw[ai A,ai A];refine mQw g ?_;cbv)|(rw[ai A];refine mQw g ?_;cbv)|(refine mQw g ?_;cbv)|(refine⟨⟨_,rfl,rfl⟩,?_⟩;cbv))
 refine No q5 ?_;rw[<-FK];cbv;repeat (first|(rw[ai A,ai A];refine mQw Q ?_;cbv)|(rw[ai A];refine mQw Q ?_;cbv)|(refine mQw Q ?_;cbv)|(rw[ai A,ai A];refine mQw g ?_;cbv)|(rw[ai A];refine mQw g ?_;cbv)|(refine mQw g ?_;cbv)|(refine⟨⟨_,rfl,rfl⟩,?_⟩;cbv))
 first|rw[ai A] |skip
 refine ja g (by simp) (λj O=>?_);obtain⟨V,k5⟩:=XQ j O;have N:j S=some (.cells #[.pointer (some ⟨v,0,none⟩)] 176 (0,0)):=by rw[O,aO ag];exact Q
 have Cf:bR uB h' j:=by rw[O];exact bR.set g (by decide)
 clear O XQ g FK;cases ga with
 |false=>
  rw[if_pos rfl]at C;cases C;have f:=H j _ k5 V (λ_=>rfl);refine V.elim (λaz bg bb ay bf ba aw bd aZ au bc aW ar ab aV al an ak aP aH aK F _ _ _ _ J _ _=>?_);clear H;cbv;repeat (first|((try rw[ai A]);(try rw[ai A]);(first|refine mQw N ?_|refine mQw F ?_);cbv)|(refine⟨⟨_,rfl,rfl⟩,?_⟩;cbv))
  have nt:A .not false=true:=by rw[hA.not];rfl
  rw[nt];cbv;exact f
 |true=>
  rw[if_neg (by simp)]at C;have nt:A .not true=false:=by rw[hA.not];rfl
  have KO:=λh' l e=>H h' ⟨d,o,true⟩ (k5.trans (Le.kp l _)) (V.mono l) e;clear H;refine V.elim (λaz bg bb ay bf ba aw bd aZ au bc aW ar ab aV al an ak aP aH aK F _ _ _ _ J _ _=>?_);have ke:=J.len;have fl:A .aI .eql (A .nat ab) 0=decide (x.items.length=0):=by rw[aA A,hA.nat,decide_eq_decide,mQV];omega
  have fo:A .aI .geq o 0=decide (o>=0):=cf A ..;have fn:A .aI .neq o d=decide (o≠d):=aC A ..;have u:∀h' e,Le j h'->r=e->(r=0->Dy=⟨d,o,true⟩)->k (.int .i64 e) h':=λh' e l a hy=>by rw[<-a];exact KO h' l (λh0=>(hy h0).symm)
  clear KO;cbv;repeat (first|((try rw[ai A]);(try rw[ai A]);(first|refine mQw N ?_|refine mQw F ?_);cbv)|(refine⟨⟨_,rfl,rfl⟩,?_⟩;cbv))
  rw[nt];cbv;repeat (first|((try rw[ai A]);(try rw[ai A]);(first|refine mQw N ?_|refine mQw F ?_);cbv)|(refine⟨⟨_,rfl,rfl⟩,?_⟩;cbv))
  rw[fl];by_cases Jf:x.items.length=0
  .rw[if_pos (.inl Jf)]at C;cases C;have f:=u j 3 (Le.refl _) rfl (λh=>by cases h);clear u;rw[mQu Jf];cbv;exact f
  rw[mQv Jf];cbv;repeat (first|((try rw[ai A]);(try rw[ai A]);(first|refine mQw N ?_|refine mQw F ?_);cbv)|(refine⟨⟨_,rfl,rfl⟩,?_⟩;cbv))
  rw[fo];have U:¬(o>=0/\o≠d)->(Dy,r)=(⟨d,o,true⟩,ey (cM cols d) x.items):=λK=>by
   rw[if_neg (by rintro(g|g)<;>contradiction)]at C;exact C
  by_cases ho:o>=0
  .rw[mQu ho];cbv;repeat (first|((try rw[ai A]);(try rw[ai A]);(first|refine mQw N ?_|refine mQw F ?_);cbv)|(refine⟨⟨_,rfl,rfl⟩,?_⟩;cbv))
   rw[fn];by_cases K:o≠d
   .rw[if_pos (.inr ⟨ho,K⟩)]at C;cases C;have f:=u j 3 (Le.refl _) rfl (λh=>by cases h);clear u U;rw[mQu K];cbv;exact f
   have W:=U (λg=>K g.2);clear U C;rw[mQv K];cbv;repeat (first|((try rw[ai A]);(try rw[ai A]);(first|refine mQw N ?_|refine mQw F ?_);cbv)|(refine⟨⟨_,rfl,rfl⟩,?_⟩;cbv))
   obtain⟨R,hR⟩:∃R,ey (cM cols d) x.items=R:=⟨_,rfl⟩;rw[hR]at W;cases W;obtain⟨T,m⟩:∃I:Nat->ad->Prop,∀i h',I i h'=(Le j h'/\ey (cM cols d) (x.items.drop i)=r):=⟨_,λ_ _=>rfl⟩;have jL:T 0 j:=by rw[m];exact⟨Le.refl _,hR⟩
   refine mXV ke T jL (λi h' b=>?_) (λi t h' ib im ic hi uQ b hv=>?_) (λh' b=>?_)
   .rw[m]at b;exact J.mono (b.1.t _)
   .rw[m]at b;obtain⟨l,a⟩:=b;have hd:x.items.drop i=t::x.items.drop (i+1):=by obtain⟨G,w⟩:=mQB.1 uQ;rw[mQJ G,w]
    rw[hd,pP]at a;refine CK (V.mono l) hc (hx.items t (mQz uQ)) hv (λw L=>⟨_,rfl,λh0=>?_,λh0=>?_⟩)
    .replace h0:cM cols d t=0:=h0;rw[if_neg (λg=>g h0)]at a;rw[m];exact⟨l.trans L,a⟩
    replace h0:cM cols d t≠0:=h0;rw[if_pos h0]at a;have f:=u w r (l.trans L) rfl (λ_=>rfl);clear u m h0;have Ep:cM cols d t=r:=a;rw[show cM cols (⟨d,o,true⟩:Qy).group t=r from Ep];cbv;exact f
   rw[m]at b;obtain⟨l,a⟩:=b;rw[mQT (by rw[ke];exact mQD _)]at a;have a:(0:Int)=r:=a;have f:=u h' 0 l a.symm (λ_=>rfl);clear u m;cbv;exact f
  have W:=U (λg=>ho g.1);clear U C;rw[mQv ho];cbv;repeat (first|((try rw[ai A]);(try rw[ai A]);(first|refine mQw N ?_|refine mQw F ?_);cbv)|(refine⟨⟨_,rfl,rfl⟩,?_⟩;cbv))
  obtain⟨R,hR⟩:∃R,ey (cM cols d) x.items=R:=⟨_,rfl⟩;rw[hR]at W;cases W;obtain⟨T,m⟩:∃I:Nat->ad->Prop,∀i h',I i h'=(Le j h'/\ey (cM cols d) (x.items.drop i)=r):=⟨_,λ_ _=>rfl⟩;have jL:T 0 j:=by rw[m];exact⟨Le.refl _,hR⟩
  refine mXV ke T jL (λi h' b=>?_) (λi t h' ib im ic hi uQ b hv=>?_) (λh' b=>?_)
  .rw[m]at b;exact J.mono (b.1.t _)
  .rw[m]at b;obtain⟨l,a⟩:=b;have hd:x.items.drop i=t::x.items.drop (i+1):=by obtain⟨G,w⟩:=mQB.1 uQ;rw[mQJ G,w]
   rw[hd,pP]at a;refine CK (V.mono l) hc (hx.items t (mQz uQ)) hv (λw L=>⟨_,rfl,λh0=>?_,λh0=>?_⟩)
   .replace h0:cM cols d t=0:=h0;rw[if_neg (λg=>g h0)]at a;rw[m];exact⟨l.trans L,a⟩
   replace h0:cM cols d t≠0:=h0;rw[if_pos h0]at a;have f:=u w r (l.trans L) rfl (λ_=>rfl);clear u m h0;have Ep:cM cols d t=r:=a;rw[show cM cols (⟨d,o,true⟩:Qy).group t=r from Ep];cbv;exact f
  rw[m]at b;obtain⟨l,a⟩:=b;rw[mQT (by rw[ke];exact mQD _)]at a;have a:(0:Int)=r:=a;have f:=u h' 0 l a.symm (λ_=>rfl);clear u m;cbv;exact f
theorem fZO{z:Int}(d:aS z m)(n:m<=2^38):
 Ct 239 [.slice none 0 0,.int .i64 z] h (λv h'=>Le h h'/\∃b c',v=.slice b 0 c'/\cF 86 bq h h' (.slice b 0 c') ([]:List cO)):=by
 obtain⟨A,j⟩:=Ar.ex;have h0:aS (A .nat 0) 0:=aS.nat 0;have a:=d.sub (A:=A) (h0.sub (A:=A) h0 (by omega) (by omega)) (by omega) (by omega);simp only[mJC,mXK]at a;refine mQF gQv A Tryz.func239 ?_;cbv;rw[d.Ed (A:=A)];cbv;generalize e:A .aI .gtr (A .bB .sub .i64 z (A .bB .sub .i64 (A .nat 0) (A .nat 0))) 0=u;generalize f:A .bB .sub .i64 z (A .bB .sub .i64 (A .nat 0) (A .nat 0))=w at a e;rw[bO A]at e;cases u with
 |true=>
  have p:=mQL e;have R:0<m:=by have:=a.eq;omega
  cbv;have M:(0:Int)<=A .nat 0/\A .nat 0<=((0:Nat):Int):=by have:=h0.eq;omega
  refine⟨M,?_⟩;cbv;refine⟨yy a (by omega) (by decide),?_⟩;cbv;rw[fh (A:=A) a,fh (A:=A) h0];refine pU (s:=bq) (xs:=([]:List cO)) Sl.nil (by omega) rfl (by decide) (by omega) rfl rfl (λq c i g l k o=>?_);rw[mXj];have J:(0:Int)<=A .nat 0/\A .nat 0<=((c:Nat):Int):=by have:=h0.eq;omega
  cbv;refine⟨J,?_⟩;cbv;rw[fh (A:=A) h0,Da (A:=A)];exact⟨l,_,_,rfl,o.buf g rfl⟩
 |false=>cbv;exact⟨Le.refl _,_,_,rfl,cF.nil⟩
theorem cZa{L:List (List cO)}(q:Sl 84 (mW 86 bq) h (.slice b n c) L)(Q:L.flatten.length<=2^38):
 Ct 176 [.slice b n c] h (λv h'=>Le h h'/\∃o C c',v=.slice o C c'/\cF 86 bq h h' (.slice o C c') L.flatten):=by
 have B:=q.len;obtain⟨lY,jq⟩:=q.bound;refine mQx gXn Tryz.func176 λA hA=>?_;cbv;refine aX.go (G:=Int×Int) (λg=>[(11,.v (.int .i64 g.1)),(3,.v (.int .i64 g.2))]) (λ_=>[])
  (λk g h'=>∃i:Nat,aS g.1 i/\k=n-i/\i<=n/\h'=h/\aS g.2 (L.take i).flatten.length) n (0,0) ⟨?_,?_,?_⟩ ⟨0,⟨rfl⟩,by omega,by omega,rfl,⟨rfl⟩⟩ ?_
 .cbv
 .cbv
 .cbv
 intro k g h' I;cbv;obtain⟨i,a,O,M,rfl,j⟩:=I;refine bh (λd=>?_) (λd=>?_)
 .have P:=a.lt d;clear d;cbv;obtain⟨x,hx⟩:=mQA L i;refine⟨⟨q.aT,a.ix P⟩,?_⟩;cbv;refine q.load hx a.eq (λcs y=>?_);obtain⟨v,rfl,f⟩:=y;obtain⟨s,r,t,rfl⟩:=f.form;have E:=f.len;have l:=zC L (i+1);rw[lH hx,mQy,<-E]at l;have D:=j.add (A:=A) (aS.nat (A:=A) r) (by omega);have N:=lH hx;cbv;rw[D.Ed (A:=A)];cbv;refine⟨n-(i+1),(_,A .bB .add .i64 g.2 (A .nat r)),by omega,by constructor<;>cbv,i+1,a.succ (A:=A),rfl,by omega,rfl,?_⟩
  .rw[N,mQy,<-E];exact D
 have S:=a.ge d;have Z:i=n:=by omega
 rw[mXa (by omega)]at j;obtain⟨z,w⟩:=g;have j:aS w L.flatten.length:=j;cbv;refine(fZO j Q).mono (λv X hR=>?_);obtain⟨r,s,t,rfl,e⟩:=hR;cbv;refine aX.go (G:=Int×Option Addr×Nat×Nat) (λg=>[(27,.v (.int .i64 g.1)),(6,.v (.slice g.2.1 g.2.2.1 g.2.2.2))]) (λ_=>[])
  (λk g p=>∃i:Nat,aS g.1 i/\k=n-i/\i<=n/\Le h' p/\cF 86 bq h' p (.slice g.2.1 g.2.2.1 g.2.2.2) (L.take i).flatten) n (0,s,0,t) ⟨?_,?_,?_⟩ ⟨0,⟨rfl⟩,by omega,by omega,r,e⟩ ?_
 .cbv
 .cbv
 .cbv
 intro k g p I;cbv;obtain⟨i,a,O,M,l,e⟩:=I;obtain⟨z,J,u,K⟩:=g;have a:aS z i:=a;have e:cF 86 bq h' p (.slice J u K) (L.take i).flatten:=e;refine bh (λd=>?_) (λd=>?_)
 .have P:=a.lt d;clear d;cbv;obtain⟨x,hx⟩:=mQA L i;refine⟨⟨q.aT,a.ix P⟩,?_⟩;cbv;refine(q.mono (l.t _)).load hx a.eq (λcs y=>?_);obtain⟨v,rfl,f⟩:=y;obtain⟨V,l2,W,rfl⟩:=f.form;have T:=f.len;have F:u=(L.take i).flatten.length:=e.sl.len;have H:=zC L (i+1);have N:=lH hx;rw[N,mQy,<-T,<-F]at H;cbv;refine e.append f (by decide) rfl (by decide) (by omega) l (λm o c' Y hm R t3 k3 U=>?_);cbv;refine⟨n-(i+1),(_,o,m,c'),by omega,by constructor<;>cbv,i+1,a.succ (A:=A),rfl,by omega,R,?_⟩
  .rw[N];exact U
 have S:=a.ge d;cbv;rw[mXa (by omega)]at e;exact⟨l,_,_,_,rfl,e⟩
structure FT(B h:ad)(ob:Nat)(nb:Option Nat)(l:List Row):Prop where
 out:∃b n c,h ob=some (.cells #[.slice b n c] 34 (0,0))/\Bx 84 aD B h nb (.slice b n c) l
 le:Le B h
 no:B ob=none
theorem FT.mono{d:Option Nat}(q:FT B h o d l)(a:Le h h'):FT B h' o d l:=by obtain⟨b,n,c,g,e⟩:=q.out;exact⟨⟨b,n,c,a _ _ g,e.mono (a.t _)⟩,q.le.trans a,q.no⟩
def vV(x:aJ)(cols:List cK)(a b:Row)(out:List Row):List Row×Int:=match dt x.on cols (a++b)with
 | (on,e)=>if e≠0 then(out,e)else if on=false then(out,0)else match dt x.bV cols (a++b)with
  | (is,e)=>if e≠0 then(out,e)else(if is=true then out++[a++b]else out,0)
theorem xH(x:aJ)(cols:List cK)(a b:Row)(bs out:List Row):gX x cols a (b::bs) out=if(vV x cols a b out).2≠0 then vV x cols a b out else gX x cols a bs (vV x cols a b out).1:=by
 show(match dt x.on cols (a++b)with
  | (on,e)=>if e≠0 then(out,e)else if on=false then gX x cols a bs out else match dt x.bV cols (a++b)with
   | (is,e)=>if e≠0 then(out,e)else gX x cols a bs (if is=true then out++[a++b]else out))=_
 unfold vV;generalize dt x.on cols (a++b)=H;obtain⟨on,e⟩:=H;generalize dt x.bV cols (a++b)=c;obtain⟨is,d⟩:=c;by_cases h0:e=0
 .subst h0;cases on with
  |false=>simp
  |true=>
   by_cases h:d=0
   .simp[h]
   simp[h]
 simp[h0]
theorem dXP(V:FT B h H f l)(hl:l.length<=2^37)(q:oC B qp x cols y)(gb:B qb=some (.cells #[.pointer (some ⟨qp,0,none⟩)] 176 (0,0)))(hx:dr x)(hc:∀c∈cols,Nm c.name)
 {a b:Row} (ha:fS a) (F:fS b) (Gn:a.length+b.length<=2^30) {xp:Nat} {ab:Option Addr} {an ac:Nat} (gx:h xp=some (.cells #[.slice ab an ac] 84 (0,0))) (qa:Sl 86 bq h (.slice ab an ac) a) {bb:Option Addr} {bn bc:Nat} (N:Sl 86 bq h (.slice bb bn bc) b)
  (d:D=vV x cols a b l) 
 (r:∀h' px,FT B h' H px D.1->(px=f\/∃j,px=some j/\h j=none)->Kp (H::f.toList) h h'->k (.int .i64 D.2) h'):
 Ct 175 [.slice bb bn bc,.pointer (some ⟨xp,0,none⟩),.pointer (some ⟨qb,0,none⟩),.pointer (some ⟨H,0,none⟩)] h k:=by
 have l0:=V.le;have gK:=V.no;have P:=l0 _ _ gb;replace d:D=match dt x.on cols (a++b)with
  | (on,e)=>if e≠0 then(l,e)else if on=false then(l,0)else match dt x.bV cols (a++b)with
   | (is,e)=>if e≠0 then(l,e)else(if is=true then l++[a++b]else l,0):=d
 have fZ:fS (a++b):=λv G=>by
  rcases mQE.1 G with G|G
  .exact ha v G
  exact F v G
 refine(q.mono l0).elim (λb5 n5 c5 b6 n6 c6 b7 n7 c7 b8 n8 c8 b9 n9 c9 gW jD gT cb cn cc g q1 q2 q3 q4 q5 q6 q7=>?_);clear q1 q3 q4 q5;refine mQx gXo Tryz.func175 λA hA=>?_;cbv;refine mQw gx ?_;cbv;intro t2 C f1 e1;have l1:Le h C:=by rw[e1];exact Le.set f1
 have qL:Sl 84 (mW 86 bq) C (.slice (some ⟨t2,0,none⟩) 2 2) [a,b]:=by
  refine Sl.fresh (s:=mW 86 bq) (h:=C) (n:=t2) (xs:=[a,b]) (cap:=2) (c:=[.slice ab an ac,.slice bb bn bc]) (by rw[e1];exact ae) ⟨mQD 2,λi x hx=>?_⟩ (by show 2<=_;omega) (mQD 2)
  match i,hx with
  |0,hx=>cases hx;exact⟨_,rfl,qa.mono (l1.t _)⟩
  |1,hx=>cases hx;exact⟨_,rfl,N.mono (l1.t _)⟩
  |i+2,hx=>simp at hx
 clear e1;cbv;refine(cZa qL (by simp;omega)).mono (λv h2 hR=>?_);obtain⟨l2,rb,rn,rc,G,W⟩:=hR;subst G;rw[show [a,b].flatten=a++b by simp]at W;have Z:=l1.trans l2;have yY:=Z _ _ P;have g2:=Z _ _ g;have M:=V.mono Z;clear qL qa N gx;cbv;repeat (first|((try rw[ai A]);(try rw[ai A]);(first|refine mQw yY ?_|refine mQw g2 ?_);cbv)|(refine⟨⟨_,rfl,rfl⟩,?_⟩;cbv))
 refine MN hx.on hc fZ (q2.mono (Z.t _)) (q7.mono (Z.t _)) W.sl (λh3 t e U ht=>?_);rw[<-ht]at d;replace d:D=if e≠0 then(l,e)else if t=false then(l,0)else match dt x.bV cols (a++b)with
  | (is,e)=>if e≠0 then(l,e)else(if is=true then l++[a++b]else l,0):=d
 have fe:A .aI .neq e 0=decide (e≠0):=aC A ..;have AV:A .not t= !t:=by rw[hA.not]
 have L:=Z.trans U;have J:=M.mono U;by_cases h0:e≠0
 .rw[if_pos h0]at d;subst d;have w:=r h3 f J (.inl rfl) (L.kp _);clear r;cbv;rw[fe,mQu h0];cbv;exact w
 rw[if_neg h0]at d;have e0:e=0:=mXc.1 h0;subst e0;cases t with
 |false=>rw[if_pos rfl]at d;subst d;have w:=r h3 f J (.inl rfl) (L.kp _);clear r;cbv;rw[fe,mQv h0];cbv;rw[AV];cbv;exact w
 |true=>
  rw[if_neg (by simp)]at d;have Zh:=L _ _ P;have g3:=L _ _ g;cbv;rw[fe,mQv h0];cbv;rw[AV];cbv;repeat (first|((try rw[ai A]);(try rw[ai A]);(first|refine mQw Zh ?_|refine mQw g3 ?_);cbv)|(refine⟨⟨_,rfl,rfl⟩,?_⟩;cbv))
  refine MN hx.bV hc fZ (q6.mono (L.t _)) (q7.mono (L.t _)) (W.sl.mono (U.t _)) (λR u e l4 hu=>?_);rw[<-hu]at d;replace d:D=if e≠0 then(l,e)else(if u=true then l++[a++b]else l,0):=d
  have Y:=L.trans l4;have S:=J.mono l4;have Q:A .aI .eql e 0=decide (e=0):=aA A ..;cases u with
  |false=>
   have d:D=(l,e):=by
    rw[d];by_cases h0:e≠0
    .rw[if_pos h0]
    rw[if_neg h0,if_neg (by simp),mXc.1 h0]
   subst d;have w:=r R f S (.inl rfl) (Y.kp _);clear r;cbv;exact w
  |true=>
   by_cases C:e=0
   .subst C;rw[if_neg (λg=>g rfl),if_pos rfl]at d;subst d;obtain⟨b1,n1,c1,go,qx⟩:=S.out;have lB:=S.le;have lG:n1+1<=2^39:=by have:=qx.sl.len;omega
    have aj:=W.sl.mono ((U.trans l4).t _);have X:∀E j,(f=some j\/E j=none)->Le R E->(some j=f\/∃i,some j=some i/\h i=none):=λE j p z=>by
     rcases p with p|p
     .exact .inl p.symm
     refine .inr ⟨j,rfl,?_⟩;cases hh:h j with
     |none=>rfl
     |some o=>rw[z _ _ (Y _ _ hh)]at p;cases p
    clear V M J S;cbv;rw[Q];cbv;refine mQw go ?_;cbv;intro t5 E f5 e5;have z:Le R E:=by rw[e5];exact Le.set f5
    have v5:Sl 84 aD E (.slice (some ⟨t5,0,none⟩) 1 1) [a++b]:=bA (s:=aD) ((congrFun e5 t5).trans ae) ⟨_,rfl,aj.mono (z.t _)⟩;have ak:=z _ _ go;have ag:∀j,f=some j->j≠H:=λj p e=>by
     subst p;obtain⟨c,fr,gg⟩:=qx.has;rw[e,go]at gg;cases gg
    clear e5;cbv;refine(qx.mono (z.t _)).app v5 (by decide) rfl (by decide) lG (lB.trans z) (λj m c' h6 l6 I SN p al=>?_);have O:=I _ _ ak (λT=>by
     cases f with
     |none=>cases T
     |some i=>
      have:H=i:=by simpa using T
      exact ag i rfl this.symm)
    have X:=X E j p z;cbv;refine ja O (by simp) (λh7 K=>?_);have w:=r h7 (some j) ⟨⟨_,m,c',(by rw[K];exact ae),al.mono (by rw[K];exact bR.set O (by decide))⟩,(λb o F=>by rw[K,aO (λe=>by rw[e,gK]at F;cases F)];exact l6 _ _ F),gK⟩ X
     (λb o F hn=>by
      have n1:b≠H:=λe=>hn (by rw[e];exact mXn);rw[K,aO n1];exact I _ _ (z _ _ (Y _ _ F)) (λT=>hn (mXm _ T)))
    clear r K;cbv;exact w
   rw[if_pos C]at d;subst d;have w:=r R f S (.inl rfl) (Y.kp _);clear r;cbv;rw[Q,mQv C];cbv;exact w
def Fr(h:ad)(nb px:Option Nat):Prop:=∀j o,px=some j->h j=some o->nb=some j
theorem Fr.refl{n:Option Nat}:Fr h n n:=λj o e _=>e
theorem Fr.of{n p:Option Nat}(a:p=n\/∃j,p=some j/\h j=none):Fr h n p:=λj o e b=>by
 rcases a with a| ⟨i,c,d⟩
 .rw[<-a];exact e
 rw[c]at e;cases e;rw[d]at b;cases b
theorem Fr.trans{d:ad}{q:ad}{a p D:Option Nat}{r:List Row}(T:Fr d a p)(J:Kp (e::a.toList) d h')(s:∃b n c,h' e=some (.cells #[.slice b n c] 34 (0,0))/\Bx 84 aD B h' p (.slice b n c) r)
 (v:∃b n c,d e=some (.cells #[.slice b n c] 34 (0,0))/\Bx 84 aD q d a (.slice b n c) l) (Y:Fr h' p D):Fr d a D:=λj o f k=>by
 by_cases h:j∈e::a.toList
 .rcases mQI.1 h with h|h
  .obtain⟨b,n,c,g,t⟩:=s;have:=Y j _ f (by rw[h];exact g);subst this;obtain⟨u,fr,m⟩:=t.has;rw[h,g]at m;cases m
  cases a with
  |none=>cases h
  |some i=>
   have:j=i:=by simpa using h
   rw[this]
 exact T j o (Y j _ f (J _ _ k h)) k
theorem FT.fQB(q:FT B h o f l)(k:Kp (o::f.toList) h h'){tys:List Nat}(p:34∉tys)(r:84∉tys):bR tys h h':=λb c e fr m d=>by
 obtain⟨u,n,t,g,s⟩:=q.out;refine k b _ d (λa=>?_);rcases mQI.1 a with a|a
 .rw[a,g]at d;cases d;exact p m
 cases f with
 |none=>cases a
 |some j=>
  have:b=j:=by simpa using a
  subst this;obtain⟨c',N,i⟩:=s.has;rw[i]at d;cases d;exact r m
theorem Kn{a b:Row}{out:List Row}:(vV x cols a b out).1.length<=out.length+1:=by
 unfold vV;generalize dt x.on cols (a++b)=H;obtain⟨on,e⟩:=H;generalize dt x.bV cols (a++b)=c;obtain⟨is,d⟩:=c;by_cases h0:e=0
 .subst h0;cases on with
  |false=>simp
  |true=>
   by_cases h:d=0
   .cases is<;>simp[h]
   simp[h]
 simp[h0]
theorem dXQ(qo:FT B h r f l)(q:oC B qp x cols y)(gb:B qb=some (.cells #[.pointer (some ⟨qp,0,none⟩)] 176 (0,0)))(hx:dr x)(hc:∀c∈cols,Nm c.name)
 {a:Row} (ha:fS a) {bs:List Row} (hb:∀b∈bs,fS b/\a.length+b.length<=2^30) (hl:l.length+bs.length<=2^37) {G:Option Addr} {L:Nat} (qa:Sl 86 bq h (.slice G L H) a)
 {tb:Nat} {v1 v2 v3 v4:Value}   (gt:B tb=some (.cells #[v1,v2,v3,v4,.slice rb rn rc] 51 (0,0))) (qr:Sl 84 aD B (.slice rb rn rc) bs)
  (hD:D=gX x cols a bs l) 
 (U:∀h' p,FT B h' r p D.1->Fr h f p->Kp (r::f.toList) h h'->k (.int .i64 D.2) h'):
 Ct 174 [.slice G L H,.pointer (some ⟨tb,0,none⟩),.pointer (some ⟨qb,0,none⟩),.pointer (some ⟨r,0,none⟩)] h k:=by
 refine mQx cZW Tryz.func174 λA hA=>?_;cbv;intro w t O N;have R:Le h t:=by rw[N];exact Le.set O
 have P:t w=some (.cells #[.slice G L H] 84 (0,0)):=by rw[N];exact ae
 have X:=qo.mono R;have aj:w≠r:=λe=>by
  obtain⟨sb,n,cc,g,-⟩:=qo.out;rw[e,g]at O;cases O
 have ag:f≠some w:=λe=>by
  obtain⟨sb,n,cc,g,au⟩:=qo.out;subst e;obtain⟨c,fr,gg⟩:=au.has;rw[gg]at O;cases O
 have Qr:=X.le _ _ gt;clear N;obtain⟨I,Y⟩:∃I:Nat->ad->Prop,∀i h',I i h'=∃p C,FT B h' r p C/\C.length<=l.length+i/\Fr t f p/\Kp (r::f.toList) t h'/\h' w=some (.cells #[.slice G L H] 84 (0,0))/\Sl 86 bq h' (.slice G L H) a/\gX x cols a (bs.drop i) C=D:=⟨_,λ_ _=>rfl⟩;have hJ:I 0 t:=by rw[Y];exact⟨f,l,X,mQD _,Fr.refl,Kp.refl _ _,P,qa.mono (R.t _),hD.symm⟩
 have TM:∀p,Fr t f p->Fr h f p:=λp hh j o N e2=>hh j o N (R _ _ e2);cbv;rw[ai A];refine mQw Qr ?_;cbv;refine mXU qr.len I hJ (λi h' u=>?_) (λi b h' b1 n1 c1 hi Q u hv=>?_) (λh' u=>?_)
 .rw[Y]at u;obtain⟨p,C,v,-⟩:=u;exact qr.mono (v.le.t _)
 .rw[Y]at u;obtain⟨p,C,v,tW,T,J,Z,K,d⟩:=u;have hd:bs.drop i=b::bs.drop (i+1):=by obtain⟨t,S⟩:=mQB.1 Q;rw[mQJ t,S]
  have M:=hb b (mQz Q);have ke:i<bs.length:=(mQB.1 Q).1;rw[hd,xH]at d;have al:p≠some w:=λe=>ag (T w _ e P);refine dXP v (by omega) q gb hx hc ha M.1 M.2 Z K hv rfl (λS V q2 mY z=>⟨_,rfl,λh0=>?_,λh0=>?_⟩)
  .rw[if_neg (λg=>g h0)]at d;have ar:w∉r::p.toList:=λm=>by
    rcases mQI.1 m with m|m
    .exact aj m
    cases p with
    |none=>cases m
    |some j=>
     have:w=j:=by simpa using m
     exact al (by rw[this])
   rw[Y];refine⟨V,_,q2,mXT Kn (by omega),?_,?_,z _ _ Z ar,K.mono (v.fQB z (by decide) (by decide)),d⟩
   .exact Fr.trans T J v.out X.out (Fr.of mY)
   exact λE o F m=>z _ _ (J _ _ F m) (λs=>by
    rcases mQI.1 s with s|s
    .exact m (by rw[s];exact mXn)
    cases p with
    |none=>cases s
    |some j=>
     have:E=j:=by simpa using s
     subst this;have:=T E o rfl F;exact m (mXm _ (by rw[this];simp)))
  rw[if_pos h0]at d;have q3:=q2;rw[d]at q3;have Ic:=TM V (Fr.trans T J v.out X.out (Fr.of mY));have ak:Kp (r::f.toList) h S:=λE o F m=>by
   have lY:=R _ _ F;refine z _ _ (J _ _ lY m) (λs=>?_);rcases mQI.1 s with s|s
   .exact m (by rw[s];exact mXn)
   cases p with
   |none=>cases s
   |some j=>
    have:E=j:=by simpa using s
    subst this;have:=T E o rfl lY;exact m (mXm _ (by rw[this];simp))
  have W:=U S V q3 Ic ak;rw[d];clear U Y hJ;generalize D.2=De at *;cbv;exact W
 rw[Y]at u;obtain⟨p,C,v,tW,T,J,Z,K,d⟩:=u;rw[mQT (by rw[qr.len];exact mQD _)]at d;have d:(C,0)=D:=d;subst d;have W:=U h' p v (TM p T) (λE o F m=>J _ _ (R _ _ F) m);clear U Y hJ;cbv;exact W
theorem xI(x:aJ)(cols:List cK)(bs:List Row)(a:Row)(l out:List Row):cT x cols bs (a::l) out=match gX x cols a bs out with
 | (out,e)=>if e≠0 then(out,e)else cT x cols bs l out:=rfl
theorem AQ{x:aJ}{cols:List cK}{a:Row}:∀ {bs out:List Row},(gX x cols a bs out).1.length<=out.length+bs.length
 | [],out=>mQD _
 |b::bs,out=>by
  rw[xH];have h:=Kn (x:=x) (cols:=cols) (a:=a) (b:=b) (out:=out);by_cases c:(vV x cols a b out).2≠0
  .rw[if_pos c];simp only[mQM];omega
  rw[if_neg c];have:=AQ (x:=x) (cols:=cols) (a:=a) (bs:=bs) (out:=(vV x cols a b out).1);simp only[mQM];omega
theorem cJq{U:Nat}(q:oC h U x cols y)(hx:dr x)(hc:∀c∈cols,Nm c.name){as_ bs:List Row}(ha:∀a∈as_,fS a/\a.length<=2^20)(z:∀b∈bs,fS b/\b.length<=2^20)(ab:as_.length<=2^10)(Ap:bs.length<=2^10)
 {u1 u2 u3 u4 v1 v2 v3 v4:Value} (hu:oS [u1,u2,u3,u4]=true) (hv:oS [v1,v2,v3,v4]=true)   (V:Sl 84 aD h (.slice rb rn rc) as_) {W:Option Addr} {sn sc:Nat} (qs:Sl 84 aD h (.slice W sn sc) bs)
  (R:∀h' b n c f,Le h h'->(∀j,f=some j->h j=none)->Bx 84 aD h h' f (.slice b n c) (cT x cols bs as_ []).1->k (.tuple #[.slice b n c,.int .i64 (cT x cols bs as_ []).2]) h'):
 Ct 86 [.pointer (some ⟨U,0,none⟩),.agg #[u1,u2,u3,u4,.slice rb rn rc],.agg #[v1,v2,v3,v4,.slice W sn sc]] h k:=by
 obtain⟨D,hD⟩:∃D,cT x cols bs as_ []=D:=⟨_,rfl⟩;rw[hD]at R;refine mQx jKa Tryz.func86 λA hA=>?_;cbv;intro qb s f1 w;have l1:Le h s:=by rw[w];exact Le.set f1
 have gb:s qb=some (.cells #[.pointer (some ⟨U,0,none⟩)] 176 (0,0)):=by rw[w];exact ae
 clear w;cbv;intro tb m f2 F;have l2:Le s m:=by rw[F];exact Le.set f2
 have gt:m tb=some (.cells #[v1,v2,v3,v4,.slice W sn sc] 51 (0,0)):=by rw[F];exact ae
 clear F;cbv;intro t p f3 r;have l3:Le m p:=by rw[r];exact Le.set f3
 have go:p t=some (.cells #[.slice none 0 0] 34 (0,0)):=by rw[r];exact ae
 clear r;have jZ:=l1.trans l2;have Q:Le m (Sx.eF p t):=λb o z=>by
  rw[Sx.cY (λe=>by rw[e,f3]at z;cases z)];exact l3 _ _ z
 obtain⟨B,H⟩:∃B,B=Sx.eF p t:=⟨_,rfl⟩;rw[<-H]at Q;have N:Le B p:=by rw[H];exact Sx.fY p t
 have L:B t=none:=by rw[H];exact Sx.dP p t
 have M:Le h B:=jZ.trans Q;obtain⟨I,Y⟩:∃I:Nat->ad->Prop,∀i h',I i h'=∃f l,FT B h' t f l/\l.length<=i*bs.length/\cT x cols bs (as_.drop i) l=D:=⟨_,λ_ _=>rfl⟩;have O:I 0 p:=by rw[Y];exact⟨none,[],⟨⟨_,_,_,go,.inl ⟨rfl,rfl,rfl⟩⟩,N,L⟩,by simp,hD⟩
 have fin:∀h' f l e,FT B h' t f l->(l,e)=D->∃b n c,h' t=some (.cells #[.slice b n c] 34 (0,0))/\k (.tuple #[.slice b n c,.int .i64 e]) h':=λh' f l e v d=>by
  obtain⟨b,n,c,g,Z⟩:=v.out;subst d;refine⟨b,n,c,g,R h' b n c f (M.trans v.le) (λj hj=>?_) ?_⟩
  .subst hj;rcases Z with⟨s,-⟩|⟨S,cap,w,-,r,-⟩
   .cases s
   cases w;cases P:h j with
   |none=>rfl
   |some o=>rw[M _ _ P]at r;cases r
  rcases Z with⟨s,m,p⟩|⟨S,cap,w,F,r,o⟩
  .exact .inl ⟨s,m,p⟩
  exact .inr ⟨S,cap,w,F,(by
   cases P:h S with
   |none=>rfl
   |some o=>rw[M _ _ P]at r;cases r),o⟩
 clear H R;cbv;refine mXU V.len I O (λi h' u=>?_) (λi a h' b1 n1 c1 hi X u T=>?_) (λh' u=>?_)
 .rw[Y]at u;obtain⟨f,l,v,-⟩:=u;exact V.mono ((M.trans v.le).t _)
 .rw[Y]at u;obtain⟨f,l,v,tW,d⟩:=u;have hd:as_.drop i=a::as_.drop (i+1):=by obtain⟨s,m⟩:=mQB.1 X;rw[mQJ s,m]
  have G:=ha a (mQz X);have ke:i<as_.length:=(mQB.1 X).1;rw[hd,xI]at d;have ag:i*bs.length<=2^20:=by have:i*bs.length<=2^10*2^10:=mJi (by omega) Ap;omega
  refine dXQ v (q.mono M) (Q _ _ (l2 _ _ gb)) hx hc G.1 (λb C=>⟨(z b C).1,by have:=(z b C).2;have:=G.2;omega⟩) (by omega) T (Q _ _ gt) (qs.mono (M.t _)) rfl (λm Dz q2 _ _=>⟨_,rfl,λh0=>?_,λh0=>?_⟩)
  .have K:=AQ (x:=x) (cols:=cols) (a:=a) (bs:=bs) (out:=l);generalize gX x cols a bs l=E at *;obtain⟨out,e⟩:=E;replace d:(if e≠0 then(out,e)else cT x cols bs (as_.drop (i+1)) out)=D:=d;rw[if_neg (λg=>g h0)]at d;rw[Y];refine⟨Dz,out,q2,?_,d⟩;have:(i+1)*bs.length=i*bs.length+bs.length:=mXG _ _;have K:out.length<=l.length+bs.length:=K;omega
  generalize gX x cols a bs l=E at *;obtain⟨out,e⟩:=E;replace d:(if e≠0 then(out,e)else cT x cols bs (as_.drop (i+1)) out)=D:=d;rw[if_pos h0]at d;obtain⟨b,n,c,g,J⟩:=fin m Dz out e q2 d;clear fin Y O;cbv;refine mQw g ?_;cbv;exact J
 rw[Y]at u;obtain⟨f,l,v,tW,d⟩:=u;rw[mQT (by rw[V.len];exact mQD _)]at d;have d:(l,0)=D:=d;obtain⟨b,n,c,g,J⟩:=fin h' f l 0 v d;clear fin Y O;cbv;refine mQw g ?_;cbv;exact J
theorem Gp{xs:List Row}{len cap:Nat}(q:Sl 84 aD h (.slice b len cap) xs):
 Ct 181 [.slice b len cap] h (λv h'=>Le h h'/\∃d j,v=.slice d len j/\cF 84 aD h h' (.slice d len j) xs):=by
 refine mQx gXj Tryz.func181 λA m=>?_;cbv;refine bh (λa=>?_) (λa=>?_)
 .rw[m.HO]at a;cbv;have n:b=none:=by cases b<;>simp at a |-
  subst n;have o:len=0:=by
   rcases mXI len with e|e
   .exact e
   have:=q.aT e;cases this
  have:=q.len;have hx:xs=[]:=mXd (by omega);subst hx o;exact⟨Le.refl _,none,0,rfl,cF.nil⟩
 cbv;intro u k r W;have l:Le h k:=by rw[W];exact Le.set r
 cbv;refine dz (q.mono (l.t _)) (by decide) rfl (by decide) (λp=>?_) (λw c t f s g i=>?_)
 .cbv;have:=q.len;have hx:xs=[]:=mXd (by omega);subst hx p;exact⟨l,_,_,rfl,cF.nil⟩
 cbv;exact⟨l.trans g,_,_,rfl,i.buf (l.none f) q.len⟩
theorem Sl.Vp{s:Sh a}{c':Nat}{xs:List a}(q:Sl e s h (.slice b n c) xs)(i:n<=c'):Sl e s h (.slice b n c') xs:=by obtain⟨j,cap,d,k,f,g⟩:=q.out;cases d;exact⟨b,c',rfl,i,f,g⟩
theorem Kv{v:Int}(h:¬v<0):min v (n:Int)=((min v.toNat n:Nat):Int):=by omega
theorem Pp{xs:List (Row)}(q:Sl 84 aD h (.slice b n c) xs)(v:Int)(a:∀e j c',Sl 84 aD h (.slice e j c') (bL xs v)->k (.slice e j c') h):
 Ct 180 [.slice b n c,.int .i64 v] h k:=by
 obtain⟨A,g⟩:=Ar.ex;have o:=q.len;have p:=q.bound;have l:A .aI .lss v 0=decide (v<0):=bm A ..;obtain⟨m,i⟩:∃m,A .pM v (A .nat n)=m:=⟨_,rfl⟩;have s:m=min v (n:Int):=by rw[<-i,g.pM,g.nat];rfl
 refine mQF gXk A Tryz.func180 ?_;cbv;rw[l];by_cases h0:v<0
 .have P:bL xs v=xs:=by unfold bL;rw[if_pos h0]
  rw[P]at a;have f:=a b n c q;clear a;rw[mQu h0];cbv;exact f
 have P:bL xs v=xs.take v.toNat:=by unfold bL;rw[if_neg h0]
 have F:aS m (min v.toNat n):=⟨s.trans (Kv h0)⟩;have t:xs.take v.toNat=xs.take (min v.toNat n):=by
  rw[o];rcases mKg v.toNat xs.length with d|d
  .rw[mZs d]
  rw[mKf d,mXa d,mXa (mQD _)]
 rw[P,t]at a;have J:0<=m/\m<=(c:Int):=by have:=F.eq;omega
 have Z:=fh (A:=A) F;rw[mQv h0];cbv;rw[i];cbv;refine⟨J,?_⟩;have r:m-0=((min v.toNat n:Nat):Int):=by rw[F.eq];omega
 have f:=λc' w=>a _ _ _ (Sl.Vp (q.sU (A:=A) (z:=A .nat c) (mZZ v.toNat n) rfl rfl) (c':=c') w);clear a;cbv;rw[Z];exact f c (by omega)
theorem Pq{xs:List (List Row)}(q:Sl 34 (mW 84 aD) h (.slice b n c) xs)(v:Int)(a:∀e j c',Sl 34 (mW 84 aD) h (.slice e j c') (bL xs v)->k (.slice e j c') h):
 Ct 182 [.slice b n c,.int .i64 v] h k:=by
 obtain⟨A,g⟩:=Ar.ex;have o:=q.len;have p:=q.bound;have l:A .aI .lss v 0=decide (v<0):=bm A ..;obtain⟨m,i⟩:∃m,A .pM v (A .nat n)=m:=⟨_,rfl⟩;have s:m=min v (n:Int):=by rw[<-i,g.pM,g.nat];rfl
 refine mQF gXi A Tryz.func182 ?_;cbv;rw[l];by_cases h0:v<0
 .have P:bL xs v=xs:=by unfold bL;rw[if_pos h0]
  rw[P]at a;have f:=a b n c q;clear a;rw[mQu h0];cbv;exact f
 have P:bL xs v=xs.take v.toNat:=by unfold bL;rw[if_neg h0]
 have F:aS m (min v.toNat n):=⟨s.trans (Kv h0)⟩;have t:xs.take v.toNat=xs.take (min v.toNat n):=by
  rw[o];rcases mKg v.toNat xs.length with d|d
  .rw[mZs d]
  rw[mKf d,mXa d,mXa (mQD _)]
 rw[P,t]at a;have J:0<=m/\m<=(c:Int):=by have:=F.eq;omega
 have Z:=fh (A:=A) F;rw[mQv h0];cbv;rw[i];cbv;refine⟨J,?_⟩;have r:m-0=((min v.toNat n:Nat):Int):=by rw[F.eq];omega
 have f:=λc' w=>a _ _ _ (Sl.Vp (q.sU (A:=A) (z:=A .nat c) (mZZ v.toNat n) rfl rfl) (c':=c') w);clear a;cbv;rw[Z];exact f c (by omega)
theorem Wx(q:oC h p x cols y)(hg:y.group<0){z:Option Addr}{C B:Nat}(U:Sl 84 aD h (.slice z C B) rows)
  (t:∀h' b,Le h h'->Sl 34 (mW 84 aD) h' (.slice (some ⟨b,0,none⟩) 1 1) [rows]->k (.slice (some ⟨b,0,none⟩) 1 1) h'):
 Ct 183 [.pointer (some ⟨p,0,none⟩),.slice z C B] h k:=by
 obtain⟨A,hA⟩:=Ar.ex;refine q.elim (λW n5 c5 X n6 c6 Y n7 c7 b8 n8 c8 b9 n9 c9 gW jD gT cb cn cc g L M N O P R S=>?_);clear L M N O P R S;have G:A .aI .lss y.group 0=true:=by rw[bm A];exact mQu (by omega)
 refine mQF gXh A Tryz.func183 ?_;cbv;intro T c E d;have u:Le h c:=by rw[d];exact Le.set E
 have I:c T=some (.cells #[.pointer (some ⟨p,0,none⟩)] 176 (0,0)):=by rw[d];exact ae
 have H:=u _ _ g;clear d;cbv;repeat (first|((try rw[ai A]);(try rw[ai A]);(first|refine mQw I ?_|refine mQw H ?_);cbv)|(refine⟨⟨_,rfl,rfl⟩,?_⟩;cbv))
 intro w Q r a;have J:Le c Q:=by rw[a];exact Le.set r
 have i:Q w=some (.cells #[.int .i64 0] 3 (0,0)):=by rw[a];exact ae
 clear a;cbv;refine ja i (by simp) (λj a=>?_);have K:Le c j:=λb o m=>by rw[a,aO (λe=>by rw[e,r]at m;cases m)];exact J _ _ m
 have go:j w=some (.cells #[.int .i64 y.group] 3 (0,0)):=by rw[a];exact ae
 have Z:=u.trans K;clear a;cbv;refine mQw go ?_;cbv;rw[G];cbv;intro n l F f;have v:Le j l:=by rw[f];exact Le.set F
 have V:Sl 34 (mW 84 aD) l (.slice (some ⟨n,0,none⟩) 1 1) [rows]:=bA (s:=(mW 84 aD)) ((congrFun f n).trans ae) ⟨_,rfl,U.mono ((Z.trans v).t _)⟩;have D:=t l n (Z.trans v) V;clear f t;cbv;exact D
def JI(n:Nat):cO:=⟨2,n,b0⟩
theorem UF{L:Value}{M:Option Addr}{O:Nat}{n:Option Addr}{q:Nat}
  (w:∀h' N,Le h h'->N=(r:Int)->k (.tuple #[.agg #[.int .i64 2,.int .i64 N,.string b0],.int .i64 0]) h'):
 Ct 185 [L,.agg #[.int .i64 1,.slice n q p],.slice M r O] h k:=by
 obtain⟨A,G⟩:=Ar.ex;obtain⟨N,v⟩:∃N,A .nat r=N:=⟨_,rfl⟩;have l:N=(r:Int):=by rw[<-v,G.nat];rfl
 refine mQF gXg A Tryz.func185 ?_;cbv;intro P t C m;have I:Le h t:=by rw[m];exact Le.set C
 clear m;cbv;intro H a D c;have J:Le t a:=by rw[c];exact Le.set D
 have E:a H=some (.cells #[.int .i64 1,.slice n q p] 267 (0,0)):=by rw[c];exact ae
 clear c;cbv;intro y u s d;have x:Le a u:=by rw[d];exact Le.set s
 have F:u y=some (.cells #[.int .i64 0,.int .i64 0,.string ⟨#[]⟩] 86 (0,0)):=by rw[d];exact ae
 have Z:=x _ _ E;clear d;cbv;repeat (first|((try rw[ai A]);(try rw[ai A]);refine mQw Z ?_;cbv)|(refine⟨⟨_,rfl,rfl⟩,?_⟩;cbv))
 have g:A .aI .eql 1 1=true:=by rw[aA A];rfl
 rw[g];cbv;rw[v];refine ja F (by simp) (λi f=>?_);have K:Le a i:=λb o j=>by rw[f,aO (λe=>by rw[e,s]at j;cases j)];exact x _ _ j
 have z:i y=some (.cells #[.int .i64 2,.int .i64 N,.string b0] 86 (0,0)):=by rw[f];exact ae
 clear f;have B:=w i N ((I.trans J).trans K) l;clear w;cbv;repeat (first|((try rw[ai A]);(try rw[ai A]);refine mQw z ?_;cbv)|(refine⟨⟨_,rfl,rfl⟩,?_⟩;cbv))
 exact B
theorem cXx{l:Row}(q:Nx B h o l)(hl:l.length<=2^30){Z y u:Nat}(P:B y=some (.cells #[.pointer (some ⟨Z,0,none⟩)] 176 (0,0)))(O:B u=some (.cells #[.slice rb r rc] 34 (0,0))){I:Option Addr}{L J:Nat}
  (w:∀h',Nx B h' o (l++[JI r])->k (.int .i64 0) h'):
 Ct 184 [.agg #[.int .i64 1,.slice I L J],.pointer (some ⟨y,0,none⟩),.pointer (some ⟨u,0,none⟩),.pointer (some ⟨o,0,none⟩)] h k:=by
 have j:=q.le;have t:=q.no;obtain⟨b,n,c,go,a⟩:=q.out;have JD:=a.sl.len;have Q:=j _ _ P;have g:=j _ _ O;refine mQx JL Tryz.func184 λA hA=>?_;cbv;repeat (first|((try rw[ai A]);(try rw[ai A]);(first|refine mQw Q ?_|refine mQw g ?_);cbv)|(refine⟨⟨_,rfl,rfl⟩,?_⟩;cbv))
 refine UF (λR N m V=>?_);have K:=m _ _ go;cbv;repeat (first|((try rw[ai A]);(try rw[ai A]);refine mQw K ?_;cbv)|(refine⟨⟨_,rfl,rfl⟩,?_⟩;cbv))
 intro x v M f;have p:Le R v:=by rw[f];exact Le.set M
 have D:Sl 86 bq v (.slice (some ⟨x,0,none⟩) 1 1) [JI r]:=bA (s:=bq) ((congrFun f x).trans ae) (by rw[V];rfl);have i:=p _ _ K;clear f;cbv;refine(a.mono ((m.trans p).t _)).append D (by decide) rfl (by decide) (by omega) (j.trans (m.trans p)) (λY F G S H X C W ry=>?_);have U:S o=some (.cells #[.slice b n c] 84 (0,0)):=C [84] (by decide) _ _ _ _ (mQH.2 rfl) i;clear C W D;cbv;refine ja U (by simp) (λT d=>?_);have E:=w T ⟨⟨F,Y,G,by rw[d];exact ae,ry.mono (by rw[d];exact bR.set U (by decide))⟩,λb' o' z=>by rw[d,aO (λe=>by rw[e,t]at z;cases z)];exact X _ _ z,t⟩;clear w d;cbv;exact E
theorem Lu{a:Int}{g:List Row}:∀ {is:List dO} {r:Row},(∀i∈is,i.fn=1)->ki cols a g is r=(r++List.replicate is.length (JI g.length),0)
 | [],r,_=>by show(r,0)=_;simp
 |i::is,r,h=>by
  have b:yA cols a i g=(JI g.length,0):=by unfold yA;rw[if_pos (h i mXn)];rfl
  show(match yA cols a i g with
   | (v,e)=>if e≠0 then([],e)else ki cols a g is (r++[v]))=_
  rw[b];show(if(0:Int)≠0 then([],0)else ki cols a g is (r++[JI g.length]))=_;rw[if_neg (λg=>g rfl),Lu (λj c=>h j (mXm _ c))];simp[mJS]
theorem cXy(q:oC h qp x cols y)(hx:dr x)(hg:y.group<0)(DF:∀i∈x.items,i.fn=1)(qr:Sl 84 aD h (.slice rb rn rc) rows)
  (V:∀h' b n c,Le h h'->Sl 84 aD h' (.slice b n c) (dw x cols y.group rows).1->k (.tuple #[.slice b n c,.int .i64 (dw x cols y.group rows).2]) h'):
 Ct 88 [.pointer (some ⟨qp,0,none⟩),.slice rb rn rc] h k:=by
 have hP:dw x cols y.group rows=gJ x cols y.group (bL [rows] x.eG) []:=by unfold dw gV;rw[if_pos hg]
 rw[hP]at V;obtain⟨D,a⟩:∃D,gJ x cols y.group (bL [rows] x.eG) []=D:=⟨_,rfl⟩;rw[a]at V;refine q.elim (λF n5 H b6 n6 c6 b7 n7 c7 b8 n8 c8 b9 n9 c9 gW jD gT cb cn cc g q1 q2 q3 q4 q5 q6 q7=>?_);clear q1 q2 q3 q4 q6 q7;refine mQx hQa Tryz.func88 λA hA=>?_;cbv;intro qb h1 f1 e1;have l1:Le h h1:=by rw[e1];exact Le.set f1
 have gb:h1 qb=some (.cells #[.pointer (some ⟨qp,0,none⟩)] 176 (0,0)):=by rw[e1];exact ae
 have g1:=l1 _ _ g;have q1:=q.mono l1;clear e1;cbv;repeat (first|((try rw[ai A]);(try rw[ai A]);(first|refine mQw gb ?_|refine mQw g1 ?_);cbv)|(refine⟨⟨_,rfl,rfl⟩,?_⟩;cbv))
 refine Wx q1 hg (qr.mono (l1.t _)) (λp bg l2 qg=>?_);have yY:=l2 _ _ gb;have g2:=l2 _ _ g1;cbv;repeat (first|((try rw[ai A]);(try rw[ai A]);(first|refine mQw yY ?_|refine mQw g2 ?_);cbv)|(refine⟨⟨_,rfl,rfl⟩,?_⟩;cbv))
 refine Pq qg x.eG (λlb l lc qm=>?_);obtain⟨M,hM⟩:∃M,bL [rows] x.eG=M:=⟨_,rfl⟩;rw[hM]at qm a;have aW:M.length<=1:=by
  rw[<-hM];unfold bL;split
  .exact mQD _
  rw[mQK];exact mZZ _ _
 have tG:=qm.len;have jZ:=l1.trans l2;replace q5:=q5.mono (jZ.t _);have FG:=q5.len;have ke:=hx.aJU;obtain⟨I2,N⟩:∃I:Nat->(Int×Option Addr×Nat×Nat)->ad->Prop,∀m g h',I m g h'=∃i out,aS g.1 i/\i<=l/\m=l-i/\Le p h'/\out.length=i/\cF 84 aD p h' (.slice g.2.1 g.2.2.1 g.2.2.2) out/\gJ x cols y.group (M.drop i) out=D:=⟨_,λ_ _ _=>rfl⟩;have hJ:I2 l (0,none,0,0) p:=by rw[N];exact⟨0,[],⟨rfl⟩,mQC _,rfl,Le.refl _,rfl,cF.nil,a⟩
 clear hM a qg q1 q qr;cbv;repeat (refine⟨⟨_,rfl,rfl⟩,?_⟩;cbv)
 refine aX.go (G:=Int×Option Addr×Nat×Nat) (λg=>[(21,.v (.int .i64 g.1)),(6,.v (.slice g.2.1 g.2.2.1 g.2.2.2))]) (λ_=>[]) (λm g h'=>I2 m g h') l (0,none,0,0) (by constructor<;>cbv) hJ ?_
 intro m2 gg U d;rw[N]at d;cbv;obtain⟨j,out,K,hj,sH,L,ag,W,a⟩:=d;obtain⟨w,bo,no,co⟩:=gg;replace K:aS w j:=K;replace W:cF 84 aD p U (.slice bo no co) out:=W;have f2:A .aI .lss w (A .nat l)=decide (j<l):=K.iJ (aS.nat l);have O:=qm.mono (L.t _);have gK:=W.sl.len;cbv;rw[f2];by_cases X:j<l
 .obtain⟨r,Jx⟩:=mQA M j;have jo:0<=w/\w<(l:Int):=K.ix X;have PF:=K.eq;have VZ:=K.succ (A:=A);have sf:l-(j+1)<m2:=by omega
  have Bc:M.drop j=r::M.drop (j+1):=by obtain⟨h1,p⟩:=mQB.1 Jx;rw[mQJ h1,p]
  obtain⟨R,T⟩:∃R,R=List.replicate x.items.length (JI r.length):=⟨_,rfl⟩;rw[Bc]at a;replace a:(match ki cols y.group r x.items []with
   | (r,e)=>if e≠0 then([],e)else gJ x cols y.group (M.drop (j+1)) (out++[r]))=D:=a
  rw[Lu DF,mZn,<-T]at a;replace a:(if(0:Int)≠0 then([],0)else gJ x cols y.group (M.drop (j+1)) (out++[R]))=D:=a;rw[if_neg (λg=>g rfl)]at a;have jd:∀f F m5 H,Le p f->m5=no+1->cF 84 aD p f (.slice F m5 H) (out++[R])->I2 (l-(j+1)) (A .bB .add .i64 w 1,F,m5,H) f:=λf F m5 H C aV o5=>by
   rw[N];exact⟨j+1,out++[R],VZ,X,rfl,C,by rw[mQy,mQG,ag],o5,a⟩
  have Tp:=O.aT (by omega:0<l);have g4:=L _ _ g2;have RQ:=L _ _ yY;clear N hJ VZ;rw[mQu X];cbv;refine⟨⟨Tp,jo⟩,?_⟩;cbv;refine bZ O Jx PF (λbr nr cr uG=>?_);have aK:=uG.len;cbv;intro gx Q f5 v;have an:Le U Q:=by rw[v];exact Le.set f5
  have ak:Q gx=some (.cells #[.slice none 0 0] 34 (0,0)):=by rw[v];exact ae
  clear v;cbv;refine ja ak (by simp) (λf v=>?_);have C:Le U f:=λb o z=>by rw[v,aO (λe=>by rw[e,f5]at z;cases z)];exact an _ _ z
  have az:f gx=some (.cells #[.slice br nr cr] 34 (0,0)):=by rw[v];exact ae
  clear v;cbv;intro E t f6 e6;have l6:Le f t:=by rw[e6];exact Le.set f6
  have ay:t E=some (.cells #[.slice none 0 0] 84 (0,0)):=by rw[e6];exact ae
  have u:Le f (Sx.eF t E):=λb o z=>by
   rw[Sx.cY (λe=>by rw[e,f6]at z;cases z)];exact l6 _ _ z
  clear e6;obtain⟨B,hB⟩:∃B,B=Sx.eF t E:=⟨_,rfl⟩;rw[<-hB]at u;have aH:Le B t:=by rw[hB];exact Sx.fY t E
  have aj:B E=none:=by rw[hB];exact Sx.dP t E
  have Z:Le U B:=C.trans u;obtain⟨J,Y⟩:∃J:Nat->ad->Prop,∀i h',J i h'=Nx B h' E (List.replicate i (JI r.length)):=⟨_,λ_ _=>rfl⟩;have MX:J 0 t:=by rw[Y];exact⟨⟨none,0,0,ay,cF.nil⟩,aH,aj⟩
  have g6:=C.trans l6 _ _ g4;have al:=C.trans l6 _ _ RQ;have ar:=q5.mono (L.t _);clear hB;cbv;repeat (first|((try rw[ai A]);(try rw[ai A]);(first|refine mQw al ?_|refine mQw g6 ?_);cbv)|(refine⟨⟨_,rfl,rfl⟩,?_⟩;cbv))
  refine mXV FG J MX (λi h' d=>?_) (λi it h' b1 n1 c1 hi JA d hv=>?_) (λh' d=>?_)
  .rw[Y]at d;exact ar.mono ((Z.trans d.le).t _)
  .rw[Y]at d;rw[DF it (mQz JA)];refine cXx d (by rw[nQy];omega) (Z _ _ RQ) (u _ _ az) (λh7 q7=>⟨0,rfl,λ_=>?_,λh0=>absurd rfl h0⟩);rw[aK,<-List.replicate_succ']at q7;rw[Y];exact q7
  rw[Y]at d;obtain⟨b7,n7,c7,g7,S⟩:=d.out;have l7:Le U h':=Z.trans d.le;have fe:A .aI .neq 0 0=false:=by rw[aC A];rfl
  rw[FG,<-T]at S;cbv;rw[fe];cbv;repeat (first|((try rw[ai A]);(try rw[ai A]);refine mQw g7 ?_;cbv)|(refine⟨⟨_,rfl,rfl⟩,?_⟩;cbv))
  refine(mU S.sl).mono (λv8 h8 hR=>?_);obtain⟨l8,b8,c8,aw,au⟩:=hR;subst aw;cbv;intro P h9 f9 e9;have l9:Le h8 h9:=by rw[e9];exact Le.set f9
  have v9:Sl 84 aD h9 (.slice (some ⟨P,0,none⟩) 1 1) [R]:=bA (s:=aD) ((congrFun e9 P).trans ae) ⟨_,rfl,au.sl.mono (l9.t _)⟩;clear e9;cbv;refine(W.mono ((l7.trans (l8.trans l9)).t _)).append v9 (by decide) rfl (by decide) (by omega) (L.trans (l7.trans (l8.trans l9))) (λGh gW gT fL wH fU aP yS jN=>?_);clear aP yS v9;have af:=jd fL gW Gh gT fU wH jN;clear jd V Y MX;cbv;refine⟨l-(j+1),(A .bB .add .i64 w 1,gW,Gh,gT),sf,by constructor<;>cbv,af⟩
 have KP:j=l:=by omega
 rw[mQT (by omega)]at a;replace a:(out,0)=D:=a;subst a;clear N hJ;rw[mQv X];cbv;refine(Gp W.sl).mono (λv5 f hR=>?_);obtain⟨C,F,H,ab,Sy⟩:=hR;subst ab;have af:=V f F no H (jZ.trans (L.trans C)) Sy.sl;clear V;cbv;exact af
end Go.S
