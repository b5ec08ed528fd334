import Derived.Test.YtifjeceolckgaaaGreatQB
set_option linter.all false
set_option maxRecDepth 100000
set_option maxHeartbeats 8000000
namespace Go.S
open Go.Sx Go.Proofs
variable {b:Type}{D:(List Row×List Row)×Int}{d:DB}{s:Int}{w:List Nd}{ys:List Row}{cols:List cK}{C bytes cc cn cp e i j p pb rc rn rp tc tn wb z zl:Nat}{cb rb tb:Option Addr}{n:Option Nat}{y:Qy}{r:Row}{f:Row->Row×Int}{k:Value->ad->Prop}{st x:aJ}{B h h':ad}{a:cW->cW×dV×Int}{hd:cg}
def Bx{α:Type}(e:Nat)(s:Sh α)(B h:ad)(nb:Option Nat)(v:Value)(xs:List α):Prop:=
 (nb=none/\v=.slice none 0 0/\xs=[])\/∃j cap,nb=some j/\v=.slice (some ⟨j,0,none⟩) xs.length cap/\B j=none/\fX e s h j cap xs
theorem Bx.sl{a:Type}{s:Sh a}{v:Value}{xs:List a}(q:Bx e s B h n v xs):Sl e s h v xs:=by
 rcases q with⟨_,rfl,rfl⟩|⟨j,cap,_,rfl,_,o⟩
 .exact Sl.nil
 exact o.sl rfl
theorem Bx.buf{a:Type}{s:Sh a}{v:Value}{xs:List a}(q:Bx e s B h n v xs):cF e s B h v xs:=by
 rcases q with⟨_,rfl,rfl⟩|⟨j,cap,_,rfl,b,o⟩
 .exact cF.nil
 exact o.buf b rfl
theorem Bx.mono{d:Type}{s:Sh d}{v:Value}{xs:List d}(q:Bx e s B h n v xs)(l:bR (e::s.tys) h h'):Bx e s B h' n v xs:=by
 rcases q with⟨a,b,c⟩|⟨j,cap,a,b,c,o⟩
 .exact .inl ⟨a,b,c⟩
 exact .inr ⟨j,cap,a,b,c,o.mono l⟩
theorem Bx.has{s:Sh b}{v:Value}{xs:List b}(q:Bx e s B h (some j) v xs):∃c fr,h j=some (.cells c e fr):=by
 rcases q with⟨a,-⟩|⟨d,cap,a,-,-,o⟩
 .cases a
 cases a;obtain⟨c,g,-⟩:=o.out;exact⟨_,_,g⟩
theorem Bx.kp{d:Type}{s:Sh d}{v:Value}{xs:List d}(q:Bx e s B h n v xs){bs:List Nat}(k:Kp bs h h')(f:∀j,n=some j->j∉bs)(t:bR s.tys h h'):Bx e s B h' n v xs:=by
 rcases q with⟨a,b,c⟩|⟨j,cap,a,b,c,o⟩
 .exact .inl ⟨a,b,c⟩
 exact .inr ⟨j,cap,a,b,c,o.kp k (f j a) t⟩
theorem Bx.app{t:Type}{s:Sh t}{b x:Option Addr}{len cap A:Nat}{xs:List t}{y:t}(q:Bx e s B h n (.slice b len cap) xs)(K:Sl e s h (.slice x 1 A) [y])(u:e∉s.tys)(X:z=s.n)(R:bytes<=128)(I:len+1<=2^39)(N:Le B h)
  (G:∀j m c' h',Le B h'->Kp n.toList h h'->bR s.tys h h'->(n=some j\/h j=none)->Bx e s B h' (some j) (.slice (some ⟨j,0,none⟩) m c') (xs++[y])->k (.slice (some ⟨j,0,none⟩) m c') h'):
 iU h b len cap x 1 z bytes e k:=by
 have w:=q.sl.len;refine q.buf.Dr K u X R I N (λm L c' h' M l F E J=>?_);have V:∀j,b=some ⟨j,0,none⟩->n=some j:=λj v=>by
  rcases q with⟨_,r,_⟩|⟨O,P,a,r,_,_⟩
  .cases r;cases v
  cases r;cases v;exact a
 obtain⟨j,p,C,D,o⟩:=E.own (by omega);subst p;have kp:Kp n.toList h h':=λi o' f Z=>F i o' f (λe=>Z (by rw[V i e];simp));have lt:bR s.tys h h':=λi d e' fr H f=>F i _ f (λp=>by
  have:=V i p;subst this;obtain⟨c,Q,g⟩:=q.has;rw[g]at f;cases f;exact u H)
 refine G j m c' h' l kp lt ?_ (.inr ⟨j,c',rfl,by rw[<-D],C,o⟩);rcases J j rfl with a|a|a
 .exact .inl (V j a)
 .exact .inr a
 omega
def Nu:Value->List Nat
 | .slice (some a) _ _=>[a.block]
 |_=>[]
theorem Bx.oB{a:Type}{s:Sh a}{v:Value}{xs:List a}(q:Bx e s B h n v xs):Nu v=n.toList:=by rcases q with⟨rfl,rfl,_⟩|⟨j,cap,rfl,rfl,_,_⟩<;>rfl
structure yC{α:Type}(e:Nat)(s:Sh α)(B h:ad)(v1:Value)(xs:List α)(v2:Value)(ys:List α):Prop where
 out:∃o1 o2,Bx e s B h o1 v1 xs/\Bx e s B h o2 v2 ys/\∀j,o1=some j->o2≠some j
theorem yC.symm{s:Sh b}{v a:Value}{xs ys:List b}(q:yC e s B h v xs a ys):yC e s B h a ys v xs:=by obtain⟨o1,o2,f,g,i⟩:=q.out;exact⟨o2,o1,g,f,λj c d=>i j d c⟩
theorem yC.mono{s:Sh b}{v a:Value}{xs ys:List b}(q:yC e s B h v xs a ys)(l:bR (e::s.tys) h h'):yC e s B h' v xs a ys:=by obtain⟨o1,o2,c,d,f⟩:=q.out;exact⟨o1,o2,c.mono l,d.mono l,f⟩
theorem yC.has{d:Type}{s:Sh d}{v f:Value}{xs ys:List d}(q:yC e s B h v xs f ys)(a:j∈Nu v):∃c fr,h j=some (.cells c e fr):=by
 obtain⟨o1,o2,b,g,k⟩:=q.out;rw[b.oB]at a;cases o1 with
 |none=>cases a
 |some i=>
  have:j=i:=by simpa using a
  subst this;exact b.has
theorem yC.zV{f:Type}{s:Sh f}{b x:Option Addr}{len cap u:Nat}{v:Value}{xs ys:List f}{y:f}(q:yC e s B h (.slice b len cap) xs v ys)(G:Sl e s h (.slice x 1 u) [y])(C:e∉s.tys)(X:z=s.n)(R:bytes<=128)(F:len+1<=2^39)(N:Le B h)
  (E:∀j m c' h',Le B h'->Kp (Nu (.slice b len cap)) h h'->bR s.tys h h'->yC e s B h' (.slice (some ⟨j,0,none⟩) m c') (xs++[y]) v ys->k (.slice (some ⟨j,0,none⟩) m c') h'):
 iU h b len cap x 1 z bytes e k:=by
 obtain⟨o1,o2,o,p,r⟩:=q.out;refine o.app G C X R F N (λj m c' h' l kp lt d A=>?_);refine E j m c' h' l (by rw[o.oB];exact kp) lt ⟨some j,o2,A,p.kp kp (λi D t=>?_) lt,λi w n=>?_⟩
 .have:o1=some i:=by
   cases o1 with
   |none=>cases t
   |some a=>
    have:i=a:=by simpa using t
    rw[this]
  exact r i this D
 cases w;rcases d with d|d
 .exact r j d n
 subst n;obtain⟨c,fr,g⟩:=p.has;rw[g]at d;cases d
theorem fE{e':Nat}{s:Sh b}{v f:Value}{xs ys:List b}(q:yC e s B h v xs f ys){n:Nat}{c:Array Value}{fr:Nat×Nat}(g:h n=some (.cells c e' fr))(d:e'≠e):n∉Nu v:=λm=>by
 obtain⟨c',N,a⟩:=q.has m;rw[g]at a;cases a;exact d rfl
theorem kB{s:Sh b}{v c:Value}{xs ys:List b}(q:yC e s B h v xs c ys){n:Nat}(g:h n=none):n∉Nu v:=λm=>by
 obtain⟨c',N,a⟩:=q.has m;rw[g]at a;cases a
def je(w:List Nd)(cols:List cK)(f:Row->Row×Int)(r:Row)(xs ys:List Row):(List Row×List Row)×Int:=match dt w cols r with
 | (is,e)=>if e≠0 then((xs,ys),e)else if is=false then((xs,ys),0)else((xs++[r],ys++[(f r).1]),(f r).2)
structure UK(B h:ad)(rp fp:Nat)(xs ys:List Row):Prop where
 out:∃b1 n1 c1 b2 n2 c2,h rp=some (.cells #[.slice b1 n1 c1] 34 (0,0))/\h fp=some (.cells #[.slice b2 n2 c2] 34 (0,0))/\yC 84 aD B h (.slice b1 n1 c1) xs (.slice b2 n2 c2) ys
 le:Le B h
 n1:B rp=none
 n2:B fp=none
 ne:rp≠fp
theorem UK.mono{r f:Nat}{xs:List Row}(q:UK B h r f xs ys)(l:Le h h'):UK B h' r f xs ys:=by obtain⟨b,n,c,a,i,d,g,e,t⟩:=q.out;exact⟨⟨b,n,c,a,i,d,l _ _ g,l _ _ e,t.mono (l.t _)⟩,q.le.trans l,q.n1,q.n2,q.ne⟩
theorem Ga{d:Type}{s:Sh d}{t n c:Nat}{xs:List d}(q:Sl e s h (.slice (some ⟨t,0,none⟩) n c) xs){bs:List Nat}(k:Kp bs h h')(o:t∉bs)(lt:bR s.tys h h'):Sl e s h' (.slice (some ⟨t,0,none⟩) n c) xs:=by
 obtain⟨b,cap,j,l,m,a⟩:=q.out;cases j;refine⟨some ⟨t,0,none⟩,c,rfl,l,m,?_⟩;rcases a with a| ⟨oB,off,f,fr,i,g,r⟩
 .exact .inl a
 cases i;exact .inr ⟨t,0,f,fr,rfl,k _ _ g o,r.mono lt⟩
theorem bXh{p0 p1 p2:Value}{Y:Nat}{xs:List Row}(qc:UK B h rp Y xs ys)(Ah:xs.length<=2^37)(KB:ys.length<=2^37)(q:fM B pb d s st)(hx:dr st)(gw:B wb=some (.cells #[.pointer (some ⟨pb,0,none⟩)] 89 (0,0)))
  (hc:∀c∈cols,Nm c.name)   (gc:B cp=some (.cells #[.slice cb cn cc] 38 (0,0))) (wO:Sl 155 bI B (.slice cb cn cc) cols) (gt:B zl=some (.cells #[.func (.func 74) #[] #[p0,p1,p2]] 170 (0,0)))
  (hr:∀v∈r,kM v)   (R:Sl 86 bq h (.slice rb rn rc) r) 
 (uz:∀h',Le B h'->Sl 86 bq h' (.slice rb rn rc) r->Ct 74 [.slice rb rn rc,p0,p1,p2] h' (λv kY=>∃b n c,v=.tuple #[.slice b n c,.int .i64 (f r).2]/\Le h' kY/\Sl 86 bq kY (.slice b n c) (f r).1))
  (z:D=je st.bV cols f r xs ys) 
 (C:∀h',UK B h' rp Y D.1.1 D.1.2->k (.int .i64 D.2) h'):
 Ct 156 [.slice rb rn rc,.pointer (some ⟨wb,0,none⟩),.pointer (some ⟨cp,0,none⟩),.pointer (some ⟨zl,0,none⟩),.pointer (some ⟨rp,0,none⟩),.pointer (some ⟨Y,0,none⟩)] h k:=by
 replace z:D=match dt st.bV cols r with
  | (is,e)=>if e≠0 then((xs,ys),e)else if is=false then((xs,ys),0)else((xs++[r],ys++[(f r).1]),(f r).2):=z
 have l0:=qc.le;have al:=l0 _ _ gw;have ak:=l0 _ _ gc;have ag:=l0 _ _ gt;refine(q.mono l0).elim (λaV az ba aP ay aZ aK aw aY aH au aW Xh VD WZ Xg VC WY Xf Rv WX UC Ny NS Xe VB WW Dp BX Dm g qd q1 q2 q3 q4 q5 q6=>?_);clear q1 q2 q3 q4 q5 qd;refine mQx gXD Tryz.func156 λA hA=>?_;cbv;refine mQw al ?_;cbv;first|rw[ai A,ai A] |rw[ai A] |skip
 refine mQw g ?_;cbv;refine mQw ak ?_;cbv;refine MN hx.bV hc hr q6 (wO.mono (l0.t _)) R (λN t e l1 ht=>?_);rw[<-ht]at z;replace z:D=if e≠0 then((xs,ys),e)else if t=false then((xs,ys),0)else((xs++[r],ys++[(f r).1]),(f r).2):=z
 have fe:A .aI .neq e 0=decide (e≠0):=aC A ..;have AV:A .not t= !t:=by rw[hA.not]
 by_cases h0:e≠0
 .rw[if_pos h0]at z;subst z;have K:=C N (qc.mono l1);clear C uz;cbv;rw[fe,mQu h0];cbv;exact K
 rw[if_neg h0]at z;have e0:e=0:=mXc.1 h0;subst e0;cases t with
 |false=>rw[if_pos rfl]at z;subst z;have K:=C N (qc.mono l1);clear C uz;cbv;rw[fe,mQv h0];cbv;rw[AV];cbv;exact K
 |true=>
  rw[if_neg (by simp)]at z;subst z;have Qr:=l1 _ _ ag;have DS:=uz N (l0.trans l1) (R.mono (l1.t _));have aj:=qc.mono l1;have Sz:=R.mono (l1.t _);clear uz ak al ag g q6;generalize f r=fr at *;obtain⟨nr,ne⟩:=fr;replace C:∀h',UK B h' rp Y (xs++[r]) (ys++[nr])->k (.int .i64 ne) h':=C;cbv;rw[fe,mQv h0];cbv;rw[AV];cbv;refine mQw Qr ?_;cbv;refine DS.mono (λv hs hR=>?_);obtain⟨nb,nn,nc,hv,ls,qn⟩:=hR;subst hv;have Yk:=aj.mono ls;have R:=Sz.mono (ls.t _);have l:=Yk.le;have Em:=Yk.n1;have El:=Yk.n2;have L:=Yk.ne;clear DS aj Sz Qr;obtain⟨b1,n1,c1,b2,n2,c2,a,i,w⟩:=Yk.out;have lY:n1+1<=2^39:=by
   have N:n1=xs.length:=by obtain⟨o1,o2,N,h2,h3⟩:=w.out;exact N.sl.len
   omega
  have jq:n2+1<=2^39:=by
   have N:n2=ys.length:=by obtain⟨o1,o2,N,h2,h3⟩:=w.out;exact h2.sl.len
   omega
  clear Yk qc;cbv;refine mQw a ?_;cbv;refine mQw i ?_;cbv;refine⟨?_,?_⟩
  .skip;intro t2 ha V U;have Q:Le hs ha:=by rw[U];exact Le.set V
   have v2:Sl 84 aD ha (.slice (some ⟨t2,0,none⟩) 1 1) [r]:=bA (s:=aD) ((congrFun U t2).trans ae) ⟨_,rfl,R.mono (Q.t _)⟩;have a:=Q _ _ a;have i:=Q _ _ i;have ar:t2∉Nu (.slice b1 n1 c1):=kB w V;have an:=kB w.symm V;have l:=l.trans Q;have qn:=qn.mono (Q.t _);have w:=w.mono (Q.t _);clear U;cbv;refine mQw i ?_;cbv;refine⟨⟨_,rfl,rfl⟩,?_⟩;cbv;refine mQw a ?_;cbv;refine⟨⟨_,rfl,rfl⟩,?_⟩;cbv;refine⟨?_,?_⟩
   .skip;refine w.zV v2 (by decide) rfl (by decide) lY l (λj1 m1 k1 j l kp lt y=>?_);have I:=kp _ _ a (fE w a (by decide));have x:=kp _ _ i (fE w i (by decide));have qn:=qn.mono (lt.sub);cbv;refine mQw x ?_;cbv;refine⟨⟨_,rfl,rfl⟩,?_⟩;cbv;intro S hc W G;have J:Le j hc:=by rw[G];exact Le.set W
    have H:Sl 84 aD hc (.slice (some ⟨S,0,none⟩) 1 1) [nr]:=bA (s:=aD) ((congrFun G S).trans ae) ⟨_,rfl,qn.mono (J.t _)⟩;have I:=J _ _ I;have x:=J _ _ x;have l:=l.trans J;have y:=y.mono (J.t _);clear G;cbv;refine mQw x ?_;cbv;refine⟨⟨_,rfl,rfl⟩,?_⟩;cbv;refine y.symm.zV H (by decide) rfl (by decide) jq l (λj2 m2 k2 h7 l M ab X=>?_);have a:=M _ _ I (fE y.symm I (by decide));have i:=M _ _ x (fE y.symm x (by decide));cbv;refine ja a (by simp) (λu m=>?_);have P:bR [84,86] h7 u:=by rw[m];exact bR.set a (by decide)
    have a:u rp=some (.cells #[.slice (some ⟨j1,0,none⟩) m1 k1] 34 (0,0)):=by rw[m];exact ae
    have i:u Y=some (.cells #[.slice b2 n2 c2] 34 (0,0)):=by rw[m,aO (Ne.symm L)];exact i
    have F:Le B u:=λb o j=>by rw[m,aO (λe=>by rw[e,Em]at j;cases j)];exact l _ _ j
    have Jl:=X.mono P;clear m P;cbv;refine ja i (by simp) (λO p=>?_);have T:bR [84,86] u O:=by rw[p];exact bR.set i (by decide)
    have K:=C O ⟨⟨_,_,_,_,_,_,(by rw[p,aO L];exact a),(by rw[p];exact ae),(Jl.mono T).symm⟩,(λb o j=>by rw[p,aO (λe=>by rw[e,El]at j;cases j)];exact F _ _ j),Em,El,L⟩;clear C p T;cbv;exact K
   skip;intro S j W G;have E:Le ha j:=by rw[G];exact Le.set W
   have H:Sl 84 aD j (.slice (some ⟨S,0,none⟩) 1 1) [nr]:=bA (s:=aD) ((congrFun G S).trans ae) ⟨_,rfl,qn.mono (E.t _)⟩;have a:=E _ _ a;have i:=E _ _ i;have Z:=kB w W;have l:=l.trans E;have w:=w.mono (E.t _);clear G;have v2:=v2.mono (E.t _);cbv;refine mQw i ?_;cbv;refine⟨⟨_,rfl,rfl⟩,?_⟩;cbv;refine mQw a ?_;cbv;refine⟨⟨_,rfl,rfl⟩,?_⟩;cbv;refine w.zV v2 (by decide) rfl (by decide) lY l (λj1 m1 k1 hc l kp lt y=>?_);have I:=kp _ _ a (fE w a (by decide));have x:=kp _ _ i (fE w i (by decide));have H:=Ga H kp Z lt;cbv;refine mQw x ?_;cbv;refine⟨⟨_,rfl,rfl⟩,?_⟩;cbv;refine y.symm.zV H (by decide) rfl (by decide) jq l (λj2 m2 k2 h7 l M ab X=>?_);have a:=M _ _ I (fE y.symm I (by decide));have i:=M _ _ x (fE y.symm x (by decide));cbv;refine ja a (by simp) (λu m=>?_);have P:bR [84,86] h7 u:=by rw[m];exact bR.set a (by decide)
   have a:u rp=some (.cells #[.slice (some ⟨j1,0,none⟩) m1 k1] 34 (0,0)):=by rw[m];exact ae
   have i:u Y=some (.cells #[.slice b2 n2 c2] 34 (0,0)):=by rw[m,aO (Ne.symm L)];exact i
   have F:Le B u:=λb o j=>by rw[m,aO (λe=>by rw[e,Em]at j;cases j)];exact l _ _ j
   have Jl:=X.mono P;clear m P;cbv;refine ja i (by simp) (λO p=>?_);have T:bR [84,86] u O:=by rw[p];exact bR.set i (by decide)
   have K:=C O ⟨⟨_,_,_,_,_,_,(by rw[p,aO L];exact a),(by rw[p];exact ae),(Jl.mono T).symm⟩,(λb o j=>by rw[p,aO (λe=>by rw[e,El]at j;cases j)];exact F _ _ j),Em,El,L⟩;clear C p T;cbv;exact K
  skip;intro S ha W G;have Q:Le hs ha:=by rw[G];exact Le.set W
  have H:Sl 84 aD ha (.slice (some ⟨S,0,none⟩) 1 1) [nr]:=bA (s:=aD) ((congrFun G S).trans ae) ⟨_,rfl,qn.mono (Q.t _)⟩;have a:=Q _ _ a;have i:=Q _ _ i;have Z:=kB w W;have l:=l.trans Q;have R:=R.mono (Q.t _);have w:=w.mono (Q.t _);clear G;cbv;refine mQw i ?_;cbv;refine⟨⟨_,rfl,rfl⟩,?_⟩;cbv;refine mQw a ?_;cbv;refine⟨⟨_,rfl,rfl⟩,?_⟩;cbv;intro t2 j V U;have E:Le ha j:=by rw[U];exact Le.set V
  have v2:Sl 84 aD j (.slice (some ⟨t2,0,none⟩) 1 1) [r]:=bA (s:=aD) ((congrFun U t2).trans ae) ⟨_,rfl,R.mono (E.t _)⟩;have a:=E _ _ a;have i:=E _ _ i;have ar:t2∉Nu (.slice b1 n1 c1):=kB w V;have an:=kB w.symm V;have l:=l.trans E;have w:=w.mono (E.t _);clear U;have H:=H.mono (E.t _);cbv;refine mQw i ?_;cbv;refine⟨⟨_,rfl,rfl⟩,?_⟩;cbv;refine mQw a ?_;cbv;refine⟨⟨_,rfl,rfl⟩,?_⟩;cbv;refine w.zV v2 (by decide) rfl (by decide) lY l (λj1 m1 k1 hc l kp lt y=>?_);have I:=kp _ _ a (fE w a (by decide));have x:=kp _ _ i (fE w i (by decide));have H:=Ga H kp Z lt;cbv;refine mQw x ?_;cbv;refine⟨⟨_,rfl,rfl⟩,?_⟩;cbv;refine y.symm.zV H (by decide) rfl (by decide) jq l (λj2 m2 k2 h7 l M ab X=>?_);have a:=M _ _ I (fE y.symm I (by decide));have i:=M _ _ x (fE y.symm x (by decide));cbv;refine ja a (by simp) (λu m=>?_);have P:bR [84,86] h7 u:=by rw[m];exact bR.set a (by decide)
  have a:u rp=some (.cells #[.slice (some ⟨j1,0,none⟩) m1 k1] 34 (0,0)):=by rw[m];exact ae
  have i:u Y=some (.cells #[.slice b2 n2 c2] 34 (0,0)):=by rw[m,aO (Ne.symm L)];exact i
  have F:Le B u:=λb o j=>by rw[m,aO (λe=>by rw[e,Em]at j;cases j)];exact l _ _ j
  have Jl:=X.mono P;clear m P;cbv;refine ja i (by simp) (λO p=>?_);have T:bR [84,86] u O:=by rw[p];exact bR.set i (by decide)
  have K:=C O ⟨⟨_,_,_,_,_,_,(by rw[p,aO L];exact a),(by rw[p];exact ae),(Jl.mono T).symm⟩,(λb o j=>by rw[p,aO (λe=>by rw[e,El]at j;cases j)];exact F _ _ j),Em,El,L⟩;clear C p T;cbv;exact K
theorem bXi{Y:Nat}{xs:List Row}(qc:UK B h rp Y xs ys)(Ah:xs.length<=2^37)(KB:ys.length<=2^37)(q:fM B pb d s st)(hx:dr st)(gw:B wb=some (.cells #[.pointer (some ⟨pb,0,none⟩)] 89 (0,0)))
  (hc:∀c∈cols,Nm c.name)   (gc:B cp=some (.cells #[.slice cb cn cc] 38 (0,0))) (wO:Sl 155 bI B (.slice cb cn cc) cols) (gt:B zl=some (.cells #[.func (.func 82) #[] #[]] 170 (0,0)))
  (hr:∀v∈r,kM v)   (R:Sl 86 bq h (.slice rb rn rc) r) 
 (uz:∀h',Le B h'->Sl 86 bq h' (.slice rb rn rc) r->Ct 82 [.slice rb rn rc] h' (λv kY=>∃b n c,v=.tuple #[.slice b n c,.int .i64 (f r).2]/\Le h' kY/\Sl 86 bq kY (.slice b n c) (f r).1))
  (z:D=je st.bV cols f r xs ys) 
 (C:∀h',UK B h' rp Y D.1.1 D.1.2->k (.int .i64 D.2) h'):
 Ct 156 [.slice rb rn rc,.pointer (some ⟨wb,0,none⟩),.pointer (some ⟨cp,0,none⟩),.pointer (some ⟨zl,0,none⟩),.pointer (some ⟨rp,0,none⟩),.pointer (some ⟨Y,0,none⟩)] h k:=by
 replace z:D=match dt st.bV cols r with
  | (is,e)=>if e≠0 then((xs,ys),e)else if is=false then((xs,ys),0)else((xs++[r],ys++[(f r).1]),(f r).2):=z
 have l0:=qc.le;have al:=l0 _ _ gw;have ak:=l0 _ _ gc;have ag:=l0 _ _ gt;refine(q.mono l0).elim (λaV az ba aP ay aZ aK aw aY aH au aW Xh VD WZ Xg VC WY Xf Rv WX UC Ny NS Xe VB WW Dp BX Dm g qd q1 q2 q3 q4 q5 q6=>?_);clear q1 q2 q3 q4 q5 qd;refine mQx gXD Tryz.func156 λA hA=>?_;cbv;refine mQw al ?_;cbv;first|rw[ai A,ai A] |rw[ai A] |skip
 refine mQw g ?_;cbv;refine mQw ak ?_;cbv;refine MN hx.bV hc hr q6 (wO.mono (l0.t _)) R (λN t e l1 ht=>?_);rw[<-ht]at z;replace z:D=if e≠0 then((xs,ys),e)else if t=false then((xs,ys),0)else((xs++[r],ys++[(f r).1]),(f r).2):=z
 have fe:A .aI .neq e 0=decide (e≠0):=aC A ..;have AV:A .not t= !t:=by rw[hA.not]
 by_cases h0:e≠0
 .rw[if_pos h0]at z;subst z;have K:=C N (qc.mono l1);clear C uz;cbv;rw[fe,mQu h0];cbv;exact K
 rw[if_neg h0]at z;have e0:e=0:=mXc.1 h0;subst e0;cases t with
 |false=>rw[if_pos rfl]at z;subst z;have K:=C N (qc.mono l1);clear C uz;cbv;rw[fe,mQv h0];cbv;rw[AV];cbv;exact K
 |true=>
  rw[if_neg (by simp)]at z;subst z;have Qr:=l1 _ _ ag;have DS:=uz N (l0.trans l1) (R.mono (l1.t _));have aj:=qc.mono l1;have Sz:=R.mono (l1.t _);clear uz ak al ag g q6;generalize f r=fr at *;obtain⟨nr,ne⟩:=fr;replace C:∀h',UK B h' rp Y (xs++[r]) (ys++[nr])->k (.int .i64 ne) h':=C;cbv;rw[fe,mQv h0];cbv;rw[AV];cbv;refine mQw Qr ?_;cbv;refine DS.mono (λv hs hR=>?_);obtain⟨nb,nn,nc,hv,ls,qn⟩:=hR;subst hv;have Yk:=aj.mono ls;have R:=Sz.mono (ls.t _);have l:=Yk.le;have Em:=Yk.n1;have El:=Yk.n2;have L:=Yk.ne;clear DS aj Sz Qr;obtain⟨b1,n1,c1,b2,n2,c2,a,i,w⟩:=Yk.out;have lY:n1+1<=2^39:=by
   have N:n1=xs.length:=by obtain⟨o1,o2,N,h2,h3⟩:=w.out;exact N.sl.len
   omega
  have jq:n2+1<=2^39:=by
   have N:n2=ys.length:=by obtain⟨o1,o2,N,h2,h3⟩:=w.out;exact h2.sl.len
   omega
  clear Yk qc;cbv;refine mQw a ?_;cbv;refine mQw i ?_;cbv;refine⟨?_,?_⟩
  .skip;intro t2 ha V U;have Q:Le hs ha:=by rw[U];exact Le.set V
   have v2:Sl 84 aD ha (.slice (some ⟨t2,0,none⟩) 1 1) [r]:=bA (s:=aD) ((congrFun U t2).trans ae) ⟨_,rfl,R.mono (Q.t _)⟩;have a:=Q _ _ a;have i:=Q _ _ i;have ar:t2∉Nu (.slice b1 n1 c1):=kB w V;have an:=kB w.symm V;have l:=l.trans Q;have qn:=qn.mono (Q.t _);have w:=w.mono (Q.t _);clear U;cbv;refine mQw i ?_;cbv;refine⟨⟨_,rfl,rfl⟩,?_⟩;cbv;refine mQw a ?_;cbv;refine⟨⟨_,rfl,rfl⟩,?_⟩;cbv;refine⟨?_,?_⟩
   .skip;refine w.zV v2 (by decide) rfl (by decide) lY l (λj1 m1 k1 j l kp lt y=>?_);have I:=kp _ _ a (fE w a (by decide));have x:=kp _ _ i (fE w i (by decide));have qn:=qn.mono (lt.sub);cbv;refine mQw x ?_;cbv;refine⟨⟨_,rfl,rfl⟩,?_⟩;cbv;intro S hc W G;have J:Le j hc:=by rw[G];exact Le.set W
    have H:Sl 84 aD hc (.slice (some ⟨S,0,none⟩) 1 1) [nr]:=bA (s:=aD) ((congrFun G S).trans ae) ⟨_,rfl,qn.mono (J.t _)⟩;have I:=J _ _ I;have x:=J _ _ x;have l:=l.trans J;have y:=y.mono (J.t _);clear G;cbv;refine mQw x ?_;cbv;refine⟨⟨_,rfl,rfl⟩,?_⟩;cbv;refine y.symm.zV H (by decide) rfl (by decide) jq l (λj2 m2 k2 h7 l M ab X=>?_);have a:=M _ _ I (fE y.symm I (by decide));have i:=M _ _ x (fE y.symm x (by decide));cbv;refine ja a (by simp) (λu m=>?_);have P:bR [84,86] h7 u:=by rw[m];exact bR.set a (by decide)
    have a:u rp=some (.cells #[.slice (some ⟨j1,0,none⟩) m1 k1] 34 (0,0)):=by rw[m];exact ae
    have i:u Y=some (.cells #[.slice b2 n2 c2] 34 (0,0)):=by rw[m,aO (Ne.symm L)];exact i
    have F:Le B u:=λb o j=>by rw[m,aO (λe=>by rw[e,Em]at j;cases j)];exact l _ _ j
    have Jl:=X.mono P;clear m P;cbv;refine ja i (by simp) (λO p=>?_);have T:bR [84,86] u O:=by rw[p];exact bR.set i (by decide)
    have K:=C O ⟨⟨_,_,_,_,_,_,(by rw[p,aO L];exact a),(by rw[p];exact ae),(Jl.mono T).symm⟩,(λb o j=>by rw[p,aO (λe=>by rw[e,El]at j;cases j)];exact F _ _ j),Em,El,L⟩;clear C p T;cbv;exact K
   skip;intro S j W G;have E:Le ha j:=by rw[G];exact Le.set W
   have H:Sl 84 aD j (.slice (some ⟨S,0,none⟩) 1 1) [nr]:=bA (s:=aD) ((congrFun G S).trans ae) ⟨_,rfl,qn.mono (E.t _)⟩;have a:=E _ _ a;have i:=E _ _ i;have Z:=kB w W;have l:=l.trans E;have w:=w.mono (E.t _);clear G;have v2:=v2.mono (E.t _);cbv;refine mQw i ?_;cbv;refine⟨⟨_,rfl,rfl⟩,?_⟩;cbv;refine mQw a ?_;cbv;refine⟨⟨_,rfl,rfl⟩,?_⟩;cbv;refine w.zV v2 (by decide) rfl (by decide) lY l (λj1 m1 k1 hc l kp lt y=>?_);have I:=kp _ _ a (fE w a (by decide));have x:=kp _ _ i (fE w i (by decide));have H:=Ga H kp Z lt;cbv;refine mQw x ?_;cbv;refine⟨⟨_,rfl,rfl⟩,?_⟩;cbv;refine y.symm.zV H (by decide) rfl (by decide) jq l (λj2 m2 k2 h7 l M ab X=>?_);have a:=M _ _ I (fE y.symm I (by decide));have i:=M _ _ x (fE y.symm x (by decide));cbv;refine ja a (by simp) (λu m=>?_);have P:bR [84,86] h7 u:=by rw[m];exact bR.set a (by decide)
   have a:u rp=some (.cells #[.slice (some ⟨j1,0,none⟩) m1 k1] 34 (0,0)):=by rw[m];exact ae
   have i:u Y=some (.cells #[.slice b2 n2 c2] 34 (0,0)):=by rw[m,aO (Ne.symm L)];exact i
   have F:Le B u:=λb o j=>by rw[m,aO (λe=>by rw[e,Em]at j;cases j)];exact l _ _ j
   have Jl:=X.mono P;clear m P;cbv;refine ja i (by simp) (λO p=>?_);have T:bR [84,86] u O:=by rw[p];exact bR.set i (by decide)
   have K:=C O ⟨⟨_,_,_,_,_,_,(by rw[p,aO L];exact a),(by rw[p];exact ae),(Jl.mono T).symm⟩,(λb o j=>by rw[p,aO (λe=>by rw[e,El]at j;cases j)];exact F _ _ j),Em,El,L⟩;clear C p T;cbv;exact K
  skip;intro S ha W G;have Q:Le hs ha:=by rw[G];exact Le.set W
  have H:Sl 84 aD ha (.slice (some ⟨S,0,none⟩) 1 1) [nr]:=bA (s:=aD) ((congrFun G S).trans ae) ⟨_,rfl,qn.mono (Q.t _)⟩;have a:=Q _ _ a;have i:=Q _ _ i;have Z:=kB w W;have l:=l.trans Q;have R:=R.mono (Q.t _);have w:=w.mono (Q.t _);clear G;cbv;refine mQw i ?_;cbv;refine⟨⟨_,rfl,rfl⟩,?_⟩;cbv;refine mQw a ?_;cbv;refine⟨⟨_,rfl,rfl⟩,?_⟩;cbv;intro t2 j V U;have E:Le ha j:=by rw[U];exact Le.set V
  have v2:Sl 84 aD j (.slice (some ⟨t2,0,none⟩) 1 1) [r]:=bA (s:=aD) ((congrFun U t2).trans ae) ⟨_,rfl,R.mono (E.t _)⟩;have a:=E _ _ a;have i:=E _ _ i;have ar:t2∉Nu (.slice b1 n1 c1):=kB w V;have an:=kB w.symm V;have l:=l.trans E;have w:=w.mono (E.t _);clear U;have H:=H.mono (E.t _);cbv;refine mQw i ?_;cbv;refine⟨⟨_,rfl,rfl⟩,?_⟩;cbv;refine mQw a ?_;cbv;refine⟨⟨_,rfl,rfl⟩,?_⟩;cbv;refine w.zV v2 (by decide) rfl (by decide) lY l (λj1 m1 k1 hc l kp lt y=>?_);have I:=kp _ _ a (fE w a (by decide));have x:=kp _ _ i (fE w i (by decide));have H:=Ga H kp Z lt;cbv;refine mQw x ?_;cbv;refine⟨⟨_,rfl,rfl⟩,?_⟩;cbv;refine y.symm.zV H (by decide) rfl (by decide) jq l (λj2 m2 k2 h7 l M ab X=>?_);have a:=M _ _ I (fE y.symm I (by decide));have i:=M _ _ x (fE y.symm x (by decide));cbv;refine ja a (by simp) (λu m=>?_);have P:bR [84,86] h7 u:=by rw[m];exact bR.set a (by decide)
  have a:u rp=some (.cells #[.slice (some ⟨j1,0,none⟩) m1 k1] 34 (0,0)):=by rw[m];exact ae
  have i:u Y=some (.cells #[.slice b2 n2 c2] 34 (0,0)):=by rw[m,aO (Ne.symm L)];exact i
  have F:Le B u:=λb o j=>by rw[m,aO (λe=>by rw[e,Em]at j;cases j)];exact l _ _ j
  have Jl:=X.mono P;clear m P;cbv;refine ja i (by simp) (λO p=>?_);have T:bR [84,86] u O:=by rw[p];exact bR.set i (by decide)
  have K:=C O ⟨⟨_,_,_,_,_,_,(by rw[p,aO L];exact a),(by rw[p];exact ae),(Jl.mono T).symm⟩,(λb o j=>by rw[p,aO (λe=>by rw[e,El]at j;cases j)];exact F _ _ j),Em,El,L⟩;clear C p T;cbv;exact K
theorem oh{s:ByteArray}:eXE s↔∀c∈s.data.toList,c.toNat<128:=by
 constructor
 .intro h c b;obtain⟨i,a,rfl⟩:=List.mem_iff_getElem.1 b;have:=h i (by simpa using a);rw[mXx]at this;rw[mZk (by simpa using a)]at this;simpa using this
 intro h i a;have C:i<s.data.size:=a;rw[mXx,mZk C];exact h _ (by simp)
theorem Xi{a b:ByteArray}(d:eXE a)(f:eXE b):eXE (a++b):=by
 rw[oh]at *;intro c h;have e:(a++b).data=a.data++b.data:=by simp
 rw[e,mJR]at h;rcases mQE.1 h with h|h
 .exact d c h
 exact f c h
structure UI(s:ByteArray):Prop where
 dQu:eXE s
 sz:s.size<=2^30
theorem UI.nm{s:ByteArray}(h:UI s):Nm s:=⟨h.dQu,by have:=h.sz;omega⟩
theorem ri{nm:ByteArray}(h:UI nm){c:cK}(a:UI c.name):Nm (ph nm c).name:=by
 refine⟨Xi (Xi h.dQu (λi b=>?_)) a.dQu,?_⟩
 .have:i<1:=b;have:i=0:=by omega
  subst this;decide
 show(nm++aM [46]++c.name).size<=_;rw[mZm,mZm];have e:(aM [46]).size=1:=rfl;have:=h.sz;have:=a.sz;omega
theorem oa(w:List Nd)(cols:List cK)(f:Row->Row×Int)(r:Row)(s:List Row)(xs ys:List Row):eN w cols f (r::s) (xs,ys)=
 if(je w cols f r xs ys).2≠0 then je w cols f r xs ys else eN w cols f s (je w cols f r xs ys).1:=by
 show(match dt w cols r with
  | (is,e)=>if e≠0 then((xs,ys),e)else if is=false then eN w cols f s (xs,ys)else match f r with
   | (n,e)=>if e≠0 then((xs++[r],ys++[n]),e)else eN w cols f s (xs++[r],ys++[n]))=_
 unfold je;generalize dt w cols r=H;obtain⟨is,e⟩:=H;generalize f r=fr;obtain⟨n,a⟩:=fr;by_cases h0:e=0
 .subst h0;cases is with
  |false=>simp
  |true=>
   by_cases h:a=0
   .simp[h]
   simp[h]
 simp[h0]
theorem xz{xs:List Row}(h:xs.length<=i)(a:ys.length<=i):(je w cols f r xs ys).1.1.length<=i+1/\(je w cols f r xs ys).1.2.length<=i+1:=by
 unfold je;generalize dt w cols r=H;obtain⟨is,e⟩:=H;by_cases h0:e=0
 .cases is
  .simp[h0];omega
  simp[h0];omega
 simp[h0];omega
theorem cZe{p0 p1 p2:Value}(q:fM h pb d s st)(hx:dr st){T:cW}(wD:UI T.S.name)(hc:∀c∈T.S.cols,UI c.name)(fZ:∀r∈T.rows,∀v∈r,kM v)(O:T.rows.length<=2^36)
   (wO:Sl 155 bI h (.slice cb cn cc) T.S.cols)   (Jp:Sl 84 aD h (.slice tb tn tc) T.rows) 
 (uz:∀h' r rb rn rc,Le h h'->r∈T.rows->Sl 86 bq h' (.slice rb rn rc) r->Ct 74 [.slice rb rn rc,p0,p1,p2] h' (λv kY=>∃b n c,v=.tuple #[.slice b n c,.int .i64 (f r).2]/\Le h' kY/\Sl 86 bq kY (.slice b n c) (f r).1))
  (hD:D=eN st.bV (aR T) f T.rows ([],[])) 
 (hk:∀h' w j y C m E,Le h h'->Sl 84 aD h' (.slice w j y) D.1.1->Sl 84 aD h' (.slice C m E) D.1.2->k (.tuple #[.slice w j y,.slice C m E,.int .i64 D.2]) h'):
 Ct 73 [.pointer (some ⟨pb,0,none⟩),.agg #[.string T.S.name,.slice cb cn cc,.int .i64 T.S.key,.bool T.S.only,.slice tb tn tc],.func (.func 74) #[] #[p0,p1,p2]] h k:=by
 have HR:=Jp.len;rw[mT]at hD;obtain⟨⟨X,mI,aK,au⟩,uy⟩:=T;replace hD:D=eN st.bV (mI.map (ph X)) f uy ([],[]):=hD;have ar:∀c∈mI.map (ph X),Nm c.name:=λc CG=>by
  obtain⟨c0,h1,G⟩:=mQW.1 CG;rw[<-G];exact ri wD (hc c0 h1)
 replace HR:tn=uy.length:=HR;replace O:uy.length<=2^36:=O;obtain⟨⟨K,J⟩,De⟩:=D;replace hk:∀h' w j y C m E,Le h h'->Sl 84 aD h' (.slice w j y) K->Sl 84 aD h' (.slice C m E) J->k (.tuple #[.slice w j y,.slice C m E,.int .i64 De]) h':=hk;refine mQx jKj Tryz.func73 λA hA=>?_;cbv;intro wb h1 f1 e1;have l1:Le h h1:=by rw[e1];exact Le.set f1
 have gw:h1 wb=some (.cells #[.pointer (some ⟨pb,0,none⟩)] 89 (0,0)):=by rw[e1];exact ae
 clear e1;cbv;intro zl G f2 e2;have l2:Le h1 G:=by rw[e2];exact Le.set f2
 have gt:G zl=some (.cells #[.func (.func 74) #[] #[p0,p1,p2]] 170 (0,0)):=by rw[e2];exact ae
 clear e2;cbv;intro u h3 f3 e3;have l3:Le G h3:=by rw[e3];exact Le.set f3
 have gr:h3 u=some (.cells #[.slice none 0 0] 34 (0,0)):=by rw[e3];exact ae
 clear e3;cbv;intro t h4 f4 e4;have l4:Le h3 h4:=by rw[e4];exact Le.set f4
 have gf:h4 t=some (.cells #[.slice none 0 0] 34 (0,0)):=by rw[e4];exact ae
 have ch:u≠t:=λe=>by rw[<-e,gr]at f4;cases f4
 clear e4;have jZ:Le h G:=l1.trans l2;have rY:Le h h4:=jZ.trans (l3.trans l4);cbv;refine me (nm:=X) wD.nm (cols:=mI) (λc hh=>(hc c hh).nm) (wO.mono (rY.t _)) aK au tb tn tc (λh5 ab U W l5 aj=>?_);cbv;intro cp h6 f6 e6;have l6:Le h5 h6:=by rw[e6];exact Le.set f6
 have ak:h6 cp=some (.cells #[.slice none 0 0] 38 (0,0)):=by rw[e6];exact ae
 clear e6;cbv;refine ja ak (by simp) (λh7 e7=>?_);have gc:h7 cp=some (.cells #[.slice ab U W] 38 (0,0)):=by rw[e7];exact ae
 have Ft:Le h5 h7:=λb o a=>by rw[e7,aO (λe=>by rw[e,f6]at a;cases a)];exact l6 _ _ a
 have ay:G u=none:=f3;have aH:h3 t=none:=f4;have aV:cp≠u:=λe=>by rw[e,l5 _ _ (l4 _ _ gr)]at f6;cases f6
 have aW:cp≠t:=λe=>by rw[e,l5 _ _ gf]at f6;cases f6
 have ag:=Ft _ _ (l5 _ _ (l4 _ _ gr));have an:=Ft _ _ (l5 _ _ gf);clear e7 l6 ak;obtain⟨B,hB⟩:∃B,B=Sx.eF (Sx.eF h7 u) t:=⟨_,rfl⟩;have ba:Le B h7:=by rw[hB];exact(Sx.fY _ t).trans (Sx.fY _ u)
 have Ww:B u=none:=by rw[hB,Sx.cY ch];exact Sx.dP _ _
 have R:B t=none:=by rw[hB];exact Sx.dP _ _
 have Q:Le G B:=λb o a=>by
  have j:b≠u:=λe=>by rw[e,ay]at a;cases a
  have m:b≠t:=λe=>by have:=l3 _ _ a;rw[e,aH]at this;cases this
  rw[hB,Sx.cY m,Sx.cY j];exact Ft _ _ (l5 _ _ (l4 _ _ (l3 _ _ a)))
 have aZ:B cp=some (.cells #[.slice ab U W] 38 (0,0)):=by rw[hB,Sx.cY aW,Sx.cY aV];exact gc
 have al:∀tys,34∉tys->bR tys h7 B:=λtys ht b c e fr hm a=>by
  have j:b≠u:=λe'=>by rw[e',ag]at a;cases a;exact ht hm
  have m:b≠t:=λe'=>by rw[e',an]at a;cases a;exact ht hm
  rw[hB,Sx.cY m,Sx.cY j];exact a
 have aP:Sl 155 bI B (.slice ab U W) (mI.map (ph X)):=(aj.sl.mono (Ft.t _)).mono (al _ (by decide));have uM:Le h B:=jZ.trans Q;have PA:=q.mono uM;clear hB al l5 Ft aj gc l4 l3;obtain⟨I,Y⟩:∃I:Nat->ad->Prop,∀i h',I i h'=∃p,UK B h' u t p.1 p.2/\p.1.length<=i/\p.2.length<=i/\eN st.bV (mI.map (ph X)) f (uy.drop i) p=((K,J),De):=⟨_,λ_ _=>rfl⟩;have hJ:I 0 h7:=by rw[Y];exact⟨([],[]),⟨⟨_,_,_,_,_,_,ag,an,⟨none,none,.inl ⟨rfl,rfl,rfl⟩,.inl ⟨rfl,rfl,rfl⟩,λ_ hh=>by cases hh⟩⟩,ba,Ww,R,ch⟩,mQD _,mQD _,hD.symm⟩
 cbv;refine mXU HR I hJ (λi h' N=>?_) (λi x h' w j y hi uQ N hv=>?_) (λh' N=>?_)
 .rw[Y]at N;obtain⟨p,qs,-⟩:=N;exact Jp.mono ((uM.trans qs.le).t _)
 .rw[Y]at N;obtain⟨⟨xs,ys⟩,qs,Ah,KB,H⟩:=N;have MH:=mQz uQ;have hd:uy.drop i=x::uy.drop (i+1):=by obtain⟨h1,G⟩:=mQB.1 uQ;rw[mQJ h1,G]
  replace Ah:xs.length<=i:=Ah;replace KB:ys.length<=i:=KB;have aw:xs.length<=2^37:=by omega
  have az:ys.length<=2^37:=by omega
  rw[hd,oa]at H;refine bXh qs aw az PA hx (Q _ _ (l2 _ _ gw)) ar aZ aP (Q _ _ gt) (fZ x MH) hv (f:=f) (λM l9 z=>uz M x w j y (uM.trans l9) MH z) rfl (λM z=>⟨_,rfl,λh0=>?_,λh0=>?_⟩)
  .rw[Y];rw[if_neg (λg=>g h0)]at H;refine⟨_,z,?_,?_,H⟩
   .exact(xz Ah KB).1
   exact(xz Ah KB).2
  rw[if_pos h0]at H;rw[H]at z |-;replace z:UK B M u t K J:=z;obtain⟨w,j,y,C,m,E,g1,g2,tw⟩:=z.out;have S:=z.le;obtain⟨o1,o2,t1,t2,-⟩:=tw.out;have s1:=t1.sl;have s2:=t2.sl;have P:=λh' l l1 l2=>hk h' w j y C m E (uM.trans l) (s1.mono l1) (s2.mono l2);clear hk Y z tw t1 t2;cbv;refine mQw g1 ?_;cbv;refine mQw g2 ?_;cbv;refine ja g1 (by simp) (λL V=>?_);have ou:L t=some (.cells #[.slice C m E] 34 (0,0)):=by rw[V,aO (Ne.symm ch)];exact g2
  have uk:L u=some (.cells #[.slice w j y] 34 (0,0)):=by rw[V];exact ae
  have uL:bR [84,86] M L:=by rw[V];exact bR.set g1 (by decide)
  have SQ:Le B L:=λb o a=>by rw[V,aO (λe=>by rw[e,Ww]at a;cases a)];exact S _ _ a
  clear V;cbv;refine mQw ou ?_;cbv;refine⟨⟨_,rfl,rfl⟩,?_⟩;cbv;refine ja ou (by simp) (λZ F=>?_);have g3:Z t=some (.cells #[.slice C m E] 34 (0,0)):=by rw[F];exact ae
  have g4:Z u=some (.cells #[.slice w j y] 34 (0,0)):=by rw[F,aO ch];exact uk
  have HD:bR [84,86] L Z:=by rw[F];exact bR.set ou (by decide)
  have SP:Le B Z:=λb o a=>by rw[F,aO (λe=>by rw[e,R]at a;cases a)];exact SQ _ _ a
  have P:=P Z SP (uL.trans HD) (uL.trans HD);clear F;cbv;refine mQw g4 ?_;cbv;refine mQw g3 ?_;cbv;exact P
 rw[Y]at N;obtain⟨⟨xs,ys⟩,z,Ah,KB,H⟩:=N;obtain⟨M,rfl⟩:∃M,M=h':=⟨_,rfl⟩;rw[mQT (by omega)]at H;have H:(((xs,ys),0):(List Row×List Row)×Int)=((K,J),De):=H;replace z:UK B M u t xs ys:=z;cases H;obtain⟨w,j,y,C,m,E,g1,g2,tw⟩:=z.out;have S:=z.le;obtain⟨o1,o2,t1,t2,-⟩:=tw.out;have s1:=t1.sl;have s2:=t2.sl;have P:=λh' l l1 l2=>hk h' w j y C m E (uM.trans l) (s1.mono l1) (s2.mono l2);clear hk Y z tw t1 t2;cbv;refine mQw g1 ?_;cbv;refine mQw g2 ?_;cbv;refine ja g1 (by simp) (λL V=>?_);have ou:L t=some (.cells #[.slice C m E] 34 (0,0)):=by rw[V,aO (Ne.symm ch)];exact g2
 have uk:L u=some (.cells #[.slice w j y] 34 (0,0)):=by rw[V];exact ae
 have uL:bR [84,86] M L:=by rw[V];exact bR.set g1 (by decide)
 have SQ:Le B L:=λb o a=>by rw[V,aO (λe=>by rw[e,Ww]at a;cases a)];exact S _ _ a
 clear V;cbv;refine mQw ou ?_;cbv;refine⟨⟨_,rfl,rfl⟩,?_⟩;cbv;refine ja ou (by simp) (λZ F=>?_);have g3:Z t=some (.cells #[.slice C m E] 34 (0,0)):=by rw[F];exact ae
 have g4:Z u=some (.cells #[.slice w j y] 34 (0,0)):=by rw[F,aO ch];exact uk
 have HD:bR [84,86] L Z:=by rw[F];exact bR.set ou (by decide)
 have SP:Le B Z:=λb o a=>by rw[F,aO (λe=>by rw[e,R]at a;cases a)];exact SQ _ _ a
 have P:=P Z SP (uL.trans HD) (uL.trans HD);clear F;cbv;refine mQw g4 ?_;cbv;refine mQw g3 ?_;cbv;exact P
theorem cZf(q:fM h pb d s st)(hx:dr st){T:cW}(wD:UI T.S.name)(hc:∀c∈T.S.cols,UI c.name)(fZ:∀r∈T.rows,∀v∈r,kM v)(O:T.rows.length<=2^36)
   (wO:Sl 155 bI h (.slice cb cn cc) T.S.cols)   (Jp:Sl 84 aD h (.slice tb tn tc) T.rows) 
 (uz:∀h' r rb rn rc,Le h h'->r∈T.rows->Sl 86 bq h' (.slice rb rn rc) r->Ct 82 [.slice rb rn rc] h' (λv kY=>∃b n c,v=.tuple #[.slice b n c,.int .i64 (f r).2]/\Le h' kY/\Sl 86 bq kY (.slice b n c) (f r).1))
  (hD:D=eN st.bV (aR T) f T.rows ([],[])) 
 (hk:∀h' w j y C m E,Le h h'->Sl 84 aD h' (.slice w j y) D.1.1->Sl 84 aD h' (.slice C m E) D.1.2->k (.tuple #[.slice w j y,.slice C m E,.int .i64 D.2]) h'):
 Ct 73 [.pointer (some ⟨pb,0,none⟩),.agg #[.string T.S.name,.slice cb cn cc,.int .i64 T.S.key,.bool T.S.only,.slice tb tn tc],.func (.func 82) #[] #[]] h k:=by
 have HR:=Jp.len;rw[mT]at hD;obtain⟨⟨X,mI,aK,au⟩,uy⟩:=T;replace hD:D=eN st.bV (mI.map (ph X)) f uy ([],[]):=hD;have ar:∀c∈mI.map (ph X),Nm c.name:=λc CG=>by
  obtain⟨c0,h1,G⟩:=mQW.1 CG;rw[<-G];exact ri wD (hc c0 h1)
 replace HR:tn=uy.length:=HR;replace O:uy.length<=2^36:=O;obtain⟨⟨K,J⟩,De⟩:=D;replace hk:∀h' w j y C m E,Le h h'->Sl 84 aD h' (.slice w j y) K->Sl 84 aD h' (.slice C m E) J->k (.tuple #[.slice w j y,.slice C m E,.int .i64 De]) h':=hk;refine mQx jKj Tryz.func73 λA hA=>?_;cbv;intro wb h1 f1 e1;have l1:Le h h1:=by rw[e1];exact Le.set f1
 have gw:h1 wb=some (.cells #[.pointer (some ⟨pb,0,none⟩)] 89 (0,0)):=by rw[e1];exact ae
 clear e1;cbv;intro zl G f2 e2;have l2:Le h1 G:=by rw[e2];exact Le.set f2
 have gt:G zl=some (.cells #[.func (.func 82) #[] #[]] 170 (0,0)):=by rw[e2];exact ae
 clear e2;cbv;intro u h3 f3 e3;have l3:Le G h3:=by rw[e3];exact Le.set f3
 have gr:h3 u=some (.cells #[.slice none 0 0] 34 (0,0)):=by rw[e3];exact ae
 clear e3;cbv;intro t h4 f4 e4;have l4:Le h3 h4:=by rw[e4];exact Le.set f4
 have gf:h4 t=some (.cells #[.slice none 0 0] 34 (0,0)):=by rw[e4];exact ae
 have ch:u≠t:=λe=>by rw[<-e,gr]at f4;cases f4
 clear e4;have jZ:Le h G:=l1.trans l2;have rY:Le h h4:=jZ.trans (l3.trans l4);cbv;refine me (nm:=X) wD.nm (cols:=mI) (λc hh=>(hc c hh).nm) (wO.mono (rY.t _)) aK au tb tn tc (λh5 ab U W l5 aj=>?_);cbv;intro cp h6 f6 e6;have l6:Le h5 h6:=by rw[e6];exact Le.set f6
 have ak:h6 cp=some (.cells #[.slice none 0 0] 38 (0,0)):=by rw[e6];exact ae
 clear e6;cbv;refine ja ak (by simp) (λh7 e7=>?_);have gc:h7 cp=some (.cells #[.slice ab U W] 38 (0,0)):=by rw[e7];exact ae
 have Ft:Le h5 h7:=λb o a=>by rw[e7,aO (λe=>by rw[e,f6]at a;cases a)];exact l6 _ _ a
 have ay:G u=none:=f3;have aH:h3 t=none:=f4;have aV:cp≠u:=λe=>by rw[e,l5 _ _ (l4 _ _ gr)]at f6;cases f6
 have aW:cp≠t:=λe=>by rw[e,l5 _ _ gf]at f6;cases f6
 have ag:=Ft _ _ (l5 _ _ (l4 _ _ gr));have an:=Ft _ _ (l5 _ _ gf);clear e7 l6 ak;obtain⟨B,hB⟩:∃B,B=Sx.eF (Sx.eF h7 u) t:=⟨_,rfl⟩;have ba:Le B h7:=by rw[hB];exact(Sx.fY _ t).trans (Sx.fY _ u)
 have Ww:B u=none:=by rw[hB,Sx.cY ch];exact Sx.dP _ _
 have R:B t=none:=by rw[hB];exact Sx.dP _ _
 have Q:Le G B:=λb o a=>by
  have j:b≠u:=λe=>by rw[e,ay]at a;cases a
  have m:b≠t:=λe=>by have:=l3 _ _ a;rw[e,aH]at this;cases this
  rw[hB,Sx.cY m,Sx.cY j];exact Ft _ _ (l5 _ _ (l4 _ _ (l3 _ _ a)))
 have aZ:B cp=some (.cells #[.slice ab U W] 38 (0,0)):=by rw[hB,Sx.cY aW,Sx.cY aV];exact gc
 have al:∀tys,34∉tys->bR tys h7 B:=λtys ht b c e fr hm a=>by
  have j:b≠u:=λe'=>by rw[e',ag]at a;cases a;exact ht hm
  have m:b≠t:=λe'=>by rw[e',an]at a;cases a;exact ht hm
  rw[hB,Sx.cY m,Sx.cY j];exact a
 have aP:Sl 155 bI B (.slice ab U W) (mI.map (ph X)):=(aj.sl.mono (Ft.t _)).mono (al _ (by decide));have uM:Le h B:=jZ.trans Q;have PA:=q.mono uM;clear hB al l5 Ft aj gc l4 l3;obtain⟨I,Y⟩:∃I:Nat->ad->Prop,∀i h',I i h'=∃p,UK B h' u t p.1 p.2/\p.1.length<=i/\p.2.length<=i/\eN st.bV (mI.map (ph X)) f (uy.drop i) p=((K,J),De):=⟨_,λ_ _=>rfl⟩;have hJ:I 0 h7:=by rw[Y];exact⟨([],[]),⟨⟨_,_,_,_,_,_,ag,an,⟨none,none,.inl ⟨rfl,rfl,rfl⟩,.inl ⟨rfl,rfl,rfl⟩,λ_ hh=>by cases hh⟩⟩,ba,Ww,R,ch⟩,mQD _,mQD _,hD.symm⟩
 cbv;refine mXU HR I hJ (λi h' N=>?_) (λi x h' w j y hi uQ N hv=>?_) (λh' N=>?_)
 .rw[Y]at N;obtain⟨p,qs,-⟩:=N;exact Jp.mono ((uM.trans qs.le).t _)
 .rw[Y]at N;obtain⟨⟨xs,ys⟩,qs,Ah,KB,H⟩:=N;have MH:=mQz uQ;have hd:uy.drop i=x::uy.drop (i+1):=by obtain⟨h1,G⟩:=mQB.1 uQ;rw[mQJ h1,G]
  replace Ah:xs.length<=i:=Ah;replace KB:ys.length<=i:=KB;have aw:xs.length<=2^37:=by omega
  have az:ys.length<=2^37:=by omega
  rw[hd,oa]at H;refine bXi qs aw az PA hx (Q _ _ (l2 _ _ gw)) ar aZ aP (Q _ _ gt) (fZ x MH) hv (f:=f) (λM l9 z=>uz M x w j y (uM.trans l9) MH z) rfl (λM z=>⟨_,rfl,λh0=>?_,λh0=>?_⟩)
  .rw[Y];rw[if_neg (λg=>g h0)]at H;refine⟨_,z,?_,?_,H⟩
   .exact(xz Ah KB).1
   exact(xz Ah KB).2
  rw[if_pos h0]at H;rw[H]at z |-;replace z:UK B M u t K J:=z;obtain⟨w,j,y,C,m,E,g1,g2,tw⟩:=z.out;have S:=z.le;obtain⟨o1,o2,t1,t2,-⟩:=tw.out;have s1:=t1.sl;have s2:=t2.sl;have P:=λh' l l1 l2=>hk h' w j y C m E (uM.trans l) (s1.mono l1) (s2.mono l2);clear hk Y z tw t1 t2;cbv;refine mQw g1 ?_;cbv;refine mQw g2 ?_;cbv;refine ja g1 (by simp) (λL V=>?_);have ou:L t=some (.cells #[.slice C m E] 34 (0,0)):=by rw[V,aO (Ne.symm ch)];exact g2
  have uk:L u=some (.cells #[.slice w j y] 34 (0,0)):=by rw[V];exact ae
  have uL:bR [84,86] M L:=by rw[V];exact bR.set g1 (by decide)
  have SQ:Le B L:=λb o a=>by rw[V,aO (λe=>by rw[e,Ww]at a;cases a)];exact S _ _ a
  clear V;cbv;refine mQw ou ?_;cbv;refine⟨⟨_,rfl,rfl⟩,?_⟩;cbv;refine ja ou (by simp) (λZ F=>?_);have g3:Z t=some (.cells #[.slice C m E] 34 (0,0)):=by rw[F];exact ae
  have g4:Z u=some (.cells #[.slice w j y] 34 (0,0)):=by rw[F,aO ch];exact uk
  have HD:bR [84,86] L Z:=by rw[F];exact bR.set ou (by decide)
  have SP:Le B Z:=λb o a=>by rw[F,aO (λe=>by rw[e,R]at a;cases a)];exact SQ _ _ a
  have P:=P Z SP (uL.trans HD) (uL.trans HD);clear F;cbv;refine mQw g4 ?_;cbv;refine mQw g3 ?_;cbv;exact P
 rw[Y]at N;obtain⟨⟨xs,ys⟩,z,Ah,KB,H⟩:=N;obtain⟨M,rfl⟩:∃M,M=h':=⟨_,rfl⟩;rw[mQT (by omega)]at H;have H:(((xs,ys),0):(List Row×List Row)×Int)=((K,J),De):=H;replace z:UK B M u t xs ys:=z;cases H;obtain⟨w,j,y,C,m,E,g1,g2,tw⟩:=z.out;have S:=z.le;obtain⟨o1,o2,t1,t2,-⟩:=tw.out;have s1:=t1.sl;have s2:=t2.sl;have P:=λh' l l1 l2=>hk h' w j y C m E (uM.trans l) (s1.mono l1) (s2.mono l2);clear hk Y z tw t1 t2;cbv;refine mQw g1 ?_;cbv;refine mQw g2 ?_;cbv;refine ja g1 (by simp) (λL V=>?_);have ou:L t=some (.cells #[.slice C m E] 34 (0,0)):=by rw[V,aO (Ne.symm ch)];exact g2
 have uk:L u=some (.cells #[.slice w j y] 34 (0,0)):=by rw[V];exact ae
 have uL:bR [84,86] M L:=by rw[V];exact bR.set g1 (by decide)
 have SQ:Le B L:=λb o a=>by rw[V,aO (λe=>by rw[e,Ww]at a;cases a)];exact S _ _ a
 clear V;cbv;refine mQw ou ?_;cbv;refine⟨⟨_,rfl,rfl⟩,?_⟩;cbv;refine ja ou (by simp) (λZ F=>?_);have g3:Z t=some (.cells #[.slice C m E] 34 (0,0)):=by rw[F];exact ae
 have g4:Z u=some (.cells #[.slice w j y] 34 (0,0)):=by rw[F,aO ch];exact uk
 have HD:bR [84,86] L Z:=by rw[F];exact bR.set ou (by decide)
 have SP:Le B Z:=λb o a=>by rw[F,aO (λe=>by rw[e,R]at a;cases a)];exact SQ _ _ a
 have P:=P Z SP (uL.trans HD) (uL.trans HD);clear F;cbv;refine mQw g4 ?_;cbv;refine mQw g3 ?_;cbv;exact P
open Go.Sx
structure ij(P:Row->Prop)(Pn:ByteArray->Prop)(d:DB):Prop where
 nm:∀t∈d.az,Pn t.S.name
 rows:∀t∈d.az,∀r∈t.rows,P r
 log:∀w∈d.aq,∀c∈w.log,P c.row
section
variable {P:Row->Prop}{Pn:ByteArray->Prop}
theorem GH{t:cW}{x:Row}(h:x∈(bK t r).1.rows):x=r\/x∈t.rows:=by
 unfold bK at h;split at h
 .exact .inr h
 split at h
 .exact .inr h
 split at h
 .exact .inr h
 have h:x∈t.rows.take _++[r]++t.rows.drop _:=h;simp only[mXk,mQE,mQH]at h;rcases h with h|h|h
 .exact .inr (mXF h)
 .exact .inl h
 exact .inr (mXZ h)
theorem EI{t:cW}{k:cO}{x:Row}(h:x∈(bH t k).1.rows):x∈t.rows:=by
 unfold bH at h;split at h
 .have h:x∈t.rows.take _++t.rows.drop _:=h;rcases mQE.1 h with h|h
  .exact mXF h
  exact mXZ h
 exact h
theorem Ok{t:cW}{k:cO}:(bH t k).2.1=[]\/(bH t k).2.1∈t.rows:=by
 unfold bH;split
 .show(t.rows[_]?).getD []=[]\/(t.rows[_]?).getD []∈t.rows;cases h:t.rows[di (dA t k)]? with
  |none=>exact .inl rfl
  |some r=>exact .inr (mQz h)
 exact .inl rfl
def IZ(P:Row->Prop)(Pn:ByteArray->Prop)(T:List cW):Prop:=∀t∈T,Pn t.S.name/\∀r∈t.rows,P r
theorem IZ.set{T:List cW}(h:IZ P Pn T){t:cW}(a:Pn t.S.name/\∀r∈t.rows,P r):IZ P Pn (T.set i t):=λx hx=>by
 rcases mXz hx with hx|hx
 .exact h x hx
 rw[hx];exact a
theorem bJr{T:List cW}{x:dV}(h:IZ P Pn T)(hx:P x.row):IZ P Pn (gC T x):=by
 unfold gC;split
 .split
  .rename_i t b;have Y:=h t (mQz b);split
   .refine h.set ⟨by rw[lf];exact Y.1,λr a=>?_⟩;rcases GH a with a|a
    .rw[a];exact hx
    exact Y.2 r a
   split
   .exact h.set ⟨by rw[lE];exact Y.1,λr a=>Y.2 r (EI a)⟩
   exact h
  exact h
 exact h
theorem LA{T:List cW}(h:IZ P Pn T):∀ {l:List dV},(∀c∈l,P c.row)->IZ P Pn (eV T l)
 | [],_=>h
 |x::l,a=>bJr (LA h λc b=>a c (mXm _ b)) (a x mXn)
theorem ij.dXw(q:ij P Pn d):IZ P Pn d.az:=λt h=>⟨q.nm t h,q.rows t h⟩
theorem ij.of(h:IZ P Pn d.az)(l:∀w∈d.aq,∀c∈w.log,P c.row):ij P Pn d:=⟨λt a=>(h t a).1,λt a=>(h t a).2,l⟩
theorem cZu{T:List cW}{a:List fJ}(h:IZ P Pn T)(l:∀w∈a,∀c∈w.log,P c.row):IZ P Pn (tH T a s):=by
 unfold tH;split
 .split
  .rename_i w b;exact LA h (l w (mQz b))
  exact h
 exact h
theorem ij.back(q:ij P Pn d)(s:Int):ij P Pn (kh d s):=
 ij.of (cZu q.dXw q.log) λw h=>q.log w ((rV d.aq s).subset h)
theorem ij.HF(q:ij P Pn d){H W:List cg}:ij P Pn ⟨d.az,d.aq,H,W⟩:=⟨q.nm,q.rows,q.log⟩
theorem ij.jK:∀(f:Nat) {d:DB},ij P Pn d->ij P Pn (jK f d hd).1
 |0,d,q=>q
 |f+1,d,q=>by
  unfold Go.S.jK;repeat' split
  all_goals first
   |exact ij.jK f (ij.back (ij.HF q) _)
   |exact ij.back (ij.HF q) _
   |exact ij.HF q
theorem ij.aL(q:ij P Pn d)(hd:cg):ij P Pn (aL d hd).1:=by
 unfold Go.S.aL;split
 .exact q.jK _
 exact q
theorem ij.aq(q:ij P Pn d){w:fJ}(h:∀c∈w.log,P c.row):∀x∈d.aq.set i w,∀c∈x.log,P c.row:=λx hx=>by
 rcases mXz hx with hx|hx
 .exact q.log x hx
 rw[hx];exact h
theorem ij.dM(q:ij P Pn d)(hd:cg)(e:∀t,Pn t.S.name->(∀r∈t.rows,P r)->Pn (a t).1.S.name/\(∀r∈(a t).1.rows,P r)/\P (a t).2.1.row):ij P Pn (dM d hd a).1:=by
 have b:=q.aL hd;unfold Go.S.dM;split
 .exact b
 split
 .rename_i t w f g;have Y:=mQz f;have J:=mQz g;have i:=e t (b.nm t Y) (b.rows t Y);split
  .exact b
  split
  .refine ij.of (b.dXw.set ⟨i.1,i.2.1⟩) (b.aq λc h=>?_);have h:c∈w.log++[_]:=h;rcases mQE.1 h with h|h
   .exact b.log w J c h
   rcases mQI.1 h with h|h
   .rw[h];exact i.2.2
   cases h
  exact b
 exact b
theorem ij.fF(q:ij P Pn d)(s:Int)(nm:ByteArray)(h:P r):ij P Pn (fF d s nm r).1:=
 q.dM _ λt a b=>⟨by show Pn (bK t r).1.S.name;rw[lf];exact a,λx hx=>by
  rcases GH hx with hx|hx
  .rw[hx];exact h
  exact b x hx,h⟩
theorem ij.iz(q:ij P Pn d)(s:Int)(nm:ByteArray)(k:cO)(h0:P []):ij P Pn (iz d s nm k).1:=
 q.dM _ λt a h=>by
  unfold dR;split
  .exact⟨a,h,h0⟩
  refine⟨by show Pn (bH t k).1.S.name;rw[lE];exact a,λx hx=>h x (EI hx),?_⟩;show P (bH t k).2.1;rcases Ok (t:=t) (k:=k)with e|e
  .rw[e];exact h0
  exact h _ e
theorem ij.save(q:ij P Pn d)(s:Int)(nm:ByteArray):ij P Pn (jT d s nm).1:=by
 unfold jT;repeat' split
 all_goals first
  |exact q
  | (
   rename_i w h _
   exact⟨q.nm,q.rows,q.aq (q.log w (mQz h))⟩)
theorem ij.kg(q:ij P Pn d)(s:Int)(nm:ByteArray):ij P Pn (kg d s nm).1:=by
 unfold Go.S.kg;repeat' split
 all_goals first
  |exact q
  | (
   rename_i w a _ k b
   have l:=q.log w (mQz a);exact ij.of (LA q.dXw λc h=>l c (mXZ h)) (q.aq λc h=>l c (mXF h)))
end
theorem Ip{c:cK}{v:cO}(h:dx c v=0):fv v=0/\(v.k=0->c.null=true)/\(v.k=0\/v.k=c.kind):=by
 unfold dx at h;by_cases a:fv v=0
 .rw[a]at h;refine⟨a,?_,?_⟩
  .intro k;cases n:c.null with
   |true=>rfl
   |false=>simp[k,n]at h
  by_cases k:v.k=0
  .exact .inl k
  by_cases s:v.k=c.kind
  .exact .inr s
  simp[k,s]at h
 simp[a]at h
theorem JQ{v:cO}(h:fv v=0):vU v (pT v)=true/\v.s.size<=60:=by
 unfold fv at h;split at h
 .cases h
 split at h
 .cases h
 rename_i a;split at h
 .cases h
 rename_i b;have o:¬((v.s.size:Int)>60):=by simpa using b
 refine⟨?_,by omega⟩;cases s:vU v (pT v)with
 |true=>rfl
 |false=>rw[s]at a;simp at a
theorem Um(h:dg bp r=0):fK r:=by
 unfold dg at h;split at h
 .cases h
 rename_i l;have l:r.length=2:=by
  have:(r.length:Int)=(bp.length:Int):=by simpa using l
  have e:bp.length=2:=rfl;rw[e]at this;omega
 match r,l with
 | [a,b],_=>
  have h:fP [dx ⟨nA,2,false⟩ a,dx ⟨⟨#[98]⟩,3,true⟩ b]=0:=h;have g:dx ⟨nA,2,false⟩ a=0:=by
   by_cases c:dx ⟨nA,2,false⟩ a=0
   .exact c
   simp[fP,c]at h
  have o:dx ⟨⟨#[98]⟩,3,true⟩ b=0:=by
   rw[g]at h;by_cases c:dx ⟨⟨#[98]⟩,3,true⟩ b=0
   .exact c
   simp[fP,c]at h
  obtain⟨i,n,t⟩:=a;obtain⟨d,j,s⟩:=b;obtain⟨v,q,f⟩:=Ip g;obtain⟨u,w,p⟩:=Ip o;have f:i=2:=by
   rcases f with k|k
   .exact absurd (q k) (by decide)
   exact k
  subst f;obtain⟨s1,-⟩:=JQ v;obtain⟨s2,z⟩:=JQ u;have m:t=fQ:=by simp[vU,pT]at s1;exact s1
  subst m;refine⟨n,⟨d,j,s⟩,rfl,?_⟩;rcases p with k|k
  .have k:d=0:=k;subst k;simp[vU,pT]at s2;left;rw[s2.1];have:s=fQ:=s2.2;rw[this]
  have k:d=3:=k;subst k;simp[vU,pT]at s2;right;exact⟨s,by rw[s2],z⟩
theorem QV(h:∀t∈(aL d hd).1.az,(a t).2.2≠0):(dM d hd a).1=(aL d hd).1:=by
 unfold dM;split
 .rfl
 split
 .rename_i t w b c;have:=h t (mQz b);split
  .rfl
  rw[if_neg (by simpa using this)]
 rfl
theorem bJX{n:Nat}(q:SJ n d)(s:Int)(nm:ByteArray)(r:Row)(b:-2^63<=s/\s<2^63):SJ (n+1) (fF d s nm r).1:=by
 by_cases h:dg bp r=0
 .exact dXA q s nm b (.inl (Um h))
 have a:=yH q ⟨s,nm,true⟩ b;have:(fF d s nm r).1=(aL d ⟨s,nm,true⟩).1:=QV λt e=>by
  have c:=(a.sc.tw.ok t e).1;show(bK t r).2≠0;unfold bK;rw[c,if_pos (by simpa using h)];exact h
 rw[this];exact a
def fS(r:Row):Prop:=∀v∈r,kM v
structure EJ(n:Nat)(d:DB):Prop where
 sj:SJ n d
 al:ij fS UI d
theorem EJ.le{n m:Nat}(q:EJ n d)(h:n<=m):EJ m d:=⟨q.sj.le h,q.al⟩
theorem EJ.hold{n:Nat}(q:EJ n d)(hd:cg)(h:-2^63<=hd.s/\hd.s<2^63):EJ (n+1) (aL d hd).1:=⟨yH q.sj hd h,q.al.aL hd⟩
theorem EJ.put{n:Nat}(q:EJ n d)(nm:ByteArray)(a:-2^63<=s/\s<2^63)(h:fS r):EJ (n+1) (fF d s nm r).1:=⟨bJX q.sj s nm r a,q.al.fF s nm h⟩
theorem EJ.take{n:Nat}(q:EJ n d)(nm:ByteArray)(c:-2^63<=s/\s<2^63)(b:fK r):EJ (n+1) (iz d s nm (mD d nm r)).1:=by
 refine⟨?_,q.al.iz s nm _ (λ_ h=>by cases h)⟩;obtain⟨a,v,rfl,-⟩:=b;have k:(cI d nm).S.key=0:=by
  unfold cI;cases h:d.az.find? λt=>decide (t.S.name=nm)with
  |none=>rfl
  |some t=>exact(q.sj.sc.tw.ok t (mJu h)).2.1
 have:mD d nm [⟨2,a,fQ⟩,v]=⟨2,a,fQ⟩:=by unfold mD;rw[k];rfl
 rw[this];exact bJW q.sj s nm a c
structure bXU(T:cW):Prop where
 nm:UI T.S.name
 cols:T.S.cols=bp\/(T.S.cols=[]/\T.rows=[])
 key:T.S.key=0
 row:∀r∈T.rows,fK r/\fS r
 len:T.rows.length<=200
theorem Gf{l:By}(h:∀c∈l,c.toNat<128)(a:l.length<=2^30):UI (aM l):=⟨oh.2 h,a⟩
theorem XP:∀c∈bp,UI c.name:=by
 intro c h;rcases mQI.1 h with rfl|h
 .exact Gf (l:=[97]) (by decide) (by decide)
 rcases mQI.1 h with rfl|h
 .exact Gf (l:=[98]) (by decide) (by decide)
 cases h
theorem bXU.Bt{T:cW}(h:bXU T):∀c∈T.S.cols,UI c.name:=by
 rcases h.cols with e| ⟨e,-⟩
 .rw[e];exact XP
 rw[e];intro c a;cases a
theorem EJ.held{n:Nat}(q:EJ n d)(nm:ByteArray):bXU (cI d nm):=by
 unfold cI;cases h:d.az.find? λt=>decide (t.S.name=nm)with
 |none=>exact⟨Gf (l:=[]) (λ_ h=>by cases h) (by decide),.inr ⟨rfl,rfl⟩,rfl,(λ_ h=>by cases h),mQC _⟩
 |some t=>have Y:=mJu h;obtain⟨c,e,a,-⟩:=q.sj.sc.tw.ok t Y;exact⟨q.al.nm t Y,.inl c,e,λr b=>⟨a.ok r b,q.al.rows t Y r b⟩,a.le⟩
theorem eQO{r:Option Addr}{n c:Nat}(a:k (.tuple #[.slice none 0 0,.int .i64 0]) h):Ct 82 [.slice r n c] h k:=by refine mQx jKc Tryz.func82 λA b=>?_;cbv;exact a
theorem Bh{a:Type}(f:DB->a->DB×Int)(x:a)(r:List a)(d:DB):CV f (x::r) d=match f d x with
 | (b,e)=>if e≠0 then(b,e)else CV f r b:=rfl
theorem yv:∀ {rows:List Row} {xs ys:List Row},∀x∈(eN w cols f rows (xs,ys)).1.1,x∈xs\/x∈rows
 | [],xs,ys,x,h=>.inl h
 |r::rs,xs,ys,x,h=>by
  rw[oa]at h;have s:∀x∈(je w cols f r xs ys).1.1,x∈xs\/x∈r::rs:=λx hx=>by
   unfold je at hx;generalize dt w cols r=H at hx;obtain⟨is,e⟩:=H;have hx:x∈(if e≠0 then((xs,ys),e)else if is=false then((xs,ys),0)else((xs++[r],ys++[(f r).1]),(f r).2):(List Row×List Row)×Int).1.1:=hx;split at hx
   .exact .inl hx
   split at hx
   .exact .inl hx
   rcases mQE.1 hx with hx|hx
   .exact .inl hx
   rcases mQI.1 hx with hx|hx
   .rw[hx];exact .inr mXn
   cases hx
  by_cases c:(je w cols f r xs ys).2≠0
  .rw[if_pos c]at h;exact s x h
  rw[if_neg c]at h;generalize je w cols f r xs ys=E at *;obtain⟨⟨a,b⟩,e⟩:=E;rcases yv x h with h|h
  .exact s x h
  exact .inr (mXm _ h)
theorem aXw(q:fM h p d s st){n:Nat}(G:EJ n d){rows:List Row}(N:∀r∈rows,fK r)(V:n+rows.length+2<2^18)(u:-2^63<=s/\s<2^63){A:Option Addr}{B:Nat}(z:Sl 84 aD h (.slice A C B) rows)
 {D:DB×Int} (J:iZ s st.table rows d=D)  (t:∀h',Kp [p] h h'->fM h' p D.1 s st->k (.int .i64 D.2) h'):
 Ct 77 [.slice A C B,.func (.func 78) #[.pointer (some ⟨p,0,none⟩)] #[]] h k:=by
 have L:=z.len;obtain⟨I,Y⟩:∃I:Nat->ad->Prop,∀i h',I i h'=∃c,fM h' p c s st/\EJ (n+i) c/\Kp [p] h h'/\iZ s st.table (rows.drop i) c=D:=⟨_,λ_ _=>rfl⟩;have K:I 0 h:=by rw[Y];exact⟨d,q,G,Kp.refl _ _,J⟩
 refine mXU L I K (λi h' j=>?_) (λi x h' P T R S hx j O=>?_) (λh' j=>?_)
 .rw[Y]at j;obtain⟨c,m,U,kp,-⟩:=j;exact z.mono (q.kp kp (by decide))
 .rw[Y]at j;obtain⟨c,m,U,kp,b⟩:=j;have hd:rows.drop i=x::rows.drop (i+1):=by obtain⟨H,o⟩:=mQB.1 hx;rw[mQJ H,o]
  have M:=N x (mQz hx);have l:x.length=2:=by obtain⟨a,v,e,-⟩:=M;rw[e];rfl
  have F:=(U.held st.table).key;rw[hd]at b;replace b:(match iz c s st.table (mD c st.table x)with
   | (f,e)=>if e≠0 then(f,e)else iZ s st.table (rows.drop (i+1)) f)=D:=b
  have Q:=U.take st.table u M;refine eJF m U.sj.Ko (by omega) u (by rw[F,l];decide) O (λo w y=>⟨_,rfl,λh0=>?_,λh0=>?_⟩)
  .generalize iz c s st.table (mD c st.table x)=E at *;obtain⟨f,e⟩:=E;replace b:(if e≠0 then(f,e)else iZ s st.table (rows.drop (i+1)) f)=D:=b;rw[if_neg (λg=>g h0)]at b;rw[Y];exact⟨f,y,Q,kp.trans w,b⟩
  generalize iz c s st.table (mD c st.table x)=E at *;obtain⟨f,e⟩:=E;replace b:(if e≠0 then(f,e)else iZ s st.table (rows.drop (i+1)) f)=D:=b;rw[if_pos h0]at b;subst b;exact t o (kp.trans w) y
 rw[Y]at j;obtain⟨c,m,U,kp,b⟩:=j;rw[mQT (by omega)]at b;have b:(c,0)=D:=b;subst b;exact t h' kp m
def zT(d:DB)(s:Int)(x:aJ)(T:cW):DB×Int:=
 if aU x.bV (aR T)≠0 then(d,aU x.bV (aR T))else match eN x.bV (aR T) (λ_=>([],0)) T.rows ([],[])with
  | (p,e)=>if e≠0 then(d,e)else iZ s x.table p.1 d
theorem yw{w:List Nd}{cols:List cK}{f:Row->Row×Int}:∀ {rows:List Row} {xs ys:List Row},(eN w cols f rows (xs,ys)).1.1.length<=xs.length+rows.length/\(eN w cols f rows (xs,ys)).1.2.length<=ys.length+rows.length
 | [],xs,ys=>⟨mQD _,mQD _⟩
 |r::rs,xs,ys=>by
  rw[oa];have s:=xz (w:=w) (cols:=cols) (f:=f) (r:=r) (xs:=xs) (ys:=ys) (i:=max xs.length ys.length) (by omega) (by omega);have h:(je w cols f r xs ys).1.1.length<=xs.length+1/\(je w cols f r xs ys).1.2.length<=ys.length+1:=by
   unfold je;generalize dt w cols r=H;obtain⟨is,e⟩:=H;by_cases h0:e=0
   .cases is
    .simp[h0]
    simp[h0]
   simp[h0]
  by_cases c:(je w cols f r xs ys).2≠0
  .rw[if_pos c];simp only[mQM];omega
  rw[if_neg c];generalize je w cols f r xs ys=E at *;obtain⟨⟨a,b⟩,e⟩:=E;have:=yw (w:=w) (cols:=cols) (f:=f) (rows:=rs) (xs:=a) (ys:=b);simp only[mQM];have d:a.length<=xs.length+1/\b.length<=ys.length+1:=h;omega
def bZe(d:DB)(s:Int)(st:aJ)(T:cW):Prop:=∀ {h:ad} {pb:Nat} (q:fM h pb d s st) (hx:dr st) {n:Nat} (ej:EJ n d) (qC:n+300<2^18) (jx:-2^63<=s/\s<2^63) {wb tb:Nat} (gw:h wb=some (.cells #[.pointer (some ⟨pb,0,none⟩)] 89 (0,0)))
 (hT:bXU T) {b1:Option Addr} {n1 c1:Nat} {b2:Option Addr} {n2 c2:Nat} (gt:h tb=some (.cells #[.string T.S.name,.slice b1 n1 c1,.int .i64 T.S.key,.bool T.S.only,.slice b2 n2 c2] 51 (0,0))) (wO:Sl 155 bI h (.slice b1 n1 c1) T.S.cols) (Jp:Sl 84 aD h (.slice b2 n2 c2) T.rows)
 {k:Value->ad->Prop} (hk:∀h',Kp [pb] h h'->fM h' pb (zT d s st T).1 s st->k (.int .i64 (zT d s st T).2) h'),
 Ct 80 [.pointer (some ⟨wb,0,none⟩),.pointer (some ⟨tb,0,none⟩)] h k
theorem fJB{y:Nat}(q:fM h y d s st)(hx:dr st){n:Nat}(ej:EJ n d)(qC:n+300<2^18)(jx:-2^63<=s/\s<2^63){tb:Nat}(O:h wb=some (.cells #[.pointer (some ⟨y,0,none⟩)] 89 (0,0)))
 {T:cW} (a:bXU T) {Y:Option Addr} {n1 c1:Nat} {B:Option Addr} {S H:Nat} (N:h tb=some (.cells #[.string T.S.name,.slice Y n1 c1,.int .i64 T.S.key,.bool T.S.only,.slice B S H] 51 (0,0))) (wO:Sl 155 bI h (.slice Y n1 c1) T.S.cols) (Jp:Sl 84 aD h (.slice B S H) T.rows)
  (j:∀h',Kp [y] h h'->fM h' y (zT d s st T).1 s st->k (.int .i64 (zT d s st T).2) h'):
 Ct 80 [.pointer (some ⟨wb,0,none⟩),.pointer (some ⟨tb,0,none⟩)] h k:=by
 obtain⟨D,P⟩:∃D,zT d s st T=D:=⟨_,rfl⟩;rw[P]at j;refine q.elim (λau ak aH ar aj az an ag ay al ab aw Xh VD WZ Xg VC WY Xf Rv WX UC Ny NS Xe VB WW Dp BX Dm g qd q1 q2 q3 q4 U q6=>?_);clear q1 q2 q3 q4 U qd;have z:∀c∈aR T,Nm c.name:=λc CG=>by
  obtain⟨c0,h1,b⟩:=mQW.1 CG;rw[<-b];exact ri a.nm (a.Bt c0 h1)
 refine mQx eJi Tryz.func80 λA hA=>?_;cbv;refine mQw O ?_;cbv;first|rw[ai A,ai A] |rw[ai A] |skip
 refine mQw g ?_;cbv;refine mQw N ?_;cbv;refine me a.nm.nm (λc hh=>(a.Bt c hh).nm) wO T.S.key T.S.only B S H (λb cb cn cc v qb=>?_);have g2:=v _ _ g;have rz:=v _ _ O;have Z:=v _ _ N;cbv;first|rw[ai A,ai A] |rw[ai A] |skip
 refine mQw g2 ?_;cbv;refine⟨⟨_,rfl,rfl⟩,?_⟩;cbv;refine mQw rz ?_;cbv;refine⟨⟨_,rfl,rfl⟩,?_⟩;cbv;rw[<-mT]at qb;have u:D=if aU st.bV (aR T)≠0 then(d,aU st.bV (aR T))else match eN st.bV (aR T) (λ_=>([],0)) T.rows ([],[])with
  | (p,e)=>if e≠0 then(d,e)else iZ s st.table p.1 d:=P.symm
 refine rW hx.bV z (q6.mono (v.t _)) qb.sl (λh3 e l3 he=>?_);rw[<-he]at u;have fe:A .aI .neq e 0=decide (e≠0):=aC A ..;have L:=v.trans l3;have K:=q.mono L;have W:=L _ _ O;have G:=L _ _ N;clear P g g2 rz Z he;by_cases h0:e≠0
 .rw[if_pos h0]at u;subst u;have m:=j h3 (L.kp _) K;clear j;cbv;rw[fe,mQu h0];cbv;exact m
 rw[if_neg h0]at u;cbv;rw[fe,mQv h0];cbv;refine mQw W ?_;cbv;refine mQw G ?_;cbv;obtain⟨C,t⟩:∃C,C=eN st.bV (aR T) (λ_=>([],0)) T.rows ([],[]):=⟨_,rfl⟩;have V:∀x∈C.1.1,fK x:=λx X=>by
  rw[t]at X;rcases yv x X with h|h
  .cases h
  exact(a.row x h).1
 have i:C.1.1.length<=200:=by rw[t];have:=(yw (w:=st.bV) (cols:=aR T) (f:=λ_=>([],0)) (rows:=T.rows) (xs:=[]) (ys:=[])).1;have b:=a.len;simp only[mQS]at this;omega
 rw[<-t]at u;refine cZf K hx a.nm a.Bt (λr hr=>(a.row r hr).2) (by have:=a.len;omega) (wO.mono (L.t _)) (Jp.mono (L.t _)) (f:=λ_=>([],0)) (λh' r rb rn rc l _ _=>eQO ⟨none,0,0,rfl,Le.refl _,Sl.nil⟩) t (λh4 I M E aV aK aP R s1 s2=>?_);obtain⟨⟨xs,ys⟩,o⟩:=C;replace s1:Sl 84 aD h4 (.slice I M E) xs:=s1;replace u:D=if o≠0 then(d,o)else iZ s st.table xs d:=u
 replace V:∀x∈xs,fK x:=V;replace i:xs.length<=200:=i;have Q:A .aI .eql o 0=decide (o=0):=aA A ..;have J:=K.mono R;have Ji:=R _ _ W;have F:=(L.trans R).kp [y];clear s2 t;by_cases b:o=0
 .rw[if_neg (λg=>g b)]at u;cbv;rw[Q,mQu b];cbv;refine mQw Ji ?_;cbv;refine aXw J ej V (by omega) jx s1 u.symm (λh5 k5 U=>?_);have m:=j h5 (F.trans k5) U;clear j;cbv;exact m
 rw[if_pos b]at u;subst u;have m:=j h4 F J;clear j;cbv;rw[Q,mQv b];cbv;exact m
theorem fJz(q:fM h p d s st)(hx:dr st){n:Nat}(ej:EJ n d)(jm:n+700<2^18)(jx:-2^63<=s/\s<2^63)(N:∀a T,(aL d ⟨s,st.table,true⟩).1=a->cI a st.table=T->bZe a s st T)
 (l:∀h',Kp [p] h h'->fM h' p (jt d s st).1 s st->k (.tuple #[.slice none 0 0,.int .i64 (jt d s st).2.2]) h'):
 Ct 28 [.pointer (some ⟨p,0,none⟩)] h k:=by
 have P:jt d s st=match aL d ⟨s,st.table,true⟩with
  | (d,e)=>if e≠0 then(d,[],e)else if(cI d st.table).S.only=true then(d,[],19)else cP d (zT d s st (cI d st.table)):=rfl
 generalize jt d s st=D at *;have W:=ej.hold ⟨s,st.table,true⟩ jx;obtain⟨c,hp⟩:=q.has;refine q.elim (λb1 n1 c1 b2 n2 c2 b3 n3 c3 b4 n4 c4 b5 n5 c5 b6 n6 c6 b7 n7 c7 b8 n8 c8 b9 n9 c9 gW jD gT g qd q1 m L q4 z q6=>?_);clear q1 m L q4 z q6;refine mQx hQj Tryz.func28 λA hA=>?_;cbv;intro wb h1 gn e1;have l1:Le h h1:=by rw[e1];exact Le.set gn
 have sq:h1 wb=some (.cells #[.pointer (some ⟨p,0,none⟩)] 89 (0,0)):=by rw[e1];exact ae
 have nw:wb≠p:=λe=>by rw[e,hp]at gn;cases gn
 have g1:=l1 _ _ g;clear e1;cbv;refine mQw sq ?_;cbv;refine mQw sq ?_;cbv;first|rw[ai A,ai A] |rw[ai A] |skip
 refine mQw g1 ?_;cbv;refine UP (q.mono l1) ej.sj.Ko (by omega) st.table true (λF k2 m=>?_);generalize aL d ⟨s,st.table,true⟩=H at *;obtain⟨a,e⟩:=H;replace m:fM F p a s st:=m;replace W:EJ (n+1) a:=W;replace P:D=if e≠0 then(a,[],e)else if(cI a st.table).S.only=true then(a,[],19)else cP a (zT a s st (cI a st.table)):=P
 have fe:A .aI .neq e 0=decide (e≠0):=aC A ..;have Z:Kp [p] h F:=(l1.kp _).trans k2;have rz:=k2 _ _ sq (by simpa using nw);by_cases h0:e≠0
 .rw[if_pos h0]at P;subst P;have v:=l F Z m;clear l;cbv;rw[fe,mQu h0];cbv;exact v
 rw[if_neg h0]at P;have RN:=W.held st.table;refine m.elim (λaK aw aY aH au aW az ar aV ay an aP Xh VD WZ Xg VC WY Xf Rv WX UC Ny NS Xe VB WW Dp BX Dm g2 aj q1 ak L q4 z q6=>?_);clear q1 ak L q4 z q6 aj;cbv;rw[fe,mQv h0];cbv;refine mQw rz ?_;cbv;refine mQw rz ?_;cbv;first|rw[ai A,ai A] |rw[ai A] |skip
 refine mQw g2 ?_;cbv;refine⟨?_,?_⟩
 .refine EZ m st.table (λT t1 u1 w1 t2 u2 w2 J s1 s2=>?_);rw[<-J]at RN P;replace N:bZe a s st T:=N a T rfl J.symm;clear J;cbv;intro t O x C;have R:Le F O:=by rw[C];exact Le.set x
  have Zg:O t=some (.cells #[.string ⟨#[]⟩,.slice none 0 0,.int .i64 0,.bool false,.slice none 0 0] 51 (0,0)):=by rw[C];exact ae
  obtain⟨G,rfl⟩:∃G,G=F:=⟨_,rfl⟩;have g3:=g2;have Bf:=rz;have Px:=Z;have L:=m;clear C;cbv;refine ja Zg (by simp) (λj w=>?_);have i:j t=some (.cells #[.string T.S.name,.slice t1 u1 w1,.int .i64 T.S.key,.bool T.S.only,.slice t2 u2 w2] 51 (0,0)):=by rw[w];exact ae
  have M:Le G j:=λb o K=>by rw[w,aO (λe=>by rw[e,x]at K;cases K)];exact R _ _ K
  have JC:t≠p:=λe=>by rw[e,g3]at x;cases x
  clear w;obtain⟨X,B⟩:∃b,b=T.S.only:=⟨_,rfl⟩;have Q:=i;rw[<-B]at Q;cbv;rw[ai A,ai A];refine mQw Q ?_;cbv;have S:=M _ _ Bf;have V:=Px.trans (M.kp [p]);have z:=L.mono M;cases X with
  |true=>rw[<-B,if_pos rfl]at P;subst P;have v:=l j V z;clear l;cbv;exact v
  |false=>rw[<-B,if_neg (by simp)]at P;have ig:∀f,Le j f->fM f p a s st->Ct 80 [.pointer (some ⟨wb,0,none⟩),.pointer (some ⟨t,0,none⟩)] f (λr I=>r=.int .i64 (zT a s st T).2/\Kp [p] f I/\fM I p (zT a s st T).1 s st):=λf y u=>N u hx W (by omega) jx (y _ _ S) RN (y _ _ i) (s1.mono ((M.trans y).t _)) (s2.mono ((M.trans y).t _)) (λI k7 q7=>⟨rfl,k7,q7⟩);generalize zT a s st T=E at *;cbv;refine mQw S ?_;cbv;refine NZ z ig (λf k6 u=>?_);rw[<-P]at u |-;have v:=l f (V.trans k6) u;clear l ig;generalize D.2.2=De at *;cbv;exact v
 intro t O x C;have R:Le F O:=by rw[C];exact Le.set x
 have Zg:O t=some (.cells #[.string ⟨#[]⟩,.slice none 0 0,.int .i64 0,.bool false,.slice none 0 0] 51 (0,0)):=by rw[C];exact ae
 obtain⟨G,rfl⟩:∃G,G=F:=⟨_,rfl⟩;have g3:=g2;have Bf:=rz;have Px:=Z;have L:=m;have al:=R _ _ g2;have U:=R _ _ rz;clear C;cbv;refine mQw al ?_;cbv;refine⟨⟨_,rfl,rfl⟩,?_⟩;cbv;refine mQw U ?_;cbv;refine⟨⟨_,rfl,rfl⟩,?_⟩;cbv;refine mQw U ?_;cbv;refine⟨⟨_,rfl,rfl⟩,?_⟩;cbv;refine EZ (m.mono R) st.table (λT t1 u1 w1 t2 u2 w2 J ab Y=>?_);rw[<-J]at RN P;replace N:bZe a s st T:=N a T rfl J.symm;clear J;cbv;refine ja Zg (by simp) (λj w=>?_);have ag:j t=some (.cells #[.string T.S.name,.slice t1 u1 w1,.int .i64 T.S.key,.bool T.S.only,.slice t2 u2 w2] 51 (0,0)):=by rw[w];exact ae
 have Cf:bR [155,84,86] O j:=by rw[w];exact bR.set Zg (by decide)
 have s1:=ab.mono (Cf.sub);have s2:=Y.mono (Cf.sub);clear ab Y Cf ag;have i:j t=some (.cells #[.string T.S.name,.slice t1 u1 w1,.int .i64 T.S.key,.bool T.S.only,.slice t2 u2 w2] 51 (0,0)):=by rw[w];exact ae
 have M:Le G j:=λb o K=>by rw[w,aO (λe=>by rw[e,x]at K;cases K)];exact R _ _ K
 have JC:t≠p:=λe=>by rw[e,g3]at x;cases x
 clear w;obtain⟨X,B⟩:∃b,b=T.S.only:=⟨_,rfl⟩;have Q:=i;rw[<-B]at Q;cbv;rw[ai A,ai A];refine mQw Q ?_;cbv;have S:=M _ _ Bf;have V:=Px.trans (M.kp [p]);have z:=L.mono M;cases X with
 |true=>rw[<-B,if_pos rfl]at P;subst P;have v:=l j V z;clear l;cbv;exact v
 |false=>rw[<-B,if_neg (by simp)]at P;have ig:∀f,Le j f->fM f p a s st->Ct 80 [.pointer (some ⟨wb,0,none⟩),.pointer (some ⟨t,0,none⟩)] f (λr I=>r=.int .i64 (zT a s st T).2/\Kp [p] f I/\fM I p (zT a s st T).1 s st):=λf y u=>N u hx W (by omega) jx (y _ _ S) RN (y _ _ i) (s1.mono (y.t _)) (s2.mono (y.t _)) (λI k7 q7=>⟨rfl,k7,q7⟩);generalize zT a s st T=E at *;cbv;refine mQw S ?_;cbv;refine NZ z ig (λf k6 u=>?_);rw[<-P]at u |-;have v:=l f (V.trans k6) u;clear l ig;generalize D.2.2=De at *;cbv;exact v
theorem dZJ(nm:ByteArray)(d:∀h' b n c,Le h h'->Sl 317 fx h' (.slice b n c) [iP nm]->k (.slice b n c) h'):Ct 275 [.string nm] h k:=by
 refine mQx fKY Tryz.func275 λA j=>?_;cbv;intro f a i e;have l:Le h a:=by rw[e];exact Le.set i
 have q:Sl 317 fx a (.slice (some ⟨f,0,none⟩) 1 1) [iP nm]:=bA (s:=fx) ((congrFun e f).trans ae) rfl;have g:=d a _ _ _ l q;clear d e q;cbv;exact g
def kI(c:cK):cK:=⟨c.name,2,c.null⟩
theorem ym{name:ByteArray}:∀(l m:List cK) (i:Int) (a:Option Int),l.map (·.name)=m.map (·.name)->js name l i a=js name m i a
 | [],[],_,none,_=>rfl
 | [],[],_,some _,_=>rfl
 | [],b::m,_,_,h=>by simp at h
 |a::l,[],_,_,h=>by simp at h
 |c::l,d::m,i,a,h=>by
  have f:c.name=d.name:=by simp at h;exact h.1
  have e:l.map (·.name)=m.map (·.name):=by simp at h;exact h.2
  rw[pf,pf,f];cases pW name d.name with
  |false=>exact ym l m (i+1) a e
  |true=>
   cases a with
   |some x=>rfl
   |none=>exact ym l m (i+1) (some i) e
theorem Eu{name:ByteArray}:∀(l:List cK) (i:Int) (a:Option Int),(js name l i a).2≠0->(js name l i a).1=0
 | [],_,none,_=>rfl
 | [],_,some _,h=>absurd rfl h
 |c::l,i,a,h=>by
  rw[pf]at *;cases t:pW name c.name with
  |false=>rw[t]at h;exact Eu l (i+1) a h
  |true=>
   rw[t]at h;cases a with
   |some x=>rfl
   |none=>exact Eu l (i+1) (some i) h
def tM:Nat->Nat->Row
 |_,0=>[]
 |i,n+1=>⟨2,(i:Int),b0⟩::tM (i+1) n
theorem Hx:∀(n i j:Nat),j<n->(tM i n)[j]? =some ⟨2,((i+j:Nat):Int),b0⟩
 |0,_,_,h=>by omega
 |n+1,i,0,_=>rfl
 |n+1,i,j+1,h=>by
  show(tM (i+1) n)[j]? =_;rw[Hx n (i+1) j (nQz h),show i+1+j=i+(j+1)by omega]
theorem BU:∀(n i:Nat),(tM i n).length=n
 |0,_=>rfl
 |n+1,i=>by show(tM (i+1) n).length+1=_;rw[BU n]
theorem Kr:∀(n i:Nat),tM i n++[⟨2,((i+n:Nat):Int),b0⟩]=tM i (n+1)
 |0,i=>rfl
 |n+1,i=>by
  show _::(tM (i+1) n++_)=_::tM (i+1) (n+1);rw[<-Kr n (i+1),show i+1+n=i+(n+1)by omega]
theorem Ym{nm:ByteArray}:∃v,eP [iP nm] (cols.map kI) (tM 0 cols.length)=(v,(gS nm cols).2)/\v.n=(gS nm cols).1:=by
 have k:gS nm (cols.map kI)=gS nm cols:=ym _ _ _ _ (by rw[mXS];rfl);have R:=QE (name:=nm) cols 0 none (gS nm cols) rfl (.inl rfl) (by decide);have j:=Eu (name:=nm) cols 0 none;have d:Ag (iP nm) [] (cols.map kI)=match gS nm (cols.map kI)with
  | (c,e)=>if e≠0 then(0,e)else(match (cols.map kI)[c.toNat]? with
   |some c=>(c.kind,0)
   |none=>(0,0)):=rfl
 rw[k]at d;have a:jv [iP nm] (cols.map kI)=match eK (cols.map kI) [iP nm] []with
  | (l,f)=>if f≠0 then(0,f)else(Af l,0):=rfl
 rw[gP,d]at a;have g:xM (iP nm) [] (cols.map kI) (tM 0 cols.length)=match gS nm (cols.map kI)with
  | (c,_)=>some (fT (tM 0 cols.length) c):=rfl
 rw[k]at g;have b:eP [iP nm] (cols.map kI) (tM 0 cols.length)=match jv [iP nm] (cols.map kI)with
  | (_,f)=>if f≠0 then(v0,f)else match gM (cols.map kI) (tM 0 cols.length) [iP nm] []with
   |some l=>(xV l,0)
   |none=>(v0,11):=rfl
 rw[xL]at b;change (gS nm cols).2≠0->(gS nm cols).1=0 at j;generalize gS nm cols=P at *;obtain⟨c,e⟩:=P;by_cases h0:e=0
 .subst h0;have h:=R rfl;obtain⟨x,hx⟩:=aE (xs:=cols) (i:=c.toNat) (by have:=h.2;have:=h.1;simp at *;omega);have K:(cols.map kI)[c.toNat]? =some (kI x):=by rw[mXe,hx];rfl
  have J:jv [iP nm] (cols.map kI)=(2,0):=by rw[a];simp only[K];rfl
  have m:c.toNat<cols.length:=(mQB.1 hx).1;have n:fT (tM 0 cols.length) c=⟨2,c,b0⟩:=by rw[lD (Hx cols.length 0 c.toNat m) (by have:=h.1;simp at *;omega)];congr 1;have:=h.1;simp at *;omega
  refine⟨⟨2,c,b0⟩,?_,rfl⟩;have Z:xM (iP nm) [] (cols.map kI) (tM 0 cols.length)=some ⟨2,c,b0⟩:=by rw[g];show some (fT _ c)=_;rw[n]
  rw[b,J,Z];rfl
 refine⟨v0,?_,(j h0).symm⟩;have J:jv [iP nm] (cols.map kI)=(0,e):=by rw[a];simp[h0]
 rw[b,J];simp[h0]
theorem aZz{nm:ByteArray}(hn:Nm nm)(hc:∀c∈cols,Nm c.name){a:Nat}(qc:Sl 155 bI h (.slice cb a cc) cols)
 (V:∀h',Le h h'->k (.tuple #[.int .i64 (gS nm cols).1,.int .i64 (gS nm cols).2]) h'):Ct 237 [.string nm,.slice cb a cc] h k:=by
 obtain⟨A,hA⟩:=Ar.ex;have DF:=qc.len;have an:=qc.bound;obtain⟨pv,X,EV⟩:=Ym (nm:=nm) (cols:=cols);rw[<-DF]at X;rw[<-EV]at V;generalize (gS nm cols).2=pe at *;have ab:∀c∈cols.map kI,Nm c.name:=λc CG=>by
  obtain⟨c0,q,l⟩:=mQW.1 CG;rw[<-l];exact hc c0 q
 have fZ:∀v∈tM 0 a,kM v:=λv D=>by
  obtain⟨j,hj⟩:=mXh D;have tX:j<a:=by have:=(mQB.1 hj).1;rw[BU]at this;exact this
  rw[Hx a 0 j tX]at hj;cases hj;show rr _=true;rw[jP];have Im:(2:Nat)^40=1099511627776:=rfl;show -9223372036854775808<=((0+j:Nat):Int)/\((0+j:Nat):Int)<=9223372036854775807;omega
 have al:∀v,0<=v/\v<(a:Int)->aS v v.toNat:=λv D=>⟨by omega⟩;obtain⟨J,R⟩:∃J:Option Addr×Nat×Nat->ad->Prop,∀g h',J g h'=(Le h h'/\cF 155 bI h h' (.slice g.1 a g.2.1) cols/\fX 86 bq h' g.2.2 a []/\h g.2.2=none):=⟨_,λ_ _=>rfl⟩;refine zo A [false,true] (ax gQx.aK gQx.bF) Tryz.func237 rfl (by kernel_rfl) ?_;cbv;refine Dw.go (G:=Option Addr×Nat×Nat) (λg=>[(6,.v (.slice g.1 a g.2.1)),(7,.v (.slice (some ⟨g.2.2,0,none⟩) a a))]) (λ_=>[]) J ?_ ?_
 .have first:∀q C c',Le h q->cF 155 bI h q (.slice C a c') cols->∀p l,q p=none->Le q l->fX 86 bq l p a []->J (C,c',p) l:=λq C c' y B p l N t o=>by
   rw[R];exact⟨y.trans t,B.mono (t.t _),o,by
    cases U:h p with
    |none=>rfl
    |some x=>rw[y _ _ U]at N;cases N⟩
  have d:∀p q,h p=none->Le h q->fX 86 bq q p a []->∀l C c',Le q l->cF 155 bI q l (.slice C a c') cols->J (C,c',p) l:=λp q S y o l C c' t B=>by
   rw[R];exact⟨y.trans t,B.base y,o.mono (t.t _),S⟩
  clear R V;cbv;refine⟨?_,?_⟩
  .refine(EC qc).mono (λv q hR=>?_);obtain⟨y,C,c',D,B⟩:=hR;subst D;have first:=first q C c' y B
   cbv;refine⟨?_,?_⟩
   .refine nJ (s:=bq) rfl (by omega) (by decide) (λp l N t o=>?_);have F:=first p l N t o
    clear first d
    cbv;refine⟨(_,_,_),by constructor<;>cbv,F⟩
   refine nJ (s:=bq) rfl (by omega) (by decide) (λp l N t o=>?_);have F:=first p l N t o
   clear first d
   cbv;refine⟨(_,_,_),by constructor<;>cbv,F⟩
  refine nJ (s:=bq) rfl (by omega) (by decide) (λp q S y o=>?_);have d:=d p q S y o;cbv;refine(EC (qc.mono (y.t _))).mono (λv l hR=>?_);obtain⟨t,C,c',D,B⟩:=hR;subst D;have F:=d l C c' t B;clear first d
  cbv;refine⟨(_,_,_),by constructor<;>cbv,F⟩
 intro g q hg;rw[R]at hg;obtain⟨T,O,M⟩:=g;obtain⟨y,B,o,KJ⟩:=hg;replace B:cF 155 bI h q (.slice T a O) cols:=B;replace o:fX 86 bq q M a []:=o;replace KJ:h M=none:=KJ;have hL:∀l,Le h l->Sl 155 bI l (.slice T a O) (cols.map kI)->Sl 86 bq l (.slice (some ⟨M,0,none⟩) a a) (tM 0 a)->∀u xb xn xc,Le l u->Sl 317 fx u (.slice xb xn xc) [iP nm]->
  Ct 149 [.slice xb xn xc,.slice T a O,.slice (some ⟨M,0,none⟩) a a] u (λr P=>Le h P/\r=.tuple #[pv.v,.int .i64 pe]):=λl t s1 s2 u xb xn xc E sx=>Gx (λn U=>by
   rcases mQI.1 U with rfl|U
   .exact⟨hn,kA⟩
   cases U) ab fZ sx (s1.mono (E.t _)) (s2.mono (E.t _)) (λP v e w l4 D hw=>by
   rw[X]at D;cases D;exact⟨t.trans (E.trans l4),by rw[hw]⟩)
 obtain⟨I,Y⟩:∃I:Nat->Int->ad->Prop,∀m z h',I m z h'=∃i,aS z i/\i<=a/\m=a-i/\Le h h'/\fX 86 bq h' M a (tM 0 i)/\(a=0\/∃p,T=some ⟨p,0,none⟩/\h p=none/\fX 155 bI h' p O ((cols.take i).map kI++cols.drop i)):=⟨_,λ_ _ _=>rfl⟩;have hJ:I a 0 q:=by
  rw[Y];refine⟨0,⟨rfl⟩,mQC _,rfl,y,o,?_⟩;rcases B.out with⟨b0,g1,g2⟩|⟨p,cap,g1,g2,o2⟩
  .cases g1;exact .inl rfl
  cases g1;exact .inr ⟨p,rfl,g2,o2⟩
 clear R o B;cbv;refine aX.go (G:=Int) (λz=>[(18,.v (.int .i64 z))]) (λ_=>[]) (λm z h'=>I m z h') a 0 (by constructor<;>cbv) hJ ?_
 intro m z l hI;rw[Y]at hI;cbv;obtain⟨i,hz,hi,hm,t,H,gR⟩:=hI;have S:A .aI .lss z (A .nat a)=decide (i<a):=hz.iJ (aS.nat a);rw[S];by_cases Q:i<a
 .obtain⟨p,K,gY,oc⟩:=gR.resolve_left (by omega);subst K;obtain⟨c,Z⟩:=mQA cols i;have hg:=VJ (f:=kI) Z;have mX:=VI (f:=kI) Z;have ak:((cols.take i).map kI++cols.drop i).length=a:=by simp;omega
  generalize (cols.take i).map kI++cols.drop i=L at *;have cJ:0<=z/\z<(a:Int):=hz.ix Q;have cN:=hz.eq;have cZ:=hz.succ (A:=A);have kX:a-(i+1)<m:=by omega
  have Al:=BU i 0;have Wc:=Kr i 0;rw[mXj]at Wc;have cD:∀u,Le h u->fX 86 bq u M a (tM 0 (i+1))->fX 155 bI u p O (L.set i (kI c))->I (a-(i+1)) (A .bB .add .i64 z 1) u:=λu E o1 o2=>by
   rw[Y];exact⟨i+1,cZ,Q,rfl,E,o1,.inr ⟨p,rfl,gY,by rw[<-mX];exact o2⟩⟩
  clear Y hJ hL cZ V;rw[mQu Q];cbv;refine⟨⟨rfl,cJ⟩,?_⟩;cbv;refine oc.LS (by decide) hg cN rfl (off:=1) (new:=[.int .i64 2]) (show 1+1<=3 by omega) (x':=kI c) (λcs ay=>?_) (λu k3 t3 aj=>?_)
  .obtain⟨Bt,Ln,WT⟩:=c;have ay:cs=[.string Bt,.int .i64 Ln,.bool WT]:=ay;subst ay;rfl
  have ag:=H.mono (t3 _ (by decide));have E:Le h u:=t.dJ (λb hb=>by rw[mQH.1 hb];exact gY) k3;clear oc H;cbv;refine⟨⟨rfl,cJ⟩,?_⟩;cbv;refine ag.store (by decide) (i:=i) (x:=⟨2,(i:Int),b0⟩) (by rw[Al];exact mQD _) Q (by omega) cN rfl (by rw[cN];rfl) (λP k4 t4 W=>?_);rw[Al,if_neg (by omega),Wc]at W;have jd:=cD P (E.dJ (λb hb=>by rw[mQH.1 hb];exact KJ) k4) W (aj.mono (t4 _ (by decide)));clear cD;cbv;refine⟨a-(i+1),A .bB .add .i64 z 1,kX,by constructor<;>cbv,jd⟩
 have lW:i=a:=by omega
 subst lW;have s2:Sl 86 bq l (.slice (some ⟨M,0,none⟩) i i) (tM 0 i):=H.sl (BU i 0).symm;have s1:Sl 155 bI l (.slice T i O) (cols.map kI):=by
  rcases gR with h0| ⟨p,K,gY,oc⟩
  .have:cols=[]:=mXN.1 (by omega);subst this;subst h0;exact Sl.nil
  subst K;rw[mXa (by omega),mQT (by omega),mXb]at oc;exact oc.sl (by rw[mQN,DF])
 have hV:=hL l t s1 s2;clear Y hJ hL;rw[mQv Q];cbv;refine dZJ nm (λu xb xn xc E sx=>?_);cbv;refine(hV u xb xn xc E sx).mono (λr P hR=>?_);obtain⟨l4,hr⟩:=hR;subst hr;have F:=V P l4;obtain⟨vk,vn,vs⟩:=pv;clear V hV;cbv;exact F
structure oC(h:ad)(qp:Nat)(x:aJ)(cols:List cK)(y:Qy):Prop where
 out:∃b5 n5 c5 b6 n6 c6 b7 n7 c7 b8 n8 c8 b9 n9 c9 gW jD gT cb cn cc,h qp=some (.cells #[.int .i64 x.kind,.string x.sE.name,.slice b5 n5 c5,.int .i64 x.sE.key,.bool x.sE.only,.string x.table,.string x.join,.slice b6 n6 c6,.slice b7 n7 c7,.slice b8 n8 c8,.slice b9 n9 c9,.slice gW jD gT,.string x.group,.string x.order,.bool x.desc,.int .i64 x.eG,.string x.name,.slice cb cn cc,.int .i64 y.group,.int .i64 y.order,.bool y.kK] 178 (0,0))/\Sl 155 bI h (.slice b5 n5 c5) x.sE.cols/\Sl 317 fx h (.slice b6 n6 c6) x.on/\Sl 9 dX h (.slice b7 n7 c7) x.names/\Sl 42 jM h (.slice b8 n8 c8) x.exprs/\Sl 267 eI h (.slice b9 n9 c9) x.items/\Sl 317 fx h (.slice gW jD gT) x.bV/\Sl 155 bI h (.slice cb cn cc) cols
theorem oC.elim(q:oC h z x cols y){p:Prop}(k:∀b s f a t i c u j d v l e w m W D T n r o,h z=some (.cells #[.int .i64 x.kind,.string x.sE.name,.slice b s f,.int .i64 x.sE.key,.bool x.sE.only,.string x.table,.string x.join,.slice a t i,.slice c u j,.slice d v l,.slice e w m,.slice W D T,.string x.group,.string x.order,.bool x.desc,.int .i64 x.eG,.string x.name,.slice n r o,.int .i64 y.group,.int .i64 y.order,.bool y.kK] 178 (0,0))->Sl 155 bI h (.slice b s f) x.sE.cols->Sl 317 fx h (.slice a t i) x.on->Sl 9 dX h (.slice c u j) x.names->Sl 42 jM h (.slice d v l) x.exprs->Sl 267 eI h (.slice e w m) x.items->Sl 317 fx h (.slice W D T) x.bV->Sl 155 bI h (.slice n r o) cols->p):p:=by obtain⟨b,s,f,a,t,i,c,u,j,d,v,l,e,w,m,W,D,T,n,r,o,g,A,B,C,E,F,G,H⟩:=q.out;exact k b s f a t i c u j d v l e w m W D T n r o g A B C E F G H
theorem oC.lt(q:oC h p x cols y)(s:h' p=h p)(l:bR uB h h'):oC h' p x cols y:=by obtain⟨b,t,f,a,u,i,c,v,j,d,w,k,e,z,m,W,D,T,n,r,o,g,A,B,C,E,F,G,H⟩:=q.out;exact⟨b,t,f,a,u,i,c,v,j,d,w,k,e,z,m,W,D,T,n,r,o,s.trans g,A.mono (l.sub),B.mono (l.sub),C.mono (l.sub),E.mono (l.sub),F.mono (l.sub),G.mono (l.sub),H.mono (l.sub)⟩
theorem oC.mono(q:oC h p x cols y)(l:Le h h'):oC h' p x cols y:=by refine q.lt ?_ (l.t _);obtain⟨b,s,f,a,t,i,c,u,j,d,v,k,e,w,m,W,D,T,n,r,o,g,-⟩:=q.out;rw[g];exact l _ _ g
theorem oC.has(q:oC h p x cols y):∃c,h p=some (.cells c 178 (0,0)):=by obtain⟨b,s,i,a,t,j,d,u,k,e,v,l,f,w,m,W,D,T,n,r,o,g,-⟩:=q.out;exact⟨_,g⟩
theorem WS(q:oC h p x cols y)(e:∀c∈cols,Nm c.name){nm:ByteArray}(n:Nm nm)
 (a:∀h',Le h h'->k (.tuple #[.int .i64 (bN nm cols).1,.int .i64 (bN nm cols).2]) h'):Ct 167 [.pointer (some ⟨p,0,none⟩),.string nm] h k:=by
 obtain⟨A,O⟩:=Ar.ex;have P:bN nm cols=if nm=b0 then(-1,0)else gS nm cols:=rfl
 have b:A .iQ .eql nm ⟨#[]⟩=decide (nm=b0):=cS A ..;refine q.elim (λu R C v S F w U G z V H B X I W Q T J L K g i j m o r s t=>?_);clear i j m o r s;generalize bN nm cols=D at *;refine mQF gXt A Tryz.func167 ?_;cbv;rw[b];by_cases h0:nm=b0
 .rw[if_pos h0]at P;subst P;have f:=a h (Le.refl _);clear a;rw[mQu h0];cbv;exact f
 rw[if_neg h0]at P;rw[P]at a;rw[mQv h0];cbv;repeat (first|((try rw[ai A]);(try rw[ai A]);refine mQw g ?_;cbv)|(refine⟨⟨_,rfl,rfl⟩,?_⟩;cbv))
 refine aZz n e t (λd l=>?_);have f:=a d l;clear a P;generalize gS nm cols=E at *;obtain⟨M,N⟩:=E;cbv;exact f
theorem fQH(q:oC h C x cols y)(t:∀c∈cols,Nm c.name){i:dO}(m:iY i.e){u:Option Addr}{w v:Nat}(B:Sl 317 fx h (.slice u w v) i.e)
 (d:∀h',Le h h'->k (.int .i64 (lT cols i)) h'):Ct 165 [.pointer (some ⟨C,0,none⟩),.agg #[.int .i64 i.fn,.slice u w v]] h k:=by
 obtain⟨A,hA⟩:=Ar.ex;have P:lT cols i=if i.fn=1 then 0 else if i.fn=2 then ku i.e cols 2 else(jv i.e cols).2:=rfl
 have o:A .aI .eql i.fn 1=decide (i.fn=1):=aA A ..;have p:A .aI .eql i.fn 2=decide (i.fn=2):=aA A ..;refine q.elim (λL n5 R M n6 S N n7 T O n8 U Q n9 V gW jD Z W Y X g F G H I J K z=>?_);clear F G H I J K;generalize lT cols i=D at *;obtain⟨fn,r⟩:=i;replace m:iY r:=m;replace o:A .aI .eql fn 1=decide (fn=1):=o;replace p:A .aI .eql fn 2=decide (fn=2):=p;replace P:D=if fn=1 then 0 else if fn=2 then ku r cols 2 else(jv r cols).2:=P
 refine mQF Rm A Tryz.func165 ?_;cbv;rw[o];by_cases b:fn=1
 .rw[if_pos b]at P;subst P;have f:=d h (Le.refl _);clear d;rw[mQu b];cbv;exact f
 rw[if_neg b]at P;rw[mQv b];cbv;rw[p];by_cases l:fn=2
 .rw[if_pos l]at P;rw[mQu l];cbv;repeat (first|((try rw[ai A]);(try rw[ai A]);refine mQw g ?_;cbv)|(refine⟨⟨_,rfl,rfl⟩,?_⟩;cbv))
  refine My m t 2 B z (λb e s j=>?_);rw[<-P]at j;subst j;have f:=d b s;clear d P;cbv;exact f
 rw[if_neg l]at P;rw[mQv l];cbv;repeat (first|((try rw[ai A]);(try rw[ai A]);refine mQw g ?_;cbv)|(refine⟨⟨_,rfl,rfl⟩,?_⟩;cbv))
 refine bZb (λn E=>(m n E).1) t B z (λb a e s j=>?_);rw[<-j]at P;subst P;have f:=d b s;clear d j;cbv;exact f
theorem Qu(cols:List cK)(y fn:Int)(i:List Nd):cM cols y ⟨fn,i⟩=if fn≠0 then 0 else if y<0 then 3 else match i with
 | [n]=>if n.op≠2 then 3 else match gS n.name cols with
  | (k,e)=>if e≠0\/k≠y then 3 else 0
 |_=>3:=rfl
theorem CK{W:Nat}(q:oC h W x cols y)(hc:∀c∈cols,Nm c.name){i:dO}(N:iY i.e){G:Option Addr}{r O:Nat}(t:Sl 317 fx h (.slice G r O) i.e)
 (d:∀h',Le h h'->k (.int .i64 (cM cols y.group i)) h'):Ct 173 [.pointer (some ⟨W,0,none⟩),.agg #[.int .i64 i.fn,.slice G r O]] h k:=by
 obtain⟨A,hA⟩:=Ar.ex;have M:=t.len;have H:A .aI .neq i.fn 0=decide (i.fn≠0):=aC A ..;have I:A .aI .lss y.group 0=decide (y.group<0):=bm A ..;have f3:A .aI .neq (A .nat r) 1=decide (r≠1):=by rw[aC A,hA.nat,decide_eq_decide,mQV];omega
 refine q.elim (λb5 n5 c5 b6 n6 c6 b7 n7 c7 b8 n8 c8 b9 n9 c9 gW jD gT cb cn cc g q1 q2 q3 q4 q5 q6 q7=>?_);clear q1 q2 q3 q4 q5 q6;obtain⟨fn,p⟩:=i;obtain⟨j,yo,ya⟩:=y;replace N:iY p:=N;replace H:A .aI .neq fn 0=decide (fn≠0):=H;replace I:A .aI .lss j 0=decide (j<0):=I;replace t:Sl 317 fx h (.slice G r O) p:=t;replace M:r=p.length:=M;have P:=Qu cols j fn p;replace d:∀h',Le h h'->k (.int .i64 (cM cols j ⟨fn,p⟩)) h':=d;generalize cM cols j ⟨fn,p⟩=D at *;refine mQF gXp A Tryz.func173 ?_;cbv;rw[H];by_cases w:fn≠0
 .rw[if_pos w]at P;subst P;have f:=d h (Le.refl _);clear d;rw[mQu w];cbv;exact f
 rw[if_neg w]at P;rw[mQv w];cbv;repeat (first|((try rw[ai A]);(try rw[ai A]);refine mQw g ?_;cbv)|(refine⟨⟨_,rfl,rfl⟩,?_⟩;cbv))
 rw[I];by_cases B:j<0
 .rw[if_pos B]at P;subst P;have f:=d h (Le.refl _);clear d;rw[mQu B];cbv;exact f
 rw[if_neg B]at P;rw[mQv B];cbv;rw[f3];by_cases C:r≠1
 .have P:D=3:=by
   rw[P]
   match p,M with
   | [],_=>rfl
   | [n],hm=>exact absurd hm C
   |a::b::l,_=>rfl
  subst P;have f:=d h (Le.refl _);clear d;rw[mQu C];cbv;exact f
 have V:r=1:=mXc.1 C;obtain⟨n,lW⟩:∃n,p=[n]:=by
  match p,M with
  | [],hm=>rw[V]at hm;cases hm
  | [n],hm=>exact⟨n,rfl⟩
  |a::b::l,hm=>rw[V]at hm;simp at hm
 subst lW;replace P:D=if n.op≠2 then 3 else match gS n.name cols with
  | (k,e)=>if e≠0\/k≠j then 3 else 0:=P
 have hx:[n][0]? =some n:=rfl;have Q:G.isSome=true/\(0:Int)<=0/\(0:Int)<(r:Int):=⟨t.aT,by omega,by omega⟩;have J:A .aI .neq n.op 2=decide (n.op≠2):=aC A ..;rw[mQv C];cbv;refine⟨Q,?_⟩;cbv;refine t.cC hx rfl (o:=0) (m:=1) (by decide) (λcs s=>?_);obtain⟨op,T,U,⟨X,Y,vs⟩,K⟩:=n;have s:cs=[.int .i64 op,.int .i64 T,.int .i64 U,.int .i64 X,.int .i64 Y,.string vs,.string K]:=s;subst s;replace J:A .aI .neq op 2=decide (op≠2):=J;replace P:D=if op≠2 then 3 else match gS K cols with
  | (k,e)=>if e≠0\/k≠j then 3 else 0:=P
 have qC:Nm K:=(N _ mXn).1;cbv;rw[J];by_cases F:op≠2
 .rw[if_pos F]at P;subst P;have f:=d h (Le.refl _);clear d;rw[mQu F];cbv;exact f
 rw[if_neg F]at P;rw[mQv F];cbv;refine⟨Q,?_⟩;cbv;refine t.cC hx rfl (o:=6) (m:=1) (by decide) (λcs s=>?_);have s:cs=[.int .i64 op,.int .i64 T,.int .i64 U,.int .i64 X,.int .i64 Y,.string vs,.string K]:=s;subst s;cbv;repeat (first|((try rw[ai A]);(try rw[ai A]);refine mQw g ?_;cbv)|(refine⟨⟨_,rfl,rfl⟩,?_⟩;cbv))
 refine aZz qC hc q7 (λR S=>?_);generalize gS K cols=E at *;obtain⟨u,v⟩:=E;replace P:D=if v≠0\/u≠j then 3 else 0:=P
 have g5:=S _ _ g;have d:=λz (hz:z=D)=>(by rw[hz];exact d R S:k (.int .i64 z) R);have f5:A .aI .neq v 0=decide (v≠0):=aC A ..;have f6:A .aI .neq u j=decide (u≠j):=aC A ..;cbv;rw[f5];by_cases Z:v≠0
 .rw[if_pos (.inl Z)]at P;have f:=d 3 P.symm;clear d;rw[mQu Z];cbv;exact f
 rw[mQv Z];cbv;repeat (first|((try rw[ai A]);(try rw[ai A]);refine mQw g5 ?_;cbv)|(refine⟨⟨_,rfl,rfl⟩,?_⟩;cbv))
 rw[f6];by_cases L:u≠j
 .rw[if_pos (.inr L)]at P;have f:=d 3 P.symm;clear d;rw[mQu L];cbv;exact f
 rw[if_neg (by rintro(g|g)<;>contradiction)]at P;have f:=d 0 P.symm;clear d;rw[mQv L];cbv;exact f
end Go.S
