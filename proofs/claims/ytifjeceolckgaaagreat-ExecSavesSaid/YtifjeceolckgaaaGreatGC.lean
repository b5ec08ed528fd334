import Derived.Test.YtifjeceolckgaaaGreatGB
set_option linter.all false
set_option maxRecDepth 100000
set_option maxHeartbeats 8000000
namespace Go.S
open Go.Sx Go.Proofs
variable {β:Type}{d:DB}{g:List (Option Nat)}{cap:Nat}{b:Option Addr}{s2:Sh β}{k:Value->ad->Prop}{h:ad}
theorem _root_.Go.Sx.Rows.map{b:Type}{s1:Sh b}(n:s1.n=s2.n)(f:b->β)(hR:∀h cs x,s1.R h cs x->s2.R h cs (f x)){c:List Value}{off:Nat}{xs:List b}(r:Sx.Rows s1 h c off xs):Sx.Rows s2 h c off (xs.map f):=by
 refine⟨by rw[mQN,<-n];exact r.1,λi x hx=>?_⟩;rw[mXe]at hx;cases a:xs[i]? with
 |none=>rw[a]at hx;cases hx
 |some y=>rw[a]at hx;simp at hx;subst hx;rw[<-n];exact hR _ _ _ (r.2 i y a)
theorem _root_.Go.Sx.fX.map{a:Type}{s1:Sh a}(n:s1.n=s2.n)(f:a->β)(hR:∀h cs x,s1.R h cs x->s2.R h cs (f x)){e:Nat}{b:Nat}{xs:List a}(o:fX e s1 h b cap xs):fX e s2 h b cap (xs.map f):=by obtain⟨c,d,g,i⟩:=o.out;exact⟨⟨c,d,Sx.Rows.map n f hR g,by rw[<-n];exact i⟩,by rw[mQN];exact o.le,by rw[mQN];exact o.bd⟩
def lk:Sh (fJ×Option Nat)where
 n:=3
 R h cs t:=∃b1 n1 b2 n2 c2,cs=[.int .i64 t.1.s,.slice b1 n1 n1,.slice b2 n2 c2]/\Sl 137 dI h (.slice b1 n1 n1) t.1.log/\
  ((t.2=none/\n2=0/\c2=0/\t.1.marks=[])\/∃nb,t.2=some nb/\b2=some ⟨nb,0,none⟩/\n2=t.1.marks.length/\fX 150 dN h nb c2 t.1.marks)
 len:=by rintro h cs x ⟨_,_,_,_,_,rfl,-⟩;rfl
 one:=by rintro h cs x ⟨_,_,_,_,_,rfl,-⟩;rfl
 tys:=[137,86,150]
 mono:=by
  rintro h h' cs x hl ⟨b1,n1,b2,n2,c2,rfl,q1,q2⟩;refine⟨b1,n1,b2,n2,c2,rfl,q1.mono (hl.sub),?_⟩;rcases q2 with q2| ⟨nb,e1,e2,e3,o⟩
  .exact .inl q2
  exact .inr ⟨nb,e1,e2,e3,o.mono (hl.sub)⟩
theorem RT(h:ad)(cs:List Value)(x:fJ×Option Nat)(r:lk.R h cs x):cX.R h cs (x.1,true):=by
 obtain⟨c,n,d,g,f,rfl,q,i⟩:=r;refine⟨c,n,n,d,g,f,rfl,q,?_,λ_=>rfl⟩;rcases i with⟨-,b,e,a⟩|⟨j,b,e,a,o⟩
 .rw[b,e];show Sl 150 dN h _ x.1.marks;rw[a];exact Sl.nil
 rw[e];exact o.sl a
theorem ZD{xs:List oy}{len:Nat}(q:Sl 150 dN h (.slice b len cap) xs)(Q:∀d h',len=0->Le h h'->k (.slice d 0 0) h')
 (w:∀n c h',h n=none->0<len->Le h h'->fX 150 dN h' n c xs->k (.slice (some ⟨n,0,none⟩) len c) h'):Ct 205 [.slice b len cap] h k:=by
 refine mQx nXL Tryz.func205 λA r=>?_;cbv;refine bh (λf=>?_) (λf=>?_)
 .rw[r.HO]at f;have s:b=none:=by cases b<;>simp at f |-
  subst s;have t:len=0:=by
   rcases mXI len with e|e
   .exact e
   have:=q.aT e;cases this
  have a:=Q none h t (Le.refl _);cbv;exact a
 cbv;intro x g v W;have l:Le h g:=by rw[W];exact Le.set v
 cbv;refine dz (q.mono (l.t _)) (by simp[dN]) rfl (by decide) (λu=>?_) (λn c p i j m o=>?_)
 .have a:=λd=>Q d g u l;cbv;exact a _
 have a:=w n c p (l.none i) j (l.trans m) o;cbv;exact a
theorem bKw{w:fJ}{g:Bool}{s t a:Value}(q:cX.R h [s,t,a] (w,g))
 (u:∀h' j n o b a (m:Option Nat),Le h h'->(∀d,m=some d->h d=none)->lk.R h' [.int .i64 w.s,.slice j n n,.slice o b a] (w,m)->k (.agg #[.int .i64 w.s,.slice j n n,.slice o b a]) h'):Ct 109 [.agg #[s,t,a]] h k:=by
 obtain⟨j,n,F,o,b,G,B,f,i,-⟩:=q;cases B;have f:Sl 137 dI h (.slice j n F) w.log:=f;have i:Sl 150 dN h (.slice o b G) w.marks:=i;obtain⟨N,M,H⟩:=w;refine mQx gZf Tryz.func109 λA K=>?_;cbv;refine(Uy f).mono (λv J hR=>?_);obtain⟨l,d,Y,rfl,x⟩:=hR;cbv;refine ZD (i.mono (l.t _)) (λy r L E=>?_) (λD c r z I E o2=>?_)
 .have C:H=[]:=by have:=i.len;exact mXd (by simp only at this;omega)
  have p:=u r (some ⟨d,0,none⟩) n y 0 0 none (l.trans E) (λ_ e=>by cases e) ⟨_,_,_,_,_,rfl,(x.sl f.len).mono (E.t _),.inl ⟨rfl,rfl,rfl,C⟩⟩;cbv;exact p
 have p:=u r (some ⟨d,0,none⟩) n (some ⟨D,0,none⟩) b c (some D) (l.trans E) (λ_ e=>by cases e;exact l.none z) ⟨_,_,_,_,_,rfl,(x.sl f.len).mono (E.t _),.inr ⟨D,rfl,rfl,i.len,o2⟩⟩;cbv;exact p
def UJ(gs:List (Option Nat)):Prop:=∀(i j nb:Nat),gs[i]? =some (some nb)->gs[j]? =some (some nb)->i=j
theorem UJ.push(d:UJ g){m:Option Nat}(h:∀(i n:Nat),g[i]? =some (some n)->m≠some n):UJ (g++[m]):=λi j n c e=>by
 rw[mZh]at c e;split at c<;>split at e
 .exact d i j n c e
 .rename_i a b;rw[mZu]at e;split at e
  .cases e;exact absurd rfl (h i n c)
  cases e
 .rename_i a b;rw[mZu]at c;split at c
  .cases c;exact absurd rfl (h j n e)
  cases c
 rw[mZu]at c e;split at c
 .split at e
  .omega
  cases e
 cases c
theorem bQG{xs:List (fJ×Bool)}{len:Nat}(q:Sl 55 cX h (.slice b len cap) xs)
 (hk:∀h' d (a:List (Option Nat)),Le h h'->h d=none->a.length=len->UJ a->(∀(i m:Nat),a[i]? =some (some m)->h m=none)->fX 55 lk h' d len ((xs.map (·.1)).zip a)->k (.slice (some ⟨d,0,none⟩) len len) h'):
 Ct 108 [.slice b len cap,.func (.func 109) #[] #[]] h k:=by
 have l:=q.len;obtain⟨lY,jq⟩:=q.bound;refine mQx gZg Tryz.func108 λA hA=>?_;cbv;refine nJ (s:=lk) rfl (by omega) (by decide) (λd h1 D u ho=>?_);obtain⟨I,Y⟩:∃I:Nat->Int->ad->Prop,∀n z h',I n z h'=∃(i:Nat) (a:List (Option Nat)),aS z i/\n=len-i/\i<=len/\Le h h'/\a.length=i/\UJ a/\(∀(j m:Nat),a[j]? =some (some m)->h m=none/\h' m≠none/\m≠d)/\fX 55 lk h' d len (((xs.take i).map (·.1)).zip a):=⟨_,λ_ _ _=>rfl⟩;cbv;refine aX.go (G:=Int) (λz=>[(13,.v (.int .i64 z))]) (λ_=>[]) (λn z h'=>I n z h') len 0 (by constructor<;>cbv) (by rw[Y];exact⟨0,[],⟨rfl⟩,by omega,by omega,u,rfl,λ_ _ _ h=>by simp at h,λ_ _ h=>by simp at h,ho⟩) ?_
 intro n z h' J;rw[Y]at J;cbv;obtain⟨i,a,f,hn,hi,V,v,K,C,R⟩:=J;refine bh (λp=>?_) (λp=>?_)
 .have P:=f.lt p;clear p;obtain⟨⟨w,g⟩,hx⟩:=mQA xs i;have rQ:b.isSome=true/\0<=z/\z<(len:Int):=⟨q.aT,f.ix P⟩;have jo:(some (⟨d,0,none⟩:Addr)).isSome=true/\0<=z/\z<(len:Int):=⟨rfl,f.ix P⟩;have ag:(((xs.take i).map (·.1)).zip a).length=i:=by simp;omega
  have cN:=f.eq;cbv;refine⟨rQ,?_⟩;cbv;refine(q.mono (V.t _)).load hx f.eq (λcs y=>?_);have hv:cX.R h' cs (w,g):=y;obtain⟨U,n1,k1,W,n2,k2,rfl,-⟩:=y;cbv;refine bKw hv (λh2 U n1 W n2 c2 m E H M=>?_);cbv;refine⟨jo,?_⟩;cbv;refine(R.mono (E.t _)).store (by decide) (i:=i) (by omega) (by omega) (by omega) cN rfl M (λF t YM N=>?_);rw[if_neg (by omega)]at N;have Q:Le h F:=(V.trans E).dJ (by simpa using D) t;have hp:I (len-(i+1)) (A .bB .add .i64 z 1) F:=by
   rw[Y];refine⟨i+1,a++[m],f.succ (A:=A),rfl,by omega,Q,by simp[v],K.push (λj O c e=>?_),λj r c=>?_,?_⟩
   .exact(C j O c).2.1 (H O e)
   .rw[mZh]at c;split at c
    .obtain⟨a1,a2,x⟩:=C j r c;refine⟨a1,?_,x⟩;cases L:h' r with
     |none=>exact absurd L a2
     |some o=>rw[t _ _ (E _ _ L) (by simpa using x)];simp
    rw[mZu]at c;split at c
    .cases c;have Z:=H r rfl;obtain⟨_,_,_,_,_,-,-,hq⟩:=M;rcases hq with⟨e,-⟩|⟨Dz,e,-,-,o⟩
     .cases e
     cases e;obtain⟨cc,S,-⟩:=o.out;have B:r≠d:=λe=>by
      obtain⟨ab,X,-⟩:=R.out;rw[e,X]at Z;cases Z
     refine⟨V.none Z,?_,B⟩;rw[t _ _ S (by simpa using B)];simp
    cases c
   have e2:(xs.take (i+1)).map (·.1)=(xs.take i).map (·.1)++[w]:=by rw[mXt,hx];simp
   rw[e2,List.zip_append (by simp;omega)];exact N
  cbv;refine⟨len-(i+1),_,by omega,by constructor<;>cbv,hp⟩
 have lN:=f.ge p;have ke:i=len:=by omega
 subst ke;rw[l,mXL,<-l]at R;have T:=hk h' d a V D v K (λj m c=>(C j m c).1) R;cbv;exact T
theorem dZs{v:Value}(q:ik h v d)
 (G:∀h' t w a n o f r p j s (g:List (Option Nat)),Le h h'->h t=none->h w=none->a=d.az.length->fX 51 ef h' t a d.az->n=d.aq.length->g.length=n->UJ g->(∀(i m:Nat),g[i]? =some (some m)->h m=none)->fX 55 lk h' w n (d.aq.zip g)->Sl 201 bG h' (.slice o f r) d.holds->Sl 201 bG h' (.slice p j s) d.waits->
  k (.agg #[.slice (some ⟨t,0,none⟩) a a,.slice (some ⟨w,0,none⟩) n n,.slice o f r,.slice p j s]) h'):Ct 40 [v] h k:=by
 obtain⟨Q,a,S,R,n,T,o,f,r,p,j,s,ws,rfl,x,y,N,O,z⟩:=q.out;have Y:n=d.aq.length:=by rw[y.len,<-z,mQN]
 refine mQx jKI Tryz.func40 λA Z=>?_;cbv;refine(WI x).mono (λv U hR=>?_);obtain⟨l,t,P,rfl,o1⟩:=hR;cbv;refine bQG (y.mono (l.t _)) (λV w g b B C K E o2=>?_);rw[z]at o2;cbv;refine(Dj (N.mono ((l.trans b).t _))).mono (λv W hR=>?_);obtain⟨c,u,X,rfl,L,-⟩:=hR;cbv;refine(Dj (O.mono (((l.trans b).trans c).t _))).mono (λv F hR=>?_);obtain⟨e,I,J,rfl,M,-⟩:=hR;have D:=G F t w a n u f X I j J g (((l.trans b).trans c).trans e) P (l.none B) x.len (o1.mono (((b.trans c).trans e).t _)) Y C K (λi m H=>l.none (E i m H)) (o2.mono ((c.trans e).t _)) (L.mono (e.t _)) M;cbv;exact D
theorem aQK{s:List fJ}(h:g.length=s.length):(s.zip g).map (λx=>(x.1,true))=Wf s:=by unfold Wf;have e:(λx:fJ×Option Nat=>(x.1,true))=(λw:fJ=>(w,true)) ∘ Prod.fst:=rfl;rw[e,<-mXS];congr 1;rw[<-List.unzip_fst,List.unzip_zip h.symm]
theorem bXu{v:Value}(q:ik h v d)
 (U:∀h' c t w O f (g:List (Option Nat)),Le h h'->h c=none->h t=none->h w=none->c≠t->c≠w->f=d.aq.length->g.length=f->UJ g->(∀(i m:Nat),g[i]? =some (some m)->h m=none)->fX 55 lk h' w f (d.aq.zip g)->
  lA h' c t w O f d.az (Wf d.aq) d.holds d.waits 0->k (.pointer (some ⟨c,0,none⟩)) h'):Ct 38 [v] h k:=by
 obtain⟨Y,o,c1,Z,b,c2,r,G,u,s,H,y,rfl⟩:=q.form;refine mQx jKK Tryz.func38 λA hA=>?_;cbv;refine dZs q (λD t w o b r G u s H y g F X J P z B L K M I Q R=>?_);have C:fX 55 cX D w b (Wf d.aq):=by have:=fX.map (s1:=lk) (s2:=cX) rfl (λx=>(x.1,true)) RT I;rw[aQK (by omega)]at this;exact this
 cbv;intro n p j E;have l:Le D p:=by rw[E];exact Le.set j
 have V:n≠t:=λe=>by
  obtain⟨c,a,-⟩:=z.out;rw[<-e,j]at a;cases a
 have W:n≠w:=λe=>by
  obtain⟨c,a,-⟩:=C.out;rw[<-e,j]at a;cases a
 have S:=(congrFun E n).trans ae;have T:lA p n t w o b d.az (Wf d.aq) d.holds d.waits 0:=
  ⟨o,b,r,G,u,s,H,y,0,S,.inl ⟨rfl,rfl⟩,P,z.mono (l.t _),by simp[Wf,B],C.mono (l.t _),Q.mono (l.t _),R.mono (l.t _)⟩
 have N:=U p n t w o b g (F.trans l) (F.none j) X J V W B L K M (I.mono (l.t _)) T;cbv;exact N
def nI(nm:ByteArray):Bool:=decide (kE ⟨nm,[⟨nA,2,false⟩],0,false⟩≠0)
def jT(d:DB)(s:Int)(nm:ByteArray):DB×Int:=
 if jG (bQ d.aq s)=true then if nI nm=true then(d,12)else match d.aq[di (bQ d.aq s)]? with
  |some w=>if decide ((w.marks.length:Int)>=10)=true then(d,4)else(⟨d.az,d.aq.set (di (bQ d.aq s)) ⟨w.s,w.log,w.marks++[⟨nm,(w.log.length:Int)⟩]⟩,d.holds,d.waits⟩,0)
  |none=>(d,2)
 else(d,2)
theorem bKh{v:Value}(q:ik h v d)(s:Int)(nm:ByteArray){D:DB×Int}(hD:jT d s nm=D)
 (hk:bJg h D.1 D.2 k):Ct 24 [v,.int .i64 s,.string nm] h k:=by
 have q':=q;obtain⟨L,R,r,G,C,H,M,S,O,N,T,P,ws,rfl,-,qW,-,-,ba⟩:=q'.out;have Jv:C=d.aq.length:=by rw[qW.len,<-ba,mQN]
 refine mQx jKV Tryz.func24 λA hA=>?_;cbv;refine bXu q (λh1 c tb E ct cw gs l1 hc wB Ai wF tZ Uw An aV CE om cs=>?_);have bj:gs.length=d.aq.length:=by rw[An,Uw]
 have al:(d.aq.zip gs).length=d.aq.length:=by rw[mJy];omega
 obtain⟨Z,hZ⟩:∃Z,Z=d.aq.zip gs:=⟨_,rfl⟩;rw[<-hZ]at al om;have bc:∀(j:Nat) (w:fJ),d.aq[j]? =some w->∃g,Z[j]? =some (w,g)/\gs[j]? =some g:=λj w B=>by
  have tX:=(mQB.1 B).1;obtain⟨g,hg⟩:=mQA gs j;refine⟨g,?_,hg⟩;rw[hZ,mJc];exact⟨B,hg⟩
 have cj:Z.map (λx=>(x.1,true))=Wf d.aq:=by rw[hZ];exact aQK bj
 have bd:∀(j:Nat) (x:fJ×Option Nat),Z[j]? =some x->gs[j]? =some x.2:=λj x B=>by
  rw[hZ,mJc]at B;exact B.2
 cbv;refine sO cs s (λh2 z t l2 hz ht=>?_);rw[qO]at ht hz;have ko:=l1.trans l2;have q2:=q.mono ko;cases t with
 |false=>
  have U:D=(d,2):=by rw[<-hD];unfold jT;rw[<-ht];rfl
  subst U;cbv;rw[show A .not false=true by rw[hA.not];rfl];cbv;refine fi q2 (λh3 L R r G C H M S O N T P l3 Y=>?_);have F:=hk h3 L R r G C H M S O N T P (ko.trans l3) Y;cbv;exact F
 |true=>
  have aP:di (bQ d.aq s)<d.aq.length:=by have:=lr ht.symm;simpa[bQ]using this
  obtain⟨w,hw⟩:=aE aP;have U:(if nI nm=true then((d,12):DB×Int)else if decide ((w.marks.length:Int)>=10)=true then(d,4)else(⟨d.az,d.aq.set (di (bQ d.aq s)) ⟨w.s,w.log,w.marks++[⟨nm,(w.log.length:Int)⟩]⟩,d.holds,d.waits⟩,0))=D:=by rw[<-hD];unfold jT;rw[<-ht,hw];rfl
  clear hD;obtain⟨i,hi⟩:∃i,i=di (bQ d.aq s):=⟨_,rfl⟩;rw[<-hi]at U hw hz;clear hi aP;have ke:=(mQB.1 hw).1;cbv;rw[show A .not true=false by rw[hA.not];rfl];cbv;intro aY h3 bw l;have l3:Le h2 h3:=by rw[l];exact Le.set bw
  have g3:=(congrFun l aY).trans ae;have qc:Sl 155 bI h3 (.slice (some ⟨aY,0,none⟩) 1 1) [⟨nA,2,false⟩]:=bA (s:=bI) g3 (x:=⟨nA,2,false⟩) rfl;cbv;refine(WU (nm:=nm) (key:=0) (only:=false) qc).mono (λv h4 hR=>?_);obtain⟨l4,e,rfl,he⟩:=hR;have xW:=(ko.trans l3).trans l4;generalize X:A .aI .neq e 0=u;have fu:=X;rw[aC A]at X;have bx:nI nm=u:=by unfold nI;rw[<-he];exact X
  rw[bx]at U;cbv;rw[fu];cases u with
  |true=>have U:((d,12):DB×Int)=D:=U;subst U;cbv;refine fi (q.mono xW) (λb L R r G C H M S O N T P n Y=>?_);have F:=hk b L R r G C H M S O N T P (xW.trans n) Y;cbv;exact F
  |false=>
   obtain⟨⟨w0,wf⟩,Ek⟩:=aE (xs:=ws) (i:=i) (by have:=qW.len;omega);have bF:w0=w:=by
    have:(ws.map (·.1))[i]? =some w0:=by rw[mXe,Ek];rfl
    rw[ba,hw]at this;cases this;rfl
   subst bF;obtain⟨ay,V,f⟩:=w0;have U:(if decide ((f.length:Int)>=10)=true then((d,4):DB×Int)else(⟨d.az,d.aq.set i ⟨ay,V,f++[⟨nm,(V.length:Int)⟩]⟩,d.holds,d.waits⟩,0))=D:=U;have FL:G.isSome=true/\0<=z/\z<(C:Int):=⟨qW.aT,hz.ix (by omega)⟩;cbv;refine⟨FL,?_⟩;cbv;refine HJ (qW.mono (xW.t _)) Ek hz.eq (λy1 y2 y3 qm _=>?_);have tD:y2=f.length:=qm.len;generalize X:A .aI .geq (A .nat y2) 10=u;have fu:=X;rw[cf A,hA.nat,tD,show Int.ofNat f.length=(f.length:Int)from rfl]at X;rw[X]at U;have ch:u=false->f.length<10:=λe=>by
    rw[e]at X;have:=mQO X;omega
   cbv;rw[fu];cases u with
   |true=>have U:((d,4):DB×Int)=D:=U;subst U;cbv;refine fi (q.mono xW) (λb L R r G C H M S O N T P n Y=>?_);have F:=hk b L R r G C H M S O N T P (xW.trans n) Y;cbv;exact F
   |false=>
    have U:((⟨d.az,d.aq.set i ⟨ay,V,f++[⟨nm,(V.length:Int)⟩]⟩,d.holds,d.waits⟩,0):DB×Int)=D:=U;have fL:f.length<10:=ch rfl;have rK:=(l2.trans l3).trans l4;have QL:=cs.mono rK;have bb:=om.mono (rK.t _);refine QL.elim (λm1 m2 x3 m3 k3 x4 m4 k4 o g0 ho f1 f2 f3 f4 f6 f7 _=>?_);have sH:m2=d.aq.length:=by rw[f3];simp[Wf]
    have cJ:(some (⟨E,0,none⟩:Addr)).isSome=true/\0<=z/\z<(m2:Int):=⟨rfl,hz.ix (by omega)⟩;obtain⟨gm,az,RI⟩:=bc i _ hw;have aW:Sl 55 lk h4 (.slice (some ⟨E,0,none⟩) m2 cw) Z:=bb.sl (sH.trans al.symm);cbv;rw[ai A];rw[ai A];refine mQw g0 ?_;cbv;refine⟨cJ,?_⟩;cbv;refine aW.vD az hz.eq (o:=2) (m:=1) (by simp[lk]) (λcn bf ag=>?_);obtain⟨lb,ln,mb,mn,mc,rfl,au,ar⟩:=bf;have au:Sl 137 dI h4 (.slice lb ln ln) V:=au;have tG:ln=V.length:=au.len;cbv;refine aW.vD az hz.eq (o:=1) (m:=1) (by simp[lk]) (λBs cb _=>?_);obtain⟨bk,W,cm,ck,cl,rfl,ak,-⟩:=cb;have ak:Sl 137 dI h4 (.slice bk W W) V:=ak;have bz:A .nat W=(V.length:Int):=by rw[hA.nat];have:=ak.len;rw[<-this];rfl
    cbv;intro Ad b yf e5;have n:Le h4 b:=by rw[e5];exact Le.set yf
    have g5:=(congrFun e5 Ad).trans ae;have qx:=bA (s:=dN) g5 (x:=⟨nm,A .nat W⟩) rfl;rw[bz]at qx;cbv;refine ag _ _ n ?_;cbv;refine⟨⟨_,rfl,rfl⟩,?_⟩;cbv;have aw:=bb.mono (n.t _);have Lk:=QL.mono n;have aK:=xW.trans n;obtain⟨ab,NJ⟩:∃m:oy,m=⟨nm,(V.length:Int)⟩:=⟨_,rfl⟩;rw[<-NJ]at qx U;have rest:∀(a:ad) (b6:Option Addr) (c6:Nat),bR [51,155,84,86,55,137,201,130] b a->Le h a->a E=b E->a c=b c->Sl 150 dN a (.slice b6 (mn+1) c6) (f++[ab])->
     (∀(j:Nat) (x:fJ×Option Nat) (cs:List Value),j≠i->Z[j]? =some x->lk.R b cs x->cX.R a cs (x.1,true))->
     ∀k',(∀K,Le h K->K c=b c->ik K (.agg #[.slice (some ⟨tb,0,none⟩) m1 ct,.slice (some ⟨E,0,none⟩) m2 cw,.slice x3 m3 k3,.slice x4 m4 k4]) D.1->k' K)->Rn a (A .off (A .mS (some ⟨E,0,none⟩) z 3) 2) [.slice b6 (mn+1) c6] k':=λa b6 c6 SN l6 J I bn ig k' wT=>by
     refine fX.eJT (s1:=lk) (s2:=cX) (A:=A) rfl (λx=>(x.1,true)) aw J az hz.eq rfl (off:=2) (by simp[lk]) (x':=(⟨ay,V,f++[ab]⟩,true)) (λK cs k7 t7 hR=>?_) (λK cs j y k7 t7 B hy hR=>?_) (λK k7 t7 o7=>?_)
     .obtain⟨a1,a2,a3,a4,a5,rfl,a6,-⟩:=hR;exact⟨_,_,_,_,_,_,rfl,(a6.mono (SN.sub)).mono (t7 _ (by decide)),bn.mono (t7 _ (by decide)),λ_=>rfl⟩
     .obtain⟨a1,a2,a3,a4,a5,a6,rfl,a7,a8,a9⟩:=ig j y cs B hy hR;exact⟨_,_,_,_,_,_,rfl,a7.mono (t7 _ (by decide)),a8.mono (t7 _ (by decide)),a9⟩
     refine wT K (l6.dJ (by simpa using Ai) k7) ?_ ?_
     .rw[<-I];cases hb:a c with
      |none=>rw[I,n _ _ g0]at hb;cases hb
      |some o=>exact k7 _ _ hb (by simpa using tZ)
     rw[<-U];have aj:bR [51,155,84,86,201] b K:=(SN.sub).trans (t7 _ (by decide));refine⟨_,_,_,_,_,_,_,_,_,_,_,_,_,rfl,(((f2.mono (n.t _)).mono (aj.sub)).sl f1),o7.sl ?_,(f6.mono (n.t _)).mono (aj.sub),(f7.mono (n.t _)).mono (aj.sub),?_⟩
     .rw[mXv,mQN];exact sH.trans al.symm
     rw[cj,mZc,IY]
    have Q:=n _ _ g0;clear hZ;have aZ:∃o,b E=some o:=by obtain⟨cc,Ij,-⟩:=aw.out;exact⟨_,Ij⟩
    have HX:mn=f.length:=by
     rcases ar with⟨-,e1,-,l⟩|⟨p,-,-,l,-⟩
     .have l:f=[]:=l;rw[e1,l];rfl
     exact l
    have We:Sl 150 dN b (.slice mb mn mc) f:=by
     rcases ar with⟨-,e1,e2,l⟩|⟨p,-,e2,l,o⟩
     .have l:f=[]:=l;rw[e1,e2,l];exact Sl.nil
     rw[e2];exact(o.mono (n.t _)).sl l
    by_cases Ie:mn+1<=mc
    .rcases ar with⟨-,e1,e2,-⟩|⟨p,e1,e2,l,o⟩
     .omega
     have e1:gm=some p:=e1;subst e1 e2;have o5:fX 150 dN b p mc f:=o.mono (n.t _);have bo:p≠E:=λe=>by
      obtain⟨r,q1,-⟩:=o5.out;obtain⟨H,q2,-⟩:=aw.out;rw[e,q2]at q1;cases q1
     have bt:p≠c:=λe=>by
      obtain⟨r,q1,-⟩:=o5.out;rw[e,Q]at q1;cases q1
     have br:h p=none:=CE i p RI;have ca:∀(j:Nat) (x:fJ×Option Nat) (m':Nat),j≠i->Z[j]? =some x->x.2=some m'->m'≠p:=λj x m' B hx hm e=>by
      have h1:=bd j x hx;rw[hm,e]at h1;exact B (aV j i p h1 RI)
     clear aV CE bc bd;refine o5.Re (by decide) (i:=mn) (by omega) qx Ie (by omega) rfl (λa m hm k6 t6 o6=>?_);rw[HX,mXL,mXB (by omega),mXb]at o6;have bg:Le h a:=aK.dJ (by simpa using br) k6;have J:a E=b E:=by obtain⟨o,ho⟩:=aZ;rw[ho];exact k6 _ _ ho (by simpa using bo.symm)
     have I:a c=b c:=by rw[Q];exact k6 _ _ Q (by simpa using bt.symm)
     have ig:∀(j:Nat) (x:fJ×Option Nat) (cs:List Value),j≠i->Z[j]? =some x->lk.R b cs x->cX.R a cs (x.1,true):=λj x cs B hx hR=>by
      refine RT a cs x ?_;obtain⟨a1,a2,a3,a4,a5,rfl,a6,a7⟩:=hR;refine⟨a1,a2,a3,a4,a5,rfl,a6.mono (t6 _ (by decide)),?_⟩;rcases a7 with a7| ⟨m',f1,f2,f3,f4⟩
      .exact .inl a7
      exact .inr ⟨m',f1,f2,f3,f4.kp k6 (by simpa using ca j x m' B hx f1) (t6 _ (by decide))⟩
     have wC:Sl 150 dN a (.slice (some ⟨p,0,none⟩) (mn+1) mc) (f++[ab]):=o6.sl (by simp[HX]);subst hm;cbv;refine rest a _ _ (t6 _ (by decide)) bg J I wC ig _ (λK l7 aH JB=>?_);have an:=aH.trans Q;cbv;rw[ai A];refine mQw an ?_;cbv;refine fi JB (λh8 L R r G C H M S O N T P l8 Y=>?_);have F:=hk h8 L R r G C H M S O N T P (l7.trans l8) Y;rw[<-U]at F;cbv;exact F
    refine lz We qx (by omega) rfl (by decide) (by omega) (λp c6 a gY l6 hc o6=>?_);have J:a E=b E:=by obtain⟨o,ho⟩:=aZ;rw[ho];exact l6 _ _ ho
    have I:a c=b c:=by rw[Q];exact l6 _ _ Q
    have ig:∀(j:Nat) (x:fJ×Option Nat) (cs:List Value),j≠i->Z[j]? =some x->lk.R b cs x->cX.R a cs (x.1,true):=λj x cs B hx hR=>RT a cs x (lk.mono (l6.t _) hR);have wC:Sl 150 dN a (.slice (some ⟨p,0,none⟩) (mn+1) c6) (f++[ab]):=o6.sl (by simp[HX]);cbv;refine rest a _ _ (l6.t _) (aK.trans l6) J I wC ig _ (λK l7 aH JB=>?_);have an:=aH.trans Q;cbv;rw[ai A];refine mQw an ?_;cbv;refine fi JB (λh8 L R r G C H M S O N T P l8 Y=>?_);have F:=hk h8 L R r G C H M S O N T P (l7.trans l8) Y;rw[<-U]at F;cbv;exact F
end Go.S
