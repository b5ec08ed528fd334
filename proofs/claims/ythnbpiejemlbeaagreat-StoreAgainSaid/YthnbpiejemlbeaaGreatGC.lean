import Derived.Test.YthnbpiejemlbeaaGreatGB
set_option linter.all false
set_option maxRecDepth 100000
set_option maxHeartbeats 8000000
namespace Go.S
open Go.Sx Go.Proofs
variable {a β:Type}{d:DB}{g:List (Option Nat)}{xs:List a}{cap:Nat}{b:Option Addr}{k:Value->ad->Prop}{h:ad}
theorem _root_.Go.Sx.Rows.map{s1:Sh a}{s2:Sh β}(n:s1.n=s2.n)(f:a->β)(hR:∀h cs x,s1.R h cs x->s2.R h cs (f x)){c:List Value}{off:Nat}(r:Sx.Rows s1 h c off xs):Sx.Rows s2 h c off (xs.map f):=by
 refine⟨by rw[kZl,<-n];exact r.1,λi x hx=>?_⟩;rw[kZf]at hx;cases b:xs[i]? with
 |none=>grind
 |some y=>rw[b]at hx;simp at hx;subst hx;rw[<-n];exact hR _ _ _ (r.2 i y b)
theorem _root_.Go.Sx.dt.map{s1:Sh a}{s2:Sh β}(g:s1.n=s2.n)(f:a->β)(hR:∀h cs x,s1.R h cs x->s2.R h cs (f x)){e:Nat}{n:Nat}(o:dt e s1 h n cap xs):dt e s2 h n cap (xs.map f):=by obtain⟨c,b,d,i⟩:=o.out;exact⟨⟨c,b,Sx.Rows.map g f hR d,gg⟩,by rw[kZl];exact o.le,by rw[kZl];exact o.bd⟩
def kW:Sh (eJ×Option Nat)where
 n:=3
 R h cs t:=∃b1 n1 b2 n2 c2,cs=[.zI t.1.s,.slice b1 n1 n1,.slice b2 n2 c2]/\Sl 161 bD h (.slice b1 n1 n1) t.1.log/\
  ((t.2=none/\n2=0/\c2=0/\t.1.marks=[])\/∃nb,t.2=some nb/\b2=zsA nb/\n2=t.1.marks.length/\dt 183 dw h nb c2 t.1.marks)
 len:=gg
 one:=by rintro h cs x ⟨_,_,_,_,_,rfl,-⟩;rfl
 tys:=[161,45,183]
 mono:=by
  rintro h h' cs x hl ⟨b1,n1,b2,n2,c2,rfl,q1,q2⟩;refine⟨b1,n1,b2,n2,c2,rfl,q1.mono (hl.sub),?_⟩;rcases q2 with q2| ⟨nb,e1,e2,e3,o⟩
  .exact .inl q2
  exact .inr ⟨nb,e1,e2,e3,o.mono (hl.sub)⟩
theorem OS(h:ad)(cs:List Value)(x:eJ×Option Nat)(r:kW.R h cs x):cu.R h cs (x.1,true):=by
 obtain⟨b,n,c,f,d,rfl,q,g⟩:=r;refine⟨b,n,n,c,f,d,rfl,q,?_,λ_=>rfl⟩;rcases g with⟨-,e1,e,a⟩|⟨i,e1,e,a,o⟩
 .grind [dw,Sl.nil]
 rw[e];exact o.sl a
theorem VE{xs:List mS}{len:Nat}(q:Sl 183 dw h (.slice b len cap) xs)(g:∀d h',len=0->Le h h'->k (.slice d 0 0) h')
 (S:∀n c h',h n=none->0<len->Le h h'->dt 183 dw h' n c xs->k (.slice (zsA n) len c) h'):Ct 220 [.slice b len cap] h k:=by
 refine cB VY Tryz.func220 λA r=>?_;cbv;refine bm (λf=>?_) (λf=>?_)
 .rw[r.CI]at f;have s:b=none:=by cases b<;>simp at f |-
  subst s;have hl:len=0:=by
   rcases kZE len with e|e
   .exact e
   have:=q.bu e;cases this
  have a:=g none h hl (Le.refl _);cbv;exact a
 cbv;intro u i N w;have l:Le h i:=zqs w N
 cbv;refine dG (q.mono (l.t _)) (by simp[dw]) rfl dl (λt=>?_) (λn c p e1 j m o=>?_)
 .have a:=λd=>g d i t l;cbv;exact a _
 have a:=S n c p (l.none e1) j (l.trans m) o;cbv;exact a
theorem aJH{w:eJ}{g:Bool}{s t a:Value}(q:cu.R h [s,t,a] (w,g))
 (u:∀h' o n p b a (m:Option Nat),Le h h'->(∀f,m=some f->h f=none)->kW.R h' [.zI w.s,.slice o n n,.slice p b a] (w,m)->k (.agg #[.zI w.s,.slice o n n,.slice p b a]) h'):Ct 101 [.agg #[s,t,a]] h k:=by
 obtain⟨o,n,D,p,b,E,B,i,j,-⟩:=q;cases B;have i:Sl 161 bD h (.slice o n D) w.log:=i;have j:Sl 183 dw h (.slice p b E) w.marks:=j;obtain⟨ws,wl,F⟩:=w;refine cB bXv Tryz.func101 λA J=>?_;cbv;refine(QE i).mono (λv I hR=>?_);obtain⟨l,f,M,rfl,x⟩:=hR;cbv;refine VE (j.mono (l.t _)) (λy r K d=>?_) (λH c r e1 G d o2=>?_)
 .have C:F=[]:=by
   have:=j.len
   grind
  have z:=u r (zsA f) n y 0 0 none (l.trans d) (λ_ e=>by cases e) ⟨_,_,_,_,_,rfl,(x.sl i.len).mono (d.t _),.inl ⟨rfl,rfl,rfl,C⟩⟩;cbv;exact z
 have z:=u r (zsA f) n (zsA H) b c (some H) (l.trans d) (λ_ e=>by cases e;exact l.none e1) ⟨_,_,_,_,_,rfl,(x.sl i.len).mono (d.t _),.inr ⟨H,rfl,rfl,j.len,o2⟩⟩;cbv;exact z
def Ra(gs:List (Option Nat)):Prop:=∀(i j nb:Nat),gs[i]? =some (some nb)->gs[j]? =some (some nb)->i=j
theorem Ra.push(d:Ra g){m:Option Nat}(h:∀(i n:Nat),g[i]? =some (some n)->m≠some n):Ra (g++[m]):=λi j n a b=>by
 rw[kZZ]at a b;split at a<;>split at b
 .exact d i j n a b
 .grind
 .grind
 grind
theorem aQB{xs:List (eJ×Bool)}{len:Nat}(q:Sl 79 cu h (.slice b len cap) xs)
 (hk:∀h' d (a:List (Option Nat)),Le h h'->h d=none->a.length=len->Ra a->(∀(i m:Nat),a[i]? =some (some m)->h m=none)->dt 79 kW h' d len ((xs.map (·.1)).zip a)->k (.slice (zsA d) len len) h'):
 Ct 100 [.slice b len cap,.func (.func 101) #[] #[]] h k:=by
 have l:=q.len;obtain⟨lG,gQ⟩:=q.bound;refine cB bXw Tryz.func100 λA hA=>?_;cbv;refine tI (s:=kW) rfl ip dl (λd h1 H r ho=>?_);obtain⟨I,X⟩:∃I:Nat->Int->ad->Prop,∀n z h',I n z h'=∃(i:Nat) (a:List (Option Nat)),bg z i/\n=len-i/\i<=len/\Le h h'/\a.length=i/\Ra a/\(∀(j m:Nat),a[j]? =some (some m)->h m=none/\h' m≠none/\m≠d)/\dt 79 kW h' d len (((xs.take i).map (·.1)).zip a):=⟨_,λ_ _ _=>rfl⟩;cbv;refine ba.gz (G:=Int) (λz=>[(13,.v (.zI z))]) (λ_=>[]) (λn z h'=>I n z h') len 0 (by rw[X];exact⟨0,[],⟨rfl⟩,ip,ip,r,rfl,λ_ _ _ h=>by simp at h,λ_ _ h=>by simp at h,ho⟩) ?_
 intro n z h' K;rw[X]at K;cbv;obtain⟨i,a,f,hn,hi,S,C,u,v,y⟩:=K;refine bm (λp=>?_) (λp=>?_)
 .have B:=f.lt p;clear p;obtain⟨⟨w,g⟩,hx⟩:=cK xs i;have mV:b.isSome=true/\0<=z/\z<(len:Int):=⟨q.bu,f.ix B⟩;have jW:(some (⟨d,0,none⟩:Addr)).isSome=true/\0<=z/\z<(len:Int):=⟨rfl,f.ix B⟩;have ab:(((xs.take i).map (·.1)).zip a).length=i:=by simp;omega
  have Y:=f.eq;cbv;refine⟨mV,?_⟩;cbv;refine(q.mono (S.t _)).load hx f.eq (λcs F=>?_);have hv:cu.R h' cs (w,g):=F;obtain⟨U,n1,k1,W,n2,k2,rfl,-⟩:=F;cbv;refine aJH hv (λh2 U n1 W n2 c2 m M t N=>?_);cbv;refine⟨jW,?_⟩;cbv;refine(y.mono (M.t _)).store dl (i:=i) ip ip ip Y rfl N (λJ E R D=>?_);rw[if_neg ip]at D;have O:Le h J:=(S.trans M).bf (iu H) E;have hp:I (len-(i+1)) (A .aX .add .i64 z 1) J:=by
   rw[X];refine⟨i+1,a++[m],f.succ (A:=A),rfl,ip,O,by simp[C],u.push (λj Z c e=>?_),λj m' c=>?_,?_⟩
   .exact(v j Z c).2.1 (t Z e)
   .rw[kZZ]at c;split at c
    .obtain⟨a1,a2,x⟩:=v j m' c;refine⟨a1,?_,x⟩;cases L:h' m' with
     |none=>exact absurd L a2
     |some o=>rw[E _ _ (M _ _ L) (iu x)];simp
    rw[kJZ]at c;split at c
    .cases c;have Q:=t m' rfl;obtain⟨_,_,_,_,_,-,-,hq⟩:=N;rcases hq with⟨e,-⟩|⟨Hp,e,-,-,o⟩
     .cases e
     cases e;obtain⟨cc,P,-⟩:=o.out;have V:m'≠d:=λe=>by
      obtain⟨ak,ag,-⟩:=y.out
      grind
     refine⟨S.none Q,?_,V⟩;rw[E _ _ P (iu V)];simp
    cases c
   have e2:(xs.take (i+1)).map (·.1)=(xs.take i).map (·.1)++[w]:=by rw[kJG,hx];simp
   rw[e2,List.zip_append (by simp;omega)];exact D
  cbv;refine zqn (len-(i+1)) _ ip hp
 have mw:=f.ge p;have ic:i=len:=ip
 subst ic;rw[l,kXo,<-l]at y;have T:=hk h' d a S H C u (λj m c=>(v j m c).1) y;cbv;exact T
theorem cQf{v:Value}(q:fD h v d)
 (F:∀h' t wb a n o f r p j s (g:List (Option Nat)),Le h h'->h t=none->h wb=none->a=d.ao.length->dt 61 bT h' t a d.ao->n=d.ai.length->g.length=n->Ra g->(∀(i m:Nat),g[i]? =some (some m)->h m=none)->dt 79 kW h' wb n (d.ai.zip g)->Sl 253 bC h' (.slice o f r) d.holds->Sl 253 bC h' (.slice p j s) d.waits->
  k (.agg #[.slice (zsA t) a a,.slice (zsA wb) n n,.slice o f r,.slice p j s]) h'):Ct 40 [v] h k:=by
 obtain⟨Q,a,T,R,n,U,o,f,r,p,j,s,ws,rfl,u,w,L,M,x⟩:=q.out;have B:n=d.ai.length:=by rw[w.len,<-x,kZl]
 refine cB fZD Tryz.func40 λA Y=>?_;cbv;refine(SS u).mono (λv V hR=>?_);obtain⟨l,t,O,rfl,o1⟩:=hR;cbv;refine aQB (w.mono (l.t _)) (λW wb g b N C E S o2=>?_);rw[x]at o2;cbv;refine(BJ (L.mono ((l.trans b).t _))).mono (λv X hR=>?_);obtain⟨c,I,H,rfl,J,-⟩:=hR;cbv;refine(BJ (M.mono (((l.trans b).trans c).t _))).mono (λv D hR=>?_);obtain⟨e,y,P,rfl,K,-⟩:=hR;have z:=F D t wb a n I f H y j P g (((l.trans b).trans c).trans e) O (l.none N) u.len (o1.mono (((b.trans c).trans e).t _)) B C E (λi m G=>l.none (S i m G)) (o2.mono ((c.trans e).t _)) (J.mono (e.t _)) K;cbv;exact z
theorem WN{ws:List eJ}(h:g.length=ws.length):(ws.zip g).map (λx=>(x.1,true))=Wf ws:=by unfold Wf;have e:(λx:eJ×Option Nat=>(x.1,true))=(λw:eJ=>(w,true)) ∘ Prod.fst:=rfl;rw[e,<-kXS];congr 1;rw[<-List.unzip_fst,List.unzip_zip h.symm]
theorem aXh{v:Value}(q:fD h v d)
 (R:∀h' c t wb K w (g:List (Option Nat)),Le h h'->h c=none->h t=none->h wb=none->c≠t->c≠wb->w=d.ai.length->g.length=w->Ra g->(∀(i m:Nat),g[i]? =some (some m)->h m=none)->dt 79 kW h' wb w (d.ai.zip g)->
  kO h' c t wb K w d.ao (Wf d.ai) d.holds d.waits 0->k (.zP c) h'):Ct 38 [v] h k:=by
 obtain⟨X,b,Z,Y,a,c2,j,E,p,o,F,r,rfl⟩:=q.form;refine cB fZE Tryz.func38 λA hA=>?_;cbv;refine cQf q (λz t wb b a j E p o F r g D V W L s u H I S G M N=>?_);have y:dt 79 cu z wb a (Wf d.ai):=by
  have:=dt.map (s1:=kW) (s2:=cu) rfl (λx=>(x.1,true)) OS G
  grind [WN]
 cbv;intro n f C B;have l:Le z f:=zqs B C
 have T:n≠t:=λe=>by
  obtain⟨c,P,-⟩:=s.out
  grind
 have U:n≠wb:=λe=>by
  obtain⟨c,P,-⟩:=y.out
  grind
 have O:=zqt B;have Q:kO f n t wb b a d.ao (Wf d.ai) d.holds d.waits 0:=
  ⟨b,a,j,E,p,o,F,r,0,O,.inl ⟨rfl,rfl⟩,L,s.mono (l.t _),by simp[Wf,u],y.mono (l.t _),M.mono (l.t _),N.mono (l.t _)⟩
 have J:=R f n t wb b a g (D.trans l) (D.none C) V W T U u H I S (G.mono (l.t _)) Q;cbv;exact J
def nu(nm:ByteArray):Bool:=decide (ey ⟨nm,[⟨nA,2,false⟩],0,false⟩≠0)
def kX(d:DB)(s:Int)(nm:ByteArray):DB×Int:=
 if iC (cf d.ai s)=true then if nu nm=true then(d,12)else match d.ai[dE (cf d.ai s)]? with
  |some w=>if decide ((w.marks.length:Int)>=10)=true then(d,4)else(⟨d.ao,d.ai.set (dE (cf d.ai s)) ⟨w.s,w.log,w.marks++[⟨nm,(w.log.length:Int)⟩]⟩,d.holds,d.waits⟩,0)
  |none=>(d,2)
 else(d,2)
theorem aJk{v:Value}(q:fD h v d)(s:Int)(nm:ByteArray){D:DB×Int}(hD:kX d s nm=D)
 (hk:WM h D.1 D.2 k):Ct 159 [v,.zI s,.string nm] h k:=by
 have q':=q;obtain⟨I,O,r,F,B,G,K,P,M,L,Q,N,ws,rfl,-,qW,-,-,br⟩:=q'.out;have vd:B=d.ai.length:=by rw[qW.len,<-br,kZl]
 refine cB eKm Tryz.func159 λA hA=>?_;cbv;refine aXh q (λh1 c tb wb ct cw gs l1 hc nO vC qj px KD Cb EE Sv om cs=>?_);have bk:gs.length=d.ai.length:=by rw[Cb,KD]
 have al:(d.ai.zip gs).length=d.ai.length:=gg
 obtain⟨Z,hZ⟩:∃Z,Z=d.ai.zip gs:=⟨_,rfl⟩;rw[<-hZ]at al om;have aF:∀(j:Nat) (w:eJ),d.ai[j]? =some w->∃g,Z[j]? =some (w,g)/\gs[j]? =some g:=λj w S=>by
  have pE:=(HH.1 S).1;obtain⟨g,hg⟩:=cK gs j
  grind
 have bz:Z.map (λx=>(x.1,true))=Wf d.ai:=by rw[hZ];exact WN bk
 have aG:∀(j:Nat) (x:eJ×Option Nat),Z[j]? =some x->gs[j]? =some x.2:=λj x S=>by
  grind
 cbv;refine rO cs s (λh2 z t l2 U ht=>?_);rw[pH]at ht U;have fk:=l1.trans l2;have q2:=q.mono fk;cases t with
 |false=>
  have Y:D=(d,2):=by grind [kX]
  subst Y;cbv;rw[show A .not false=true by rw[hA.not];rfl];cbv;refine eC q2 (λh3 I O r F B G K P M L Q N l3 R=>?_);have E:=hk h3 I O r F B G K P M L Q N (fk.trans l3) R;cbv;exact E
 |true=>
  have aZ:dE (cf d.ai s)<d.ai.length:=by have:=jk ht.symm;simpa[cf]using this
  obtain⟨w,hw⟩:=ay aZ;have Y:(if nu nm=true then((d,12):DB×Int)else if decide ((w.marks.length:Int)>=10)=true then(d,4)else(⟨d.ao,d.ai.set (dE (cf d.ai s)) ⟨w.s,w.log,w.marks++[⟨nm,(w.log.length:Int)⟩]⟩,d.holds,d.waits⟩,0))=D:=by
   grind [kX]
  clear hD;obtain⟨i,hi⟩:∃i,i=dE (cf d.ai s):=⟨_,rfl⟩;rw[<-hi]at Y hw U;clear hi aZ;have ic:=(HH.1 hw).1;cbv;rw[show A .not true=false by rw[hA.not];rfl];cbv;intro aI h3 bj l;have l3:Le h2 h3:=zqs l bj
  have g3:=zqt l;have qc:Sl 202 bJ h3 (.slice (zsA aI) 1 1) [⟨nA,2,false⟩]:=bh (s:=bJ) g3 (x:=⟨nA,2,false⟩) rfl;cbv;refine(EK (nm:=nm) (key:=0) (only:=false) qc).mono (λv h4 hR=>?_);obtain⟨l4,e,rfl,he⟩:=hR;have sw:=(fk.trans l3).trans l4;generalize eu:A .aQ .neq e 0=u;have fu:=eu;rw[aJ A]at eu;have aN:nu nm=u:=by unfold nu;grind
  rw[aN]at Y;cbv;rw[fu];cases u with
  |true=>have Y:((d,12):DB×Int)=D:=Y;subst Y;cbv;refine eC (q.mono sw) (λb I O r F B G K P M L Q N n R=>?_);have E:=hk b I O r F B G K P M L Q N (sw.trans n) R;cbv;exact E
  |false=>
   obtain⟨⟨w0,wf⟩,Kk⟩:=ay (xs:=ws) (i:=i) gg;have bn:w0=w:=by
    grind
   subst bn;obtain⟨ab,wl,f⟩:=w0;have Y:(if decide ((f.length:Int)>=10)=true then((d,4):DB×Int)else(⟨d.ao,d.ai.set i ⟨ab,wl,f++[⟨nm,(wl.length:Int)⟩]⟩,d.holds,d.waits⟩,0))=D:=Y;have HM:F.isSome=true/\0<=z/\z<(B:Int):=⟨qW.bu,U.ix ip⟩;cbv;refine⟨HM,?_⟩;cbv;refine Ga (qW.mono (sw.t _)) Kk U.eq (λy1 y2 y3 qm _=>?_);have sy:y2=f.length:=qm.len;generalize eu:A .aQ .geq (A .nat y2) 10=u;have fu:=eu;rw[cF A,hA.nat,sy,show Int.ofNat f.length=(f.length:Int)from rfl]at eu;rw[eu]at Y;have bo:u=false->f.length<10:=λe=>by
    grind
   cbv;rw[fu];cases u with
   |true=>have Y:((d,4):DB×Int)=D:=Y;subst Y;cbv;refine eC (q.mono sw) (λb I O r F B G K P M L Q N n R=>?_);have E:=hk b I O r F B G K P M L Q N (sw.trans n) R;cbv;exact E
   |false=>
    have Y:((⟨d.ao,d.ai.set i ⟨ab,wl,f++[⟨nm,(wl.length:Int)⟩]⟩,d.holds,d.waits⟩,0):DB×Int)=D:=Y;have iE:f.length<10:=bo rfl;have aB:=(l2.trans l3).trans l4;have HS:=cs.mono aB;have aH:=om.mono (aB.t _);refine HS.elim (λm1 m2 x3 m3 k3 x4 m4 k4 o g0 ho f1 f2 f3 f4 f6 f7 _=>?_);have zV:m2=d.ai.length:=gg
    have eL:(some (⟨wb,0,none⟩:Addr)).isSome=true/\0<=z/\z<(m2:Int):=⟨rfl,U.ix ip⟩;obtain⟨gm,aw,nQ⟩:=aF i _ hw;have aE:Sl 79 kW h4 (.slice (zsA wb) m2 cw) Z:=aH.sl (zV.trans al.symm);cbv;rw[av A];rw[av A];refine cy g0 ?_;cbv;refine⟨eL,?_⟩;cbv;refine aE.sJ aw U.eq (o:=2) (m:=1) (by simp[kW]) (λcb Ni ag=>?_);obtain⟨lb,ln,mb,V,mc,rfl,aA,ax⟩:=Ni;have aA:Sl 161 bD h4 (.slice lb ln ln) wl:=aA;have bH:ln=wl.length:=aA.len;cbv;refine aE.sJ aw U.eq (o:=1) (m:=1) (by simp[kW]) (λyp aL _=>?_);obtain⟨bx,X,ca,bR,bV,rfl,an,-⟩:=aL;have an:Sl 161 bD h4 (.slice bx X X) wl:=an;have aO:A .nat X=(wl.length:Int):=by rw[hA.nat];have:=an.len;grind
    cbv;intro KY b wW e5;have n:Le h4 b:=zqs e5 wW
    have g5:=zqt e5;have qx:=bh (s:=dw) g5 (x:=⟨nm,A .nat X⟩) rfl;rw[aO]at qx;cbv;refine ag _ _ n ?_;cbv;refine zqr ?_;cbv;have aq:=aH.mono (n.t _);have zu:=HS.mono n;have YY:=sw.trans n;obtain⟨T,Ld⟩:∃m:mS,m=⟨nm,(wl.length:Int)⟩:=⟨_,rfl⟩;rw[<-Ld]at qx Y;have W:∀(a:ad) (b6:Option Addr) (c6:Nat),cX [61,202,46,45,79,161,253,148] b a->Le h a->a wb=b wb->a c=b c->Sl 183 dw a (.slice b6 (V+1) c6) (f++[T])->
     (∀(j:Nat) (x:eJ×Option Nat) (cs:List Value),j≠i->Z[j]? =some x->kW.R b cs x->cu.R a cs (x.1,true))->
     ∀k',(∀H,Le h H->H c=b c->fD H (.agg #[.slice (zsA tb) m1 ct,.slice (zsA wb) m2 cw,.slice x3 m3 k3,.slice x4 m4 k4]) D.1->k' H)->Hy a (A .off (A .jt (zsA wb) z 3) 2) [.slice b6 (V+1) c6] k':=λa b6 c6 aC l6 C Wx aM fV k' IT=>by
     refine dt.dXx (s1:=kW) (s2:=cu) (A:=A) rfl (λx=>(x.1,true)) aq C aw U.eq rfl (off:=2) (by simp[kW]) (x':=(⟨ab,wl,f++[T]⟩,true)) (λH cs k7 t7 hR=>?_) (λH cs j y k7 t7 S hy hR=>?_) (λH k7 t7 o7=>?_)
     .obtain⟨a1,a2,a3,a4,a5,rfl,a6,-⟩:=hR;exact⟨_,_,_,_,_,_,rfl,(a6.mono (aC.sub)).mono (t7 _ dl),aM.mono (t7 _ dl),λ_=>rfl⟩
     .obtain⟨a1,a2,a3,a4,a5,a6,rfl,a7,a8,a9⟩:=fV j y cs S hy hR;exact⟨_,_,_,_,_,_,rfl,a7.mono (t7 _ dl),a8.mono (t7 _ dl),a9⟩
     refine IT H (l6.bf (iu vC) k7) ?_ ?_
     .rw[<-Wx];cases hb:a c with
      |none=>rw[Wx,n _ _ g0]at hb;cases hb
      |some o=>exact k7 _ _ hb (iu px)
     rw[<-Y];have ar:cX [61,202,46,45,253] b H:=(aC.sub).trans (t7 _ dl);refine⟨_,_,_,_,_,_,_,_,_,_,_,_,_,rfl,(((f2.mono (n.t _)).mono (ar.sub)).sl f1),o7.sl ?_,(f6.mono (n.t _)).mono (ar.sub),(f7.mono (n.t _)).mono (ar.sub),?_⟩
     .rw[kJE,kZl];exact zV.trans al.symm
     rw[bz,kJD,Ae]
    have J:=n _ _ g0;clear hZ;have aD:∃o,b wb=some o:=by obtain⟨cc,Hr,-⟩:=aq.out;exact⟨_,Hr⟩
    have EC:V=f.length:=by
     rcases ax with⟨-,e1,-,l⟩|⟨p,-,-,l,-⟩
     .have l:f=[]:=l;rw[e1,l];rfl
     exact l
    have aK:Sl 183 dw b (.slice mb V mc) f:=by
     rcases ax with⟨-,e1,e2,l⟩|⟨p,-,e2,l,o⟩
     .have l:f=[]:=l;rw[e1,e2,l];exact Sl.nil
     rw[e2];exact(o.mono (n.t _)).sl l
    by_cases xf:V+1<=mc
    .rcases ax with⟨-,e1,e2,-⟩|⟨p,e1,e2,l,o⟩
     .omega
     have e1:gm=some p:=e1;subst e1 e2;have o5:dt 183 dw b p mc f:=o.mono (n.t _);have aW:p≠wb:=λe=>by
      obtain⟨r,q1,-⟩:=o5.out;obtain⟨G,q2,-⟩:=aq.out;rw[e,q2]at q1;cases q1
     have bd:p≠c:=λe=>by
      obtain⟨r,q1,-⟩:=o5.out;rw[e,J]at q1;cases q1
     have bc:h p=none:=Sv i p nQ;have bl:∀(j:Nat) (x:eJ×Option Nat) (m':Nat),j≠i->Z[j]? =some x->x.2=some m'->m'≠p:=λj x m' S hx hm e=>by
      have h1:=aG j x hx;rw[hm,e]at h1;exact S (EE j i p h1 nQ)
     clear EE Sv aF aG;refine o5.BO dl (i:=V) ip qx xf ip rfl (λa m hm k6 t6 o6=>?_);rw[EC,kXo,wy ip,kJH]at o6;have Ao:Le h a:=YY.bf (iu bc) k6;have C:a wb=b wb:=by obtain⟨o,ho⟩:=aD;rw[ho];exact k6 _ _ ho (iu aW.symm)
     have Wx:a c=b c:=by rw[J];exact k6 _ _ J (iu bd.symm)
     have fV:∀(j:Nat) (x:eJ×Option Nat) (cs:List Value),j≠i->Z[j]? =some x->kW.R b cs x->cu.R a cs (x.1,true):=λj x cs S hx hR=>by
      refine OS a cs x ?_;obtain⟨a1,a2,a3,a4,a5,rfl,a6,a7⟩:=hR;refine⟨a1,a2,a3,a4,a5,rfl,a6.mono (t6 _ dl),?_⟩;rcases a7 with a7| ⟨m',f1,f2,f3,f4⟩
      .exact .inl a7
      exact .inr ⟨m',f1,f2,f3,f4.kp k6 (by simpa using bl j x m' S hx f1) (t6 _ dl)⟩
     have oR:Sl 183 dw a (.slice (zsA p) (V+1) mc) (f++[T]):=o6.sl (by simp[EC]);subst hm;cbv;refine W a _ _ (t6 _ dl) Ao C Wx oR fV _ (λH l7 ao Gy=>?_);have ak:=ao.trans J;cbv;rw[av A];refine cy ak ?_;cbv;refine eC Gy (λh8 I O r F B G K P M L Q N l8 R=>?_);have E:=hk h8 I O r F B G K P M L Q N (l7.trans l8) R;rw[<-Y]at E;cbv;exact E
    refine jI aK qx ip rfl dl ip (λp c6 a eM l6 hc o6=>?_);have C:a wb=b wb:=by obtain⟨o,ho⟩:=aD;rw[ho];exact l6 _ _ ho
    have Wx:a c=b c:=by rw[J];exact l6 _ _ J
    have fV:∀(j:Nat) (x:eJ×Option Nat) (cs:List Value),j≠i->Z[j]? =some x->kW.R b cs x->cu.R a cs (x.1,true):=λj x cs S hx hR=>OS a cs x (kW.mono (l6.t _) hR);have oR:Sl 183 dw a (.slice (zsA p) (V+1) c6) (f++[T]):=o6.sl (by simp[EC]);cbv;refine W a _ _ (l6.t _) (YY.trans l6) C Wx oR fV _ (λH l7 ao Gy=>?_);have ak:=ao.trans J;cbv;rw[av A];refine cy ak ?_;cbv;refine eC Gy (λh8 I O r F B G K P M L Q N l8 R=>?_);have E:=hk h8 I O r F B G K P M L Q N (l7.trans l8) R;rw[<-Y]at E;cbv;exact E
end Go.S
