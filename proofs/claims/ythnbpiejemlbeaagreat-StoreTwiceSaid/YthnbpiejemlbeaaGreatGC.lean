import Derived.Test.YthnbpiejemlbeaaGreatGB
set_option linter.all false
set_option maxRecDepth 100000
set_option maxHeartbeats 8000000
namespace Go.S
open Go.Sx Go.Proofs
variable {β:Type}{d:DB}{g:List (Option Nat)}{cap:Nat}{b:Option Addr}{k:Value->ad->Prop}{h:ad}
theorem _root_.Go.Sx.Rows.map{b:Type}{s1:Sh b}{s2:Sh β}(n:s1.n=s2.n)(f:b->β)(hR:∀h cs x,s1.R h cs x->s2.R h cs (f x)){c:List Value}{off:Nat}{xs:List b}(r:Sx.Rows s1 h c off xs):Sx.Rows s2 h c off (xs.map f):=by
 refine⟨by rw[vi,<-n];exact r.1,λi x hx=>?_⟩;rw[kS]at hx;cases a:xs[i]? with
 |none=>rw[a]at hx;cases hx
 |some y=>rw[a]at hx;simp at hx;subst hx;rw[<-n];exact hR _ _ _ (r.2 i y a)
theorem _root_.Go.Sx.cZ.map{a:Type}{s1:Sh a}{s2:Sh β}(n:s1.n=s2.n)(f:a->β)(hR:∀h cs x,s1.R h cs x->s2.R h cs (f x)){e:Nat}{b:Nat}{xs:List a}(o:cZ e s1 h b cap xs):cZ e s2 h b cap (xs.map f):=by obtain⟨c,d,g,i⟩:=o.out;exact⟨⟨c,d,Sx.Rows.map n f hR g,by rw[<-n];exact i⟩,by rw[vi];exact o.le,by rw[vi];exact o.bd⟩
def kj:Sh (eY×Option Nat)where
 n:=3
 R h cs t:=∃b1 n1 b2 n2 c2,cs=[.int .i64 t.1.s,.slice b1 n1 n1,.slice b2 n2 c2]/\Sl 161 bz h (.slice b1 n1 n1) t.1.log/\
  ((t.2=none/\n2=0/\c2=0/\t.1.marks=[])\/∃nb,t.2=some nb/\b2=zsA nb/\n2=t.1.marks.length/\cZ 183 df h nb c2 t.1.marks)
 len:=by rintro h cs x ⟨_,_,_,_,_,rfl,-⟩;rfl
 one:=by rintro h cs x ⟨_,_,_,_,_,rfl,-⟩;rfl
 tys:=[161,45,183]
 mono:=by
  rintro h h' cs x hl ⟨b1,n1,b2,n2,c2,rfl,q1,q2⟩;refine⟨b1,n1,b2,n2,c2,rfl,q1.mono (hl.sub),?_⟩;rcases q2 with q2| ⟨nb,e1,e2,e3,o⟩
  .exact .inl q2
  exact .inr ⟨nb,e1,e2,e3,o.mono (hl.sub)⟩
theorem Nx(h:ad)(cs:List Value)(x:eY×Option Nat)(r:kj.R h cs x):bV.R h cs (x.1,true):=by
 obtain⟨b,n,c,f,d,rfl,q,g⟩:=r;refine⟨b,n,n,c,f,d,rfl,q,?_,λ_=>rfl⟩;rcases g with⟨-,e1,e,a⟩|⟨i,e1,e,a,o⟩
 .rw[e1,e];show Sl 183 df h _ x.1.marks;rw[a];exact Sl.nil
 rw[e];exact o.sl a
theorem Ug{xs:List mD}{len:Nat}(q:Sl 183 df h (.slice b len cap) xs)(M:∀d h',len=0->Le h h'->k (.slice d 0 0) h')
 (G:∀n c h',h n=none->0<len->Le h h'->cZ 183 df h' n c xs->k (.slice (zsA n) len c) h'):Ct 220 [.slice b len cap] h k:=by
 refine cg Uz Tryz.func220 λA p=>?_;cbv;refine ba (λf=>?_) (λf=>?_)
 .rw[p.Cc]at f;have r:b=none:=by cases b<;>simp at f |-
  subst r;have hl:len=0:=by
   rcases jKj len with e|e
   .exact e
   have:=q.bp e;cases this
  have a:=M none h hl (Le.refl _);cbv;exact a
 cbv;intro u g t w;have l:Le h g:=by rw[w];exact Le.set t
 cbv;refine dt (q.mono (l.t _)) (by simp[df]) rfl (by decide) (λs=>?_) (λn c o e1 i j m=>?_)
 .have a:=λd=>M d g s l;cbv;exact a _
 have a:=G n c o (l.none e1) i (l.trans j) m;cbv;exact a
theorem aZn{w:eY}{g:Bool}{s t a:Value}(q:bV.R h [s,t,a] (w,g))
 (u:∀h' o n p b a (m:Option Nat),Le h h'->(∀f,m=some f->h f=none)->kj.R h' [.int .i64 w.s,.slice o n n,.slice p b a] (w,m)->k (.agg #[.int .i64 w.s,.slice o n n,.slice p b a]) h'):Ct 101 [.agg #[s,t,a]] h k:=by
 obtain⟨o,n,D,p,b,E,B,i,j,-⟩:=q;cases B;have i:Sl 161 bz h (.slice o n D) w.log:=i;have j:Sl 183 df h (.slice p b E) w.marks:=j;obtain⟨M,wl,F⟩:=w;refine cg bQb Tryz.func101 λA K=>?_;cbv;refine(Pk i).mono (λv J hR=>?_);obtain⟨l,f,I,rfl,x⟩:=hR;cbv;refine Ug (j.mono (l.t _)) (λz r L d=>?_) (λG c r e1 H d o2=>?_)
 .have C:F=[]:=by have:=j.len;exact kh (by simp only at this;omega)
  have y:=u r (zsA f) n z 0 0 none (l.trans d) (λ_ e=>by cases e) ⟨_,_,_,_,_,rfl,(x.sl i.len).mono (d.t _),.inl ⟨rfl,rfl,rfl,C⟩⟩;cbv;exact y
 have y:=u r (zsA f) n (zsA G) b c (some G) (l.trans d) (λ_ e=>by cases e;exact l.none e1) ⟨_,_,_,_,_,rfl,(x.sl i.len).mono (d.t _),.inr ⟨G,rfl,rfl,j.len,o2⟩⟩;cbv;exact y
def PE(gs:List (Option Nat)):Prop:=∀(i j nb:Nat),gs[i]? =some (some nb)->gs[j]? =some (some nb)->i=j
theorem PE.push(d:PE g){m:Option Nat}(h:∀(i n:Nat),g[i]? =some (some n)->m≠some n):PE (g++[m]):=λi j n c e=>by
 rw[jKO]at c e;split at c<;>split at e
 .exact d i j n c e
 .rename_i a b;rw[jKD]at e;split at e
  .cases e;exact absurd rfl (h i n c)
  cases e
 .rename_i a b;rw[jKD]at c;split at c
  .cases c;exact absurd rfl (h j n e)
  cases c
 rw[jKD]at c e;split at c
 .split at e
  .omega
  cases e
 cases c
theorem Zc{xs:List (eY×Bool)}{len:Nat}(q:Sl 79 bV h (.slice b len cap) xs)
 (hk:∀h' d (a:List (Option Nat)),Le h h'->h d=none->a.length=len->PE a->(∀(i m:Nat),a[i]? =some (some m)->h m=none)->cZ 79 kj h' d len ((xs.map (·.1)).zip a)->k (.slice (zsA d) len len) h'):
 Ct 100 [.slice b len cap,.func (.func 101) #[] #[]] h k:=by
 have l:=q.len;obtain⟨kW,gZ⟩:=q.bound;refine cg bQc Tryz.func100 λA hA=>?_;cbv;refine sJ (s:=kj) rfl (by omega) (by decide) (λd h1 H t ho=>?_);obtain⟨I,r⟩:∃I:Nat->Int->ad->Prop,∀n z h',I n z h'=∃(i:Nat) (a:List (Option Nat)),aZ z i/\n=len-i/\i<=len/\Le h h'/\a.length=i/\PE a/\(∀(j m:Nat),a[j]? =some (some m)->h m=none/\h' m≠none/\m≠d)/\cZ 79 kj h' d len (((xs.take i).map (·.1)).zip a):=⟨_,λ_ _ _=>rfl⟩;cbv;refine aX.go (G:=Int) (λz=>[(13,.v (.int .i64 z))]) (λ_=>[]) (λn z h'=>I n z h') len 0 (by constructor<;>cbv) (by rw[r];exact⟨0,[],⟨rfl⟩,by omega,by omega,t,rfl,λ_ _ _ h=>by simp at h,λ_ _ h=>by simp at h,ho⟩) ?_
 intro n z h' M;rw[r]at M;cbv;obtain⟨i,a,f,hn,hi,y,B,S,L,x⟩:=M;refine ba (λp=>?_) (λp=>?_)
 .have U:=f.lt p;clear p;obtain⟨⟨w,g⟩,hx⟩:=cB xs i;have mC:b.isSome=true/\0<=z/\z<(len:Int):=⟨q.bp,f.ix U⟩;have jC:(some (⟨d,0,none⟩:Addr)).isSome=true/\0<=z/\z<(len:Int):=⟨rfl,f.ix U⟩;have ab:(((xs.take i).map (·.1)).zip a).length=i:=by simp;omega
  have dG:=f.eq;cbv;refine⟨mC,?_⟩;cbv;refine(q.mono (y.t _)).load hx f.eq (λcs C=>?_);have hv:bV.R h' cs (w,g):=C;obtain⟨X,n1,k1,Y,n2,k2,rfl,-⟩:=C;cbv;refine aZn hv (λh2 X n1 Y n2 c2 m F u O=>?_);cbv;refine⟨jC,?_⟩;cbv;refine(x.mono (F.t _)).store (by decide) (i:=i) (by omega) (by omega) (by omega) dG rfl O (λK D V P=>?_);rw[if_neg (by omega)]at P;have R:Le h K:=(y.trans F).aV (by simpa using H) D;have hp:I (len-(i+1)) (A .aT .add .i64 z 1) K:=by
   rw[r];refine⟨i+1,a++[m],f.succ (A:=A),rfl,by omega,R,by simp[B],S.push (λj Q c e=>?_),λj m' c=>?_,?_⟩
   .exact(L j Q c).2.1 (u Q e)
   .rw[jKO]at c;split at c
    .obtain⟨a1,a2,v⟩:=L j m' c;refine⟨a1,?_,v⟩;cases N:h' m' with
     |none=>exact absurd N a2
     |some o=>rw[D _ _ (F _ _ N) (by simpa using v)];simp
    rw[jKD]at c;split at c
    .cases c;have J:=u m' rfl;obtain⟨_,_,_,_,_,-,-,hq⟩:=O;rcases hq with⟨e,-⟩|⟨Gx,e,-,-,o⟩
     .cases e
     cases e;obtain⟨cc,T,-⟩:=o.out;have E:m'≠d:=λe=>by
      obtain⟨ag,Z,-⟩:=x.out;rw[e,Z]at J;cases J
     refine⟨y.none J,?_,E⟩;rw[D _ _ T (by simpa using E)];simp
    cases c
   have e2:(xs.take (i+1)).map (·.1)=(xs.take i).map (·.1)++[w]:=by rw[qM,hx];simp
   rw[e2,List.zip_append (by simp;omega)];exact P
  cbv;refine⟨len-(i+1),_,by omega,by constructor<;>cbv,hp⟩
 have lJ:=f.ge p;have iv:i=len:=by omega
 subst iv;rw[l,Bk,<-l]at x;have W:=hk h' d a y H B S (λj m c=>(L j m c).1) x;cbv;exact W
theorem bJD{v:Value}(q:fE h v d)
 (F:∀h' t w a n o f r p j s (g:List (Option Nat)),Le h h'->h t=none->h w=none->a=d.ao.length->cZ 61 bN h' t a d.ao->n=d.ai.length->g.length=n->PE g->(∀(i m:Nat),g[i]? =some (some m)->h m=none)->cZ 79 kj h' w n (d.ai.zip g)->Sl 253 bu h' (.slice o f r) d.holds->Sl 253 bu h' (.slice p j s) d.waits->
  k (.agg #[.slice (zsA t) a a,.slice (zsA w) n n,.slice o f r,.slice p j s]) h'):Ct 40 [v] h k:=by
 obtain⟨O,a,S,P,n,T,o,f,r,p,j,s,ws,rfl,u,x,M,N,y⟩:=q.out;have U:n=d.ai.length:=by rw[x.len,<-y,vi]
 refine cg fXe Tryz.func40 λA Z=>?_;cbv;refine(Ra u).mono (λv W hR=>?_);obtain⟨l,t,J,rfl,o1⟩:=hR;cbv;refine Zc (x.mono (l.t _)) (λX w g b R B D Q o2=>?_);rw[y]at o2;cbv;refine(Bc (M.mono ((l.trans b).t _))).mono (λv Y hR=>?_);obtain⟨c,I,H,rfl,K,-⟩:=hR;cbv;refine(Bc (N.mono (((l.trans b).trans c).t _))).mono (λv E hR=>?_);obtain⟨e,z,V,rfl,L,-⟩:=hR;have C:=F E t w a n I f H z j V g (((l.trans b).trans c).trans e) J (l.none R) u.len (o1.mono (((b.trans c).trans e).t _)) U B D (λi m G=>l.none (Q i m G)) (o2.mono ((c.trans e).t _)) (K.mono (e.t _)) L;cbv;exact C
theorem Vi{s:List eY}(h:g.length=s.length):(s.zip g).map (λx=>(x.1,true))=Wf s:=by unfold Wf;have e:(λx:eY×Option Nat=>(x.1,true))=(λw:eY=>(w,true)) ∘ Prod.fst:=rfl;rw[e,<-jKq];congr 1;rw[<-List.unzip_fst,List.unzip_zip h.symm]
theorem ZH{v:Value}(q:fE h v d)
 (T:∀h' c t w L f (g:List (Option Nat)),Le h h'->h c=none->h t=none->h w=none->c≠t->c≠w->f=d.ai.length->g.length=f->PE g->(∀(i m:Nat),g[i]? =some (some m)->h m=none)->cZ 79 kj h' w f (d.ai.zip g)->
  jV h' c t w L f d.ao (Wf d.ai) d.holds d.waits 0->k (.zP c) h'):Ct 38 [v] h k:=by
 obtain⟨Y,o,c1,Z,b,c2,r,G,u,s,H,y,rfl⟩:=q.form;refine cg fXf Tryz.func38 λA hA=>?_;cbv;refine bJD q (λD t w o b r G u s H y g F W X M z B J S Q I N O=>?_);have C:cZ 79 bV D w b (Wf d.ai):=by have:=cZ.map (s1:=kj) (s2:=bV) rfl (λx=>(x.1,true)) Nx I;rw[Vi (by omega)]at this;exact this
 cbv;intro n p j E;have l:Le D p:=by rw[E];exact Le.set j
 have U:n≠t:=λe=>by
  obtain⟨c,a,-⟩:=z.out;rw[<-e,j]at a;cases a
 have V:n≠w:=λe=>by
  obtain⟨c,a,-⟩:=C.out;rw[<-e,j]at a;cases a
 have P:=(congrFun E n).trans ae;have R:jV p n t w o b d.ao (Wf d.ai) d.holds d.waits 0:=
  ⟨o,b,r,G,u,s,H,y,0,P,.inl ⟨rfl,rfl⟩,M,z.mono (l.t _),by simp[Wf,B],C.mono (l.t _),N.mono (l.t _),O.mono (l.t _)⟩
 have K:=T p n t w o b g (F.trans l) (F.none j) W X U V B J S Q (I.mono (l.t _)) R;cbv;exact K
def mN(nm:ByteArray):Bool:=decide (eE ⟨nm,[⟨nA,2,false⟩],0,false⟩≠0)
def lh(d:DB)(s:Int)(nm:ByteArray):DB×Int:=
 if iQ (bW d.ai s)=true then if mN nm=true then(d,12)else match d.ai[dC (bW d.ai s)]? with
  |some w=>if decide ((w.marks.length:Int)>=10)=true then(d,4)else(⟨d.ao,d.ai.set (dC (bW d.ai s)) ⟨w.s,w.log,w.marks++[⟨nm,(w.log.length:Int)⟩]⟩,d.holds,d.waits⟩,0)
  |none=>(d,2)
 else(d,2)
theorem aXO{v:Value}(q:fE h v d)(s:Int)(nm:ByteArray){D:DB×Int}(hD:lh d s nm=D)
 (hk:Vh h D.1 D.2 k):Ct 159 [v,.int .i64 s,.string nm] h k:=by
 have q':=q;obtain⟨J,P,r,G,C,H,K,R,N,M,S,O,ws,rfl,-,qW,-,-,aK⟩:=q'.out;have uC:C=d.ai.length:=by rw[qW.len,<-aK,vi]
 refine cg eZQ Tryz.func159 λA hA=>?_;cbv;refine ZH q (λh1 c tb E ct cw gs l1 hc ni uR pI oV JK Bw DS QL om cs=>?_);have bD:gs.length=d.ai.length:=by rw[Bw,JK]
 have ao:(d.ai.zip gs).length=d.ai.length:=by rw[kXV];omega
 obtain⟨Z,hZ⟩:∃Z,Z=d.ai.zip gs:=⟨_,rfl⟩;rw[<-hZ]at ao om;have aM:∀(j:Nat) (w:eY),d.ai[j]? =some w->∃g,Z[j]? =some (w,g)/\gs[j]? =some g:=λj w B=>by
  have qQ:=(ff.1 B).1;obtain⟨g,hg⟩:=cB gs j;refine⟨g,?_,hg⟩;rw[hZ,kXx];exact⟨B,hg⟩
 have bX:Z.map (λx=>(x.1,true))=Wf d.ai:=by rw[hZ];exact Vi bD
 have aW:∀(j:Nat) (x:eY×Option Nat),Z[j]? =some x->gs[j]? =some x.2:=λj x B=>by
  rw[hZ,kXx]at B;exact B.2
 cbv;refine qV cs s (λh2 z t l2 Y ht=>?_);rw[pj]at ht Y;have fa:=l1.trans l2;have q2:=q.mono fa;cases t with
 |false=>
  have Q:D=(d,2):=by rw[<-hD];unfold lh;rw[<-ht];rfl
  subst Q;cbv;rw[show A .not false=true by rw[hA.not];rfl];cbv;refine dV q2 (λh3 J P r G C H K R N M S O l3 V=>?_);have F:=hk h3 J P r G C H K R N M S O (fa.trans l3) V;cbv;exact F
 |true=>
  have aU:dC (bW d.ai s)<d.ai.length:=by have:=jk ht.symm;simpa[bW]using this
  obtain⟨w,hw⟩:=aJ aU;have Q:(if mN nm=true then((d,12):DB×Int)else if decide ((w.marks.length:Int)>=10)=true then(d,4)else(⟨d.ao,d.ai.set (dC (bW d.ai s)) ⟨w.s,w.log,w.marks++[⟨nm,(w.log.length:Int)⟩]⟩,d.holds,d.waits⟩,0))=D:=by rw[<-hD];unfold lh;rw[<-ht,hw];rfl
  clear hD;obtain⟨i,hi⟩:∃i,i=dC (bW d.ai s):=⟨_,rfl⟩;rw[<-hi]at Q hw Y;clear hi aU;have iv:=(ff.1 hw).1;cbv;rw[show A .not true=false by rw[hA.not];rfl];cbv;intro aI h3 bB l;have l3:Le h2 h3:=by rw[l];exact Le.set bB
  have g3:=(congrFun l aI).trans ae;have qc:Sl 202 bH h3 (.slice (zsA aI) 1 1) [⟨nA,2,false⟩]:=bf (s:=bH) g3 (x:=⟨nA,2,false⟩) rfl;cbv;refine(DY (nm:=nm) (key:=0) (only:=false) qc).mono (λv h4 hR=>?_);obtain⟨l4,e,rfl,he⟩:=hR;have rE:=(fa.trans l3).trans l4;generalize U:A .aN .neq e 0=u;have fu:=U;rw[az A]at U;have bd:mN nm=u:=by unfold mN;rw[<-he];exact U
  rw[bd]at Q;cbv;rw[fu];cases u with
  |true=>have Q:((d,12):DB×Int)=D:=Q;subst Q;cbv;refine dV (q.mono rE) (λb J P r G C H K R N M S O n V=>?_);have F:=hk b J P r G C H K R N M S O (rE.trans n) V;cbv;exact F
  |false=>
   obtain⟨⟨w0,wf⟩,LJ⟩:=aJ (xs:=ws) (i:=i) (by have:=qW.len;omega);have bo:w0=w:=by
    have:(ws.map (·.1))[i]? =some w0:=by rw[kS,LJ];rfl
    rw[aK,hw]at this;cases this;rfl
   subst bo;obtain⟨aq,wl,f⟩:=w0;have Q:(if decide ((f.length:Int)>=10)=true then((d,4):DB×Int)else(⟨d.ao,d.ai.set i ⟨aq,wl,f++[⟨nm,(wl.length:Int)⟩]⟩,d.holds,d.waits⟩,0))=D:=Q;have GU:G.isSome=true/\0<=z/\z<(C:Int):=⟨qW.bp,Y.ix (by omega)⟩;cbv;refine⟨GU,?_⟩;cbv;refine Fj (qW.mono (rE.t _)) LJ Y.eq (λy1 y2 y3 qm _=>?_);have uB:y2=f.length:=qm.len;generalize U:A .aN .geq (A .nat y2) 10=u;have fu:=U;rw[cH A,hA.nat,uB,show Int.ofNat f.length=(f.length:Int)from rfl]at U;rw[U]at Q;have bl:u=false->f.length<10:=λe=>by
    rw[e]at U;have:=kz U;omega
   cbv;rw[fu];cases u with
   |true=>have Q:((d,4):DB×Int)=D:=Q;subst Q;cbv;refine dV (q.mono rE) (λb J P r G C H K R N M S O n V=>?_);have F:=hk b J P r G C H K R N M S O (rE.trans n) V;cbv;exact F
   |false=>
    have Q:((⟨d.ao,d.ai.set i ⟨aq,wl,f++[⟨nm,(wl.length:Int)⟩]⟩,d.holds,d.waits⟩,0):DB×Int)=D:=Q;have iw:f.length<10:=bl rfl;have aE:=(l2.trans l3).trans l4;have GY:=cs.mono aE;have aH:=om.mono (aE.t _);refine GY.elim (λm1 m2 x3 m3 k3 x4 m4 k4 o g0 ho f1 f2 f3 f4 f6 f7 _=>?_);have zN:m2=d.ai.length:=by rw[f3];simp[Wf]
    have ey:(some (⟨E,0,none⟩:Addr)).isSome=true/\0<=z/\z<(m2:Int):=⟨rfl,Y.ix (by omega)⟩;obtain⟨gm,ax,nq⟩:=aM i _ hw;have aF:Sl 79 kj h4 (.slice (zsA E) m2 cw) Z:=aH.sl (zN.trans ao.symm);cbv;rw[av A];rw[av A];refine cr g0 ?_;cbv;refine⟨ey,?_⟩;cbv;refine aF.tQ ax Y.eq (o:=2) (m:=1) (by simp[kj]) (λch Tt ag=>?_);obtain⟨lb,ln,mb,mn,mc,rfl,aB,aA⟩:=Tt;have aB:Sl 161 bz h4 (.slice lb ln ln) wl:=aB;have cd:ln=wl.length:=aB.len;cbv;refine aF.tQ ax Y.eq (o:=1) (m:=1) (by simp[kj]) (λxG bj _=>?_);obtain⟨cb,T,cq,cn,cp,rfl,an,-⟩:=bj;have an:Sl 161 bz h4 (.slice cb T T) wl:=an;have bS:A .nat T=(wl.length:Int):=by rw[hA.nat];have:=an.len;rw[<-this];rfl
    cbv;intro Kb b vW e5;have n:Le h4 b:=by rw[e5];exact Le.set vW
    have g5:=(congrFun e5 Kb).trans ae;have qx:=bf (s:=df) g5 (x:=⟨nm,A .nat T⟩) rfl;rw[bS]at qx;cbv;refine ag _ _ n ?_;cbv;refine⟨⟨_,rfl,rfl⟩,?_⟩;cbv;have aw:=aH.mono (n.t _);have yH:=GY.mono n;have Xy:=rE.trans n;obtain⟨W,Kf⟩:∃m:mD,m=⟨nm,(wl.length:Int)⟩:=⟨_,rfl⟩;rw[<-Kf]at qx Q;have ab:∀(a:ad) (b6:Option Addr) (c6:Nat),cO [61,202,46,45,79,161,253,148] b a->Le h a->a E=b E->a c=b c->Sl 183 df a (.slice b6 (mn+1) c6) (f++[W])->
     (∀(j:Nat) (x:eY×Option Nat) (cs:List Value),j≠i->Z[j]? =some x->kj.R b cs x->bV.R a cs (x.1,true))->
     ∀k',(∀I,Le h I->I c=b c->fE I (.agg #[.slice (zsA tb) m1 ct,.slice (zsA E) m2 cw,.slice x3 m3 k3,.slice x4 m4 k4]) D.1->k' I)->GG a (A .off (A .je (zsA E) z 3) 2) [.slice b6 (mn+1) c6] k':=λa b6 c6 aD l6 L US bk fT k' HV=>by
     refine cZ.dQb (s1:=kj) (s2:=bV) (A:=A) rfl (λx=>(x.1,true)) aw L ax Y.eq rfl (off:=2) (by simp[kj]) (x':=(⟨aq,wl,f++[W]⟩,true)) (λI cs k7 t7 hR=>?_) (λI cs j y k7 t7 B hy hR=>?_) (λI k7 t7 o7=>?_)
     .obtain⟨a1,a2,a3,a4,a5,rfl,a6,-⟩:=hR;exact⟨_,_,_,_,_,_,rfl,(a6.mono (aD.sub)).mono (t7 _ (by decide)),bk.mono (t7 _ (by decide)),λ_=>rfl⟩
     .obtain⟨a1,a2,a3,a4,a5,a6,rfl,a7,a8,a9⟩:=fT j y cs B hy hR;exact⟨_,_,_,_,_,_,rfl,a7.mono (t7 _ (by decide)),a8.mono (t7 _ (by decide)),a9⟩
     refine HV I (l6.aV (by simpa using uR) k7) ?_ ?_
     .rw[<-US];cases hb:a c with
      |none=>rw[US,n _ _ g0]at hb;cases hb
      |some o=>exact k7 _ _ hb (by simpa using oV)
     rw[<-Q];have ar:cO [61,202,46,45,253] b I:=(aD.sub).trans (t7 _ (by decide));refine⟨_,_,_,_,_,_,_,_,_,_,_,_,_,rfl,(((f2.mono (n.t _)).mono (ar.sub)).sl f1),o7.sl ?_,(f6.mono (n.t _)).mono (ar.sub),(f7.mono (n.t _)).mono (ar.sub),?_⟩
     .rw[nM,vi];exact zN.trans ao.symm
     rw[bX,jKI,zB]
    have X:=n _ _ g0;clear hZ;have aG:∃o,b E=some o:=by obtain⟨cc,GA,-⟩:=aw.out;exact⟨_,GA⟩
    have DQ:mn=f.length:=by
     rcases aA with⟨-,e1,-,l⟩|⟨p,-,-,l,-⟩
     .have l:f=[]:=l;rw[e1,l];rfl
     exact l
    have bc:Sl 183 df b (.slice mb mn mc) f:=by
     rcases aA with⟨-,e1,e2,l⟩|⟨p,-,e2,l,o⟩
     .have l:f=[]:=l;rw[e1,e2,l];exact Sl.nil
     rw[e2];exact(o.mono (n.t _)).sl l
    by_cases wq:mn+1<=mc
    .rcases aA with⟨-,e1,e2,-⟩|⟨p,e1,e2,l,o⟩
     .omega
     have e1:gm=some p:=e1;subst e1 e2;have o5:cZ 183 df b p mc f:=o.mono (n.t _);have bq:p≠E:=λe=>by
      obtain⟨r,q1,-⟩:=o5.out;obtain⟨H,q2,-⟩:=aw.out;rw[e,q2]at q1;cases q1
     have bx:p≠c:=λe=>by
      obtain⟨r,q1,-⟩:=o5.out;rw[e,X]at q1;cases q1
     have br:h p=none:=QL i p nq;have bM:∀(j:Nat) (x:eY×Option Nat) (m':Nat),j≠i->Z[j]? =some x->x.2=some m'->m'≠p:=λj x m' B hx hm e=>by
      have h1:=aW j x hx;rw[hm,e]at h1;exact B (DS j i p h1 nq)
     clear DS QL aM aW;refine o5.Bf (by decide) (i:=mn) (by omega) qx wq (by omega) rfl (λa m hm k6 t6 o6=>?_);rw[DQ,Bk,RR (by omega),vv]at o6;have zK:Le h a:=Xy.aV (by simpa using br) k6;have L:a E=b E:=by obtain⟨o,ho⟩:=aG;rw[ho];exact k6 _ _ ho (by simpa using bq.symm)
     have US:a c=b c:=by rw[X];exact k6 _ _ X (by simpa using bx.symm)
     have fT:∀(j:Nat) (x:eY×Option Nat) (cs:List Value),j≠i->Z[j]? =some x->kj.R b cs x->bV.R a cs (x.1,true):=λj x cs B hx hR=>by
      refine Nx a cs x ?_;obtain⟨a1,a2,a3,a4,a5,rfl,a6,a7⟩:=hR;refine⟨a1,a2,a3,a4,a5,rfl,a6.mono (t6 _ (by decide)),?_⟩;rcases a7 with a7| ⟨m',f1,f2,f3,f4⟩
      .exact .inl a7
      exact .inr ⟨m',f1,f2,f3,f4.kp k6 (by simpa using bM j x m' B hx f1) (t6 _ (by decide))⟩
     have oC:Sl 183 df a (.slice (zsA p) (mn+1) mc) (f++[W]):=o6.sl (by simp[DQ]);subst hm;cbv;refine ab a _ _ (t6 _ (by decide)) zK L US oC fT _ (λI l7 aC FJ=>?_);have al:=aC.trans X;cbv;rw[av A];refine cr al ?_;cbv;refine dV FJ (λh8 J P r G C H K R N M S O l8 V=>?_);have F:=hk h8 J P r G C H K R N M S O (l7.trans l8) V;rw[<-Q]at F;cbv;exact F
    refine jq bc qx (by omega) rfl (by decide) (by omega) (λp c6 a eC l6 hc o6=>?_);have L:a E=b E:=by obtain⟨o,ho⟩:=aG;rw[ho];exact l6 _ _ ho
    have US:a c=b c:=by rw[X];exact l6 _ _ X
    have fT:∀(j:Nat) (x:eY×Option Nat) (cs:List Value),j≠i->Z[j]? =some x->kj.R b cs x->bV.R a cs (x.1,true):=λj x cs B hx hR=>Nx a cs x (kj.mono (l6.t _) hR);have oC:Sl 183 df a (.slice (zsA p) (mn+1) c6) (f++[W]):=o6.sl (by simp[DQ]);cbv;refine ab a _ _ (l6.t _) (Xy.trans l6) L US oC fT _ (λI l7 aC FJ=>?_);have al:=aC.trans X;cbv;rw[av A];refine cr al ?_;cbv;refine dV FJ (λh8 J P r G C H K R N M S O l8 V=>?_);have F:=hk h8 J P r G C H K R N M S O (l7.trans l8) V;rw[<-Q]at F;cbv;exact F
end Go.S
