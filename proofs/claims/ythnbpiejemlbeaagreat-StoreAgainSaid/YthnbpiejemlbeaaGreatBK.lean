import Derived.Test.YthnbpiejemlbeaaGreatBJ
import Derived.Test.YthnbpiejemlbeaaGreatBE
set_option linter.all false
set_option maxRecDepth 100000
set_option maxHeartbeats 1000000
namespace Go.S
open Go.Sx Go.Proofs
open Go.MapKept
variable {only:Bool}{nm:ByteArray}{d:DB}{D:DB×Int}{key:Int}{cols:List jR}{i n:Nat}{k:Value->ad->Prop}{h h0:ad}{c:cR}
theorem YZ{r:Row}(h0:0<=key)(h:key<(r.length:Int)):∃v,r[key.toNat]? =some v/\keyOf key r=v/\v∈r:=by
 grind [ay,keyOf]
structure El(cols:List jR)(key:Int)(R:List Row):Prop where
 k0:0<=key
 k1:key<(cols.length:Int)
 fit:∀r∈R,eF cols r=0
 gi:R.Pairwise (λa b=>dA (keyOf key a) (keyOf key b)<0)
 le:R.length<=200
 cl:cols.length<=6
def Dq(t:bS):Prop:=El t.S.cols t.S.key t.rows
def kY:Row->Row->Bool
 | [],[]=>true
 |a::r,b::s=>ij a b&&kY r s
 |_,_=>false
theorem Us(a b:jq):ij a b=true↔a=b:=by
 unfold ij;simp only[kZj,kJP];constructor
 .rintro⟨h,e,f⟩;obtain⟨k,n,v⟩:=a;obtain⟨c,d,bs⟩:=b
  grind
 grind
theorem xR:∀ {a b:Row},a.length≠b.length->kY a b=false
 | [],[],h=>absurd rfl h
 |a::r,b::s,h=>by
  have:r.length≠s.length:=λe=>h (by simp[e]);unfold kY;rw[xR this,Bool.and_false]
 | [],b::s,_=>rfl
 |a::r,[],_=>rfl
theorem FF{a b:Row}{x y:jq}(hx:a[i]? =some x)(d:b[i]? =some y):kY (a.drop i) (b.drop i)=(ij x y&&kY (a.drop (i+1)) (b.drop (i+1))):=by have h:=HH.1 hx;have c:=HH.1 d;rw[kQP h.1,kQP c.1,h.2,c.2];rfl
def HR(t:bS)(c:cR):bS×Bool:=
 if c.op=1 then((bL t c.row).1,decide ((bL t c.row).2=0))
 else if t.S.only=true then(t,false)
 else if t.S.key>=(c.row.length:Int)then(t,false)
 else if(bE t (keyOf t.S.key c.row)).2.2=0/\kY (bE t (keyOf t.S.key c.row)).2.1 c.row=true then((bE t (keyOf t.S.key c.row)).1,true)else(t,false)
theorem aQF(t:bS)(c:cR):(HR t c).1.S=t.S:=by
 grind [HR,lY,lE]
theorem KF{t:bS}(h:c.op=1):HR t c=((bL t c.row).1,decide ((bL t c.row).2=0)):=by unfold HR;rw[if_pos h]
theorem aQE{t:bS}(h:c.op≠1)(a:t.S.only=true):HR t c=(t,false):=by unfold HR;grind
theorem aQD{t:bS}(h:c.op≠1)(a:t.S.only=false)(b:¬t.S.key>=(c.row.length:Int)){D:bS×Row×Int}(d:bE t (keyOf t.S.key c.row)=D):HR t c=if D.2.2=0/\kY D.2.1 c.row=true then(D.1,true)else(t,false):=by
 grind [HR]
structure VI(d:DB):Prop where
 gi:d.ao.Pairwise (λa b=>dy a.S.name b.S.name<0)
 le:d.ao.length<=8
 ao:∀t∈d.ao,Dq t/\t.S.name.size<=12
 ai:d.ai=[]
 holds:d.holds=[]
 waits:d.waits=[]
theorem VI.small(q:VI d):Small d where
 ao:=by have:=q.le;omega
 ai:=by rw[q.ai];grind
 rows:=λt ht=>by have:=(q.ao t ht).1.le;omega
 holds:=by rw[q.holds];grind
 waits:=by rw[q.waits];grind
theorem hXG:VI dz:=⟨List.Pairwise.nil,dl,λt h=>(by cases h),rfl,rfl,rfl⟩
set_option maxHeartbeats 8000000
theorem aXp{A:Ar}[h:bM A]{va vb wa wb:Int}{vc wc:ByteArray}:A .not (A .and (A .aQ .eql va wa) (A .and (A .aQ .eql vb wb) (A .and (A .lu .eql vc wc) true)))= !(ij ⟨va,vb,vc⟩ ⟨wa,wb,wc⟩):=by rw[au A,au A,eV A,h.not,h.and];show(!(decide (va=wa)&&(decide (vb=wb)&&(decide (vc=wc)&&true))))=_;rw[kJY];rfl
theorem bJm{xs ys:Row}{f j:Option Addr}{o e p:Nat}(q:Sl 45 bG h (.slice f n o) xs)(l:Sl 45 bG h (.slice j e p) ys)(b:k (.bool (kY xs ys)) h):
 Ct 55 [.slice f n o,.slice j e p] h k:=by
 obtain⟨A,s⟩:=Ar.ex;have x:=q.len;have N:=l.len;have E:=q.bound.1;have u:A .aQ .neq (A .nat n) (A .nat e)=decide (xs.length≠ys.length):=by rw[x,N,aJ A,s.nat];grind
 obtain⟨D,c⟩:∃D,D=kY xs ys:=⟨_,rfl⟩;rw[<-c]at b;refine kh fZA A Tryz.func55 ?_;cbv;rw[u];by_cases V:xs.length≠ys.length
 .rw[xR V]at c;rw[c]at b;rw[kS V];cbv;exact b
 rw[kQW V];have V:=kXM.1 V;cbv;refine ba.gz (G:=Int) (λg=>[(13,.v (.zI g))]) (λ_=>[]) (λm g h'=>h'=h/\∃i,bg g i/\m=n-i/\i<=n/\D=kY (xs.drop i) (ys.drop i)) n 0 ⟨rfl,0,⟨rfl⟩,ip,ip,c⟩ ?_
 intro m g h' v;cbv;obtain⟨rfl,i,z,C,B,y⟩:=v;refine bm (λd=>?_) (λd=>?_)
 .have Z:=z.lt d;clear d;obtain⟨⟨va,vb,vc⟩,hx⟩:=cK xs i;obtain⟨⟨wa,wb,wc⟩,r⟩:=cK ys i;rw[FF hx r]at y;have Y:f.isSome=true/\0<=g/\g<(n:Int):=⟨q.bu,z.ix Z⟩;have F:j.isSome=true/\0<=g/\g<(e:Int):=⟨l.bu,z.ix ip⟩;have I:=z.eq;have O:=z.succ (A:=A);have w:=aXp (A:=A) (va:=va) (vb:=vb) (wa:=wa) (wb:=wb) (vc:=vc) (wc:=wc);generalize ij ⟨va,vb,vc⟩ ⟨wa,wb,wc⟩=t at *;clear c u;cbv;refine⟨Y,?_⟩;cbv;refine q.load hx I (λcs a=>?_);have a:cs=[.zI va,.zI vb,.string vc]:=a;subst a;cbv;refine⟨F,?_⟩;cbv;refine l.load r I (λcs a=>?_);have a:cs=[.zI wa,.zI wb,.string wc]:=a;subst a;cbv;rw[w];cases t with
  |true=>
   have y:D=kY (xs.drop (i+1)) (ys.drop (i+1)):=y;cbv;refine zqn (n-(i+1)) _ ip ⟨rfl,i+1,O,rfl,ip,y⟩
  |false=>have y:D=false:=y;rw[y]at b;cbv;exact b
 have H:=z.ge d;rw[kXc ip,kXc ip]at y;have y:D=true:=y;rw[y]at b;cbv;exact b
structure Ag(h0 h:ad)(v:Value)(d:DB):Prop where
 out:∃b1 n1 c1 b2 n2 c2 b3 n3 c3 b4 n4 c4,v=.agg #[.slice b1 n1 c1,.slice b2 n2 c2,.slice b3 n3 c3,.slice b4 n4 c4]/\bA 61 bT h0 h (.slice b1 n1 c1) d.ao/\fD h v d
theorem Ag.form{v:Value}(q:Ag h0 h v d):∃b n f a k g c l i e m j,v=.agg #[.slice b n f,.slice a k g,.slice c l i,.slice e m j]:=by
 obtain⟨b,n,f,a,k,g,c,l,i,e,m,j,rfl,-⟩:=q.out
 grind
theorem Ag.base{a:ad}{v:Value}(q:Ag a h v d)(l:Le h0 a):Ag h0 h v d:=by obtain⟨b,n,i,c,o,j,f,p,k,g,r,m,e,s,t⟩:=q.out;exact⟨b,n,i,c,o,j,f,p,k,g,r,m,e,s.base l,t⟩
theorem Ag.buf{b a f g:Option Addr}{c l m j o k:Nat}(q:Ag h0 h (.agg #[.slice b n c,.slice a l i,.slice f m j,.slice g o k]) d):bA 61 bT h0 h (.slice b n c) d.ao:=by
 obtain⟨_,_,_,_,_,_,_,_,_,_,_,_,e,p,-⟩:=q.out
 grind
theorem Ag.db{v:Value}(q:Ag h0 h v d):fD h v d:=by obtain⟨_,_,_,_,_,_,_,_,_,_,_,_,e,-,a⟩:=q.out;exact a
theorem CA{v:Value}(q:fD h v d):Ct 40 [v] h (λj h'=>Le h h'/\Ag h h' j d):=by refine(YG q).mono (λv r hR=>?_);obtain⟨l,x,wb,s,t,k,u,o,m,w,p,W,n,C,rfl,g,a,b,c,e,f,i⟩:=hR;exact⟨l,⟨_,_,_,_,_,_,_,_,_,_,_,_,rfl,a.buf n g,⟨_,_,_,_,_,_,_,_,_,_,_,_,W,rfl,a.sl g,c.sl b,e,f,by rw[i,kXS];simp[Function.comp_def]⟩⟩⟩
theorem JX{v:Value}(q:fD h v d)
 (r:∀h' b n f a m g c o i e p j,Le h h'->Ag h h' (.agg #[.slice b n f,.slice a m g,.slice c o i,.slice e p j]) d->k (.agg #[.slice b n f,.slice a m g,.slice c o i,.slice e p j]) h'):Ct 40 [v] h k:=
 (CA q).mono (λv h' hR=>by
  obtain⟨l,hd⟩:=hR;obtain⟨b,n,f,a,m,g,c,o,i,e,p,j,s⟩:=hd.form
  grind)
abbrev fQx(h:ad)(d':DB)(e:Int)(k:Value->ad->Prop):Prop:=
 ∀h' b1 n1 c1 b2 n2 c2 b3 n3 c3 b4 n4 c4,Le h h'->Ag h h' (.agg #[.slice b1 n1 c1,.slice b2 n2 c2,.slice b3 n3 c3,.slice b4 n4 c4]) d'->k (.tuple #[.agg #[.slice b1 n1 c1,.slice b2 n2 c2,.slice b3 n3 c3,.slice b4 n4 c4],.zI e]) h'
theorem VA{v:Value}(q:fD h v d){sb:Option Addr}{sn sc:Nat}(qs:Sl 202 bJ h (.slice sb sn sc) cols)(ao:d.ao.length<=2^37)(ar:d.ai.length<=2^37):
 Ct 91 [v,.agg #[.string nm,.slice sb sn sc,.zI key,.bool only]] h (λv' h'=>∃v1 e z i is,v'=.tuple #[v1,.zI e]/\Le h h'/\Ag h h' v1 (fJ d ⟨nm,cols,key,only⟩ i is).1/\e=(fJ d ⟨nm,cols,key,only⟩ i is).2/\bg z i/\Rb (d.ao.map λx=>dy x.S.name nm) z is):=by
 have q0:=q;obtain⟨G,D,L,I,F,M,J,n3,N,K,n4,O,ws,rfl,q1,q2,-,-,qw⟩:=q0.out;refine cB fZx Tryz.func91 λA hA=>?_;cbv;refine(EM q).mono (λv h1 hR=>?_);obtain⟨l1,c,tb,wb,ct,cw,W,rfl,s,nO,vC,qj,px,hW,ND,KD,cs⟩:=hR;cbv;refine(EK (key:=key) (only:=only) (nm:=nm) (qs.mono (l1.t _))).mono (λv h2 hR=>?_);obtain⟨l2,r,rfl,yI⟩:=hR;cbv;refine(xj (cs.mono l2) qj px).mono (λv h3 hR=>?_);obtain⟨rfl,w,H⟩:=hR;have ME:Le h h3:=(l1.trans l2).bf (iu s) w;cbv;refine(rQ H nm).mono (λv h4 hR=>?_);obtain⟨p,z,t,rfl,hb⟩:=hR;rw[if_pos rfl]at H;obtain⟨i,hz,hi,ht⟩:=hb.out;have k:∀(E:Int) (v:Value) {X:ad},Le h X->E≠0->eY d ⟨nm,cols,key,only⟩ t=E->Ag h X v d->∃v1 e1 z i is,Value.tuple #[v,.zI E]=.tuple #[v1,.zI e1]/\Le h X/\Ag h X v1 (fJ d ⟨nm,cols,key,only⟩ i is).1/\e1=(fJ d ⟨nm,cols,key,only⟩ i is).2/\bg z i/\Rb (d.ao.map λx=>dy x.S.name nm) z is:=λE v X l n s hd=>by
  have:fJ d ⟨nm,cols,key,only⟩ i t=(d,E):=by unfold fJ;grind
  grind
 cases t with
 |true=>
  cbv;refine(xj (H.mono p) qj px).mono (λv S hR=>?_);obtain⟨rfl,Y,f⟩:=hR;have P:Le h S:=(ME.trans p).bf (iu s) Y;obtain⟨E,n⟩:∃E,E=(if r=0 then 7 else r):=⟨_,rfl⟩;rw[<-n]at f;have C:eY d ⟨nm,cols,key,only⟩ true=E:=by
   grind [eY]
  cbv;obtain⟨m1,m2,x3,m3,w,x4,m4,k4,o,g,go,R,g3,g4,g5,g6,g7⟩:=f.out;generalize b:A .aQ .neq E 0=u;rw[aJ A]at b;rw[av A];refine cy g ?_;cbv;rw[aJ A,b];cases u with
  |true=>cbv;rw[av A];refine cy g ?_;cbv;refine(CA (q.mono P)).mono (λv T hR=>?_);obtain⟨a,hd⟩:=hR;have hd:=hd.base P;have m:=hd;obtain⟨G,D,L,I,F,M,J,n3,N,K,n4,O,rfl⟩:=hd.form;cbv;refine cy (a _ _ g) ?_;cbv;refine zqr ?_;cbv;refine cy (a _ _ g) ?_;cbv;refine zqr ?_;cbv;exact k _ _ (P.trans a) (kZr b) C m
  |false=>exact absurd (kZX b) gg
 |false=>
  generalize eg:A .aQ .geq (A .nat D) 8=ug;generalize ew:A .aQ .gtr (A .nat F) 0=uw;have hg:ug=decide (d.ao.length>=8):=by rw[<-eg,cF A,hA.nat,q1.len,decide_eq_decide];grind
  have hw:uw=decide (d.ai.length>0):=by rw[<-ew,bF A,hA.nat,q2.len,decide_eq_decide];grind
  cbv;rw[eg];cases ug with
  |true=>
   cbv;refine(xj (H.mono p) qj px).mono (λv S hR=>?_);obtain⟨rfl,Y,f⟩:=hR;have P:Le h S:=(ME.trans p).bf (iu s) Y;obtain⟨E,n⟩:∃E,E=(if r=0 then 4 else r):=⟨_,rfl⟩;rw[<-n]at f;have C:eY d ⟨nm,cols,key,only⟩ false=E:=by
    grind [eY]
   cbv;obtain⟨m1,m2,x3,m3,w,x4,m4,k4,o,g,go,R,g3,g4,g5,g6,g7⟩:=f.out;generalize b:A .aQ .neq E 0=u;rw[aJ A]at b;rw[av A];refine cy g ?_;cbv;rw[aJ A,b];cases u with
   |true=>cbv;rw[av A];refine cy g ?_;cbv;refine(CA (q.mono P)).mono (λv T hR=>?_);obtain⟨a,hd⟩:=hR;have hd:=hd.base P;have m:=hd;obtain⟨G,D,L,I,F,M,J,n3,N,K,n4,O,rfl⟩:=hd.form;cbv;refine cy (a _ _ g) ?_;cbv;refine zqr ?_;cbv;refine cy (a _ _ g) ?_;cbv;refine zqr ?_;cbv;exact k _ _ (P.trans a) (kZr b) C m
   |false=>exact absurd (kZX b) gg
  |false=>
   cbv;rw[ew];cases uw with
   |true=>
    cbv;refine(xj (H.mono p) qj px).mono (λv S hR=>?_);obtain⟨rfl,Y,f⟩:=hR;have P:Le h S:=(ME.trans p).bf (iu s) Y;obtain⟨E,n⟩:∃E,E=(if r=0 then 18 else r):=⟨_,rfl⟩;rw[<-n]at f;have C:eY d ⟨nm,cols,key,only⟩ false=E:=by
     grind [eY]
    cbv;obtain⟨m1,m2,x3,m3,w,x4,m4,k4,o,g,go,R,g3,g4,g5,g6,g7⟩:=f.out;generalize b:A .aQ .neq E 0=u;rw[aJ A]at b;rw[av A];refine cy g ?_;cbv;rw[aJ A,b];cases u with
    |true=>cbv;rw[av A];refine cy g ?_;cbv;refine(CA (q.mono P)).mono (λv T hR=>?_);obtain⟨a,hd⟩:=hR;have hd:=hd.base P;have m:=hd;obtain⟨G,D,L,I,F,M,J,n3,N,K,n4,O,rfl⟩:=hd.form;cbv;refine cy (a _ _ g) ?_;cbv;refine zqr ?_;cbv;refine cy (a _ _ g) ?_;cbv;refine zqr ?_;cbv;exact k _ _ (P.trans a) (kZr b) C m
    |false=>exact absurd (kZX b) gg
   |false=>
    have f:=H.mono p;have P:Le h h4:=ME.trans p;obtain⟨E,n⟩:∃E,E=r:=⟨_,rfl⟩;rw[<-n]at f;have C:eY d ⟨nm,cols,key,only⟩ false=E:=by
     grind [eY]
    cbv;obtain⟨m1,m2,x3,m3,w,x4,m4,k4,o,g,go,R,g3,g4,g5,g6,g7⟩:=f.out;generalize b:A .aQ .neq E 0=u;rw[aJ A]at b;rw[av A];refine cy g ?_;cbv;rw[aJ A,b];cases u with
    |true=>cbv;rw[av A];refine cy g ?_;cbv;refine(CA (q.mono P)).mono (λv T hR=>?_);obtain⟨a,hd⟩:=hR;have hd:=hd.base P;have m:=hd;obtain⟨G,D,L,I,F,M,J,n3,N,K,n4,O,rfl⟩:=hd.form;cbv;refine cy (a _ _ g) ?_;cbv;refine zqr ?_;cbv;refine cy (a _ _ g) ?_;cbv;refine zqr ?_;cbv;exact k _ _ (P.trans a) (kZr b) C m
    |false=>
     have GF:E=0:=gg
     cbv;rw[av A];rw[av A];refine cy g ?_;cbv;have sT:bT.R h4 [.string nm,.slice sb sn sc,.zI key,.bool only,.zN] ⟨⟨nm,cols,key,only⟩,[]⟩:=⟨_,_,_,_,_,_,rfl,qs.mono (P.t _),Sl.nil⟩;refine(YF sT).mono (λv T hR=>?_);obtain⟨a,d0,d1,d2,d3,d4,rfl,rT⟩:=hR;obtain⟨w1,w2,w3,w4,w5,w6,he,ak,ag⟩:=rT;cases he;have V:=a _ _ g;cbv;refine cy V ?_;cbv;refine zqr ?_;cbv;intro nb h7 eM e7;have B:Le T h7:=zqs e7 eM
     have gx:=zqt e7;have sx:Sl 61 bT h7 (.slice (zsA nb) 1 1) [(⟨⟨nm,cols,key,only⟩,[]⟩:bS)]:=by
      refine Sl.fresh (xs:=[(⟨⟨nm,cols,key,only⟩,[]⟩:bS)]) gx ⟨by simp[bT],λj y hj=>?_⟩ io io;have Gw:j=0:=by
       grind
      subst Gw;simp at hj;subst hj;exact⟨_,_,_,_,_,_,rfl,ak.mono (B.t _),ag.mono (B.t _)⟩
     have Q:=B _ _ V;have em:m1=ct:=by rw[R,ND]
     subst em;have ic:i<=m1:=by
      grind [EL,dy]
     cbv;refine cy Q ?_;cbv;refine zqr ?_;cbv;refine(ML ((g3.sl R).mono ((a.trans B).t _)) sx hz ic ip).mono (λv h8 hR=>?_);obtain⟨l8,ab,an,m5,rfl,aq,KC,ot⟩:=hR;have U:=l8 _ _ Q;cbv;rw[av A];rw[av A];refine jE U io (λh9 e9=>?_);have al:=zqt e9;have k9:Kp [c] h8 h9:=by rw[e9];exact Kp.set io
     have t9:∀tys,148∉tys->cX tys h8 h9:=λtys hn=>by rw[e9];exact cX.set U hn
     have Wm:Le h h9:=(((P.trans a).trans B).trans l8).bf (iu s) k9;have Gy:fD h9 (.agg #[.slice (zsA ab) m5 an,.slice (zsA wb) m2 cw,.slice x3 m3 w,.slice x4 m4 k4]) (gY d (d.ao.take i++[⟨⟨nm,cols,key,only⟩,[]⟩]++d.ao.drop i)):=by
      have Z:=(a.trans B).trans l8;refine⟨_,_,_,_,_,_,_,_,_,_,_,_,_,rfl,(ot.sl ?_).mono (t9 _ dl),((g5.sl g4).mono (Z.t _)).mono (t9 _ dl),(g6.mono (Z.t _)).mono (t9 _ dl),(g7.mono (Z.t _)).mono (t9 _ dl),?_⟩
      .grind
      grind [gY]
     cbv;rw[av A];refine cy al ?_;cbv;refine(CA Gy).mono (λv iE hR=>?_);obtain⟨gD,hd⟩:=hR;have hd:=hd.base Wm;have ll:fJ d ⟨nm,cols,key,only⟩ i false=(gY d (d.ao.take i++[⟨⟨nm,cols,key,only⟩,[]⟩]++d.ao.drop i),0):=by grind [fJ]
     have m:=hd;generalize gY d (d.ao.take i++[⟨⟨nm,cols,key,only⟩,[]⟩]++d.ao.drop i)=d' at *;obtain⟨G,D,L,I,F,M,J,n3,N,K,n4,O,rfl⟩:=hd.form;cbv;exact⟨_,0,z,i,false,rfl,Wm.trans gD,gg,by rw[ll],hz,hb⟩
theorem QH{v:Value}(q:fD h v d){s:Option Addr}{c:Nat}(r:Sl 202 bJ h (.slice s n c) cols)(m:Small d)(f:bP d ⟨nm,cols,key,only⟩=D)
  (F:fQx h D.1 D.2 k):Ct 91 [v,.agg #[.string nm,.slice s n c,.zI key,.bool only]] h k:=
 (VA q r m.ao m.ai).mono (λv h' hR=>by
  obtain⟨M,e,z,i,is,G,l,hd,j,p,g⟩:=hR;obtain⟨a,b⟩:=g.at_;have o:=Ki p a;have K:fJ d ⟨nm,cols,key,only⟩ i is=D:=by rw[<-f,o,b];rfl
  rw[K]at hd j;obtain⟨t,H,y,u,I,A,w,J,B,x,L,C,E⟩:=hd.form
  grind)
theorem bQz{v:Value}(q:fD h v d)(n:ByteArray)(hD:dY d n=D)
 (K:fQx h D.1 D.2 k):Ct 166 [v,.string n] h k:=by
 obtain⟨e,y,p,f,a,r,j,B,s,l,C,w,rfl⟩:=q.form;have vd:a=d.ai.length:=by obtain⟨_,_,_,_,_,_,_,_,_,_,_,_,ws,he,_,qw,_,_,L⟩:=q.out;cases he;rw[qw.len,<-L,kZl]
 refine cB bXi Tryz.func166 λA J=>?_;cbv;refine lq q (λh1 c tb wb ct cw W l1 hc nO vC qj px hW ND KD cs=>?_);have cs:=cs.new hW;cbv;refine vV cs n (λh2 z t V T ht=>?_);have x:=l1.trans V;have q2:=q.mono x;cases t with
 |false=>
  have b:D=(d,2):=by grind [dY]
  subst b;cbv;rw[show A .not false=true by rw[J.not];rfl];cbv;refine JX q2 (λF e y p f a r j B s l C w N P=>?_);have E:=K F e y p f a r j B s l C w (x.trans N) (P.base x);cbv;exact E
 |true=>
  have aZ:dE (aU d.ao n)<d.ao.length:=by have:=jk ht.symm;simpa[aU]using this
  have b:D=if decide ((d.ai.length:Int)>0)=true then(d,18)else(⟨d.ao.eraseIdx (dE (aU d.ao n)),d.ai,d.holds,d.waits⟩,0):=by grind [dY]
  clear hD;generalize dE (aU d.ao n)=i at *;generalize I:A .aQ .gtr (A .nat a) 0=u;have fu:=I;rw[bF A,J.nat,vd,show Int.ofNat d.ai.length=(d.ai.length:Int)from rfl]at I;rw[I]at b;cbv;rw[show A .not true=false by rw[J.not];rfl];cbv;rw[fu];cases u with
  |true=>have b:D=(d,18):=b;subst b;cbv;refine JX q2 (λF e y p f a r j B s l C w N P=>?_);have E:=K F e y p f a r j B s l C w (x.trans N) (P.base x);cbv;exact E
  |false=>
   have b:D=(⟨d.ao.eraseIdx i,d.ai,d.holds,d.waits⟩,0):=b;subst b;have yp:=cs.mono V;refine yp.elim (λm1 m2 x3 m3 H x4 m4 M o g ho f1 R f3 f4 f6 f7 _=>?_);have kE:=R.bd;have ld:=T.succ (A:=A);have X:(d.ao.eraseIdx i).length=m1-1:=gg
   cbv;rw[av A];rw[av A];refine cy g ?_;cbv;refine NF R f1 T ld ip (λF m L H t3 o3=>?_);have Z:F c=h2 c:=(H _ _ g (iu qj)).trans g.symm;have O:=λG hh=>kO.Rr (h':=G) g ho f3 f4 f6 f7 (L.trans X.symm) t3 Z o3 hh;have S:=Z.trans g;cbv;rw[av A];rw[av A];refine jE S io (λG Q=>?_);obtain⟨M,HS⟩:=O G Q;clear O Q;have Y:Le h G:=x.bf (bs:=[tb,c]) (by simp[hc,nO]) ((H.sub io).trans (M.sub io));refine HS.elim (λm1 m2 x3 m3 H x4 m4 M o g _ _ _ _ _ _ _ U=>?_);rw[Ae]at U;cbv;rw[av A];refine cy g ?_;cbv;refine JX U (λh5 e y p f a r j B s l C w l5 P=>?_);have E:=K h5 e y p f a r j B s l C w (Y.trans l5) (P.base Y);cbv;exact E
end Go.S
