import Derived.Test.YthnbpiejemlbeaaGreatLA
set_option linter.all false
set_option maxRecDepth 100000
set_option maxHeartbeats 8000000
namespace Go.S
open Go.Sx Go.Proofs
variable {d:DB}{D:DB×Int}{H:List bZ}{i n:Nat}{k:Value->ad->Prop}{h:ad}{hd:bZ}
theorem tW(a b:bZ):eE a b=eE b a:=by
 grind [eE]
def HU(H:List bZ):Prop:=∀(i j:Nat) (x y:bZ),H[i]? =some x->H[j]? =some y->x.s=y.s->x.table=y.table->i=j
theorem UB(h:∀(j:Nat) (y:bZ),H[j]? =some y->jn hd y=false):nY H hd=none:=by unfold nY;rw[kZb];intro x hx;obtain⟨j,a⟩:=kXT hx;exact h j x a
theorem UA(u:HU H){x:bZ}(hx:H[i]? =some x)(h:jn hd x=true):nY H hd=some i:=by
 unfold nY;rw[kXd];have b:=HH.1 hx;refine⟨b.1,gg,λj d=>?_⟩;have p:j<H.length:=gg
 intro c;have a:H[j]? =some (H[j]'p):=kZG p;unfold jn at h c;simp only[kZj,kJP]at h c;have:=u i j x _ hx a (by rw[h.1,c.1]) (by rw[h.2,c.2]);omega
theorem NZ{H W:List bZ}(h:nY H hd=none):bW H hd= !(H.any (eE hd))/\(H.any (eE hd)=false->cT H hd=H++[hd])/\(H.any (eE hd)=true->cT H hd=H):=by
 grind [pA,bW,eE,cT]
theorem NY{H W:List bZ}{x:bZ}(h:nY H hd=some i)(hx:H[i]? =some x)(p:jn hd x=true):
 ((x.x|| !hd.x)=true->bW H hd=true/\cT H hd=H)/\((x.x|| !hd.x)=false->bW H hd= !(H.any (eE hd))/\(H.any (eE hd)=false->cT H hd=H.set i ⟨x.s,x.table,true⟩)/\(H.any (eE hd)=true->cT H hd=H)):=by
 obtain⟨xs,t,a⟩:=x;obtain⟨s,c,D⟩:=hd;unfold jn at p;simp only[kZj,kJP]at p;obtain⟨rfl,rfl⟩:=p;have b:pA H ⟨xs,t,D⟩=(a|| !D):=by
  grind [pA,hx,RF]
 grind [bW,cT,eE]
theorem aXq{p:bZ->Bool}{x:bZ}(hx:H[i]? =some x):(H.take (i+1)).any p=((H.take i).any p||p x):=by rw[kJG,hx,List.any_append];simp
theorem cJL{W:List bZ}{O b4:Option Addr}{V n4 c4:Nat}(q:Sl 422 bC h (.slice O n V) H)(M:Sl 422 bC h (.slice b4 n4 c4) W)(h3:n<=2^36)(h4:n4<=2^36)(hu:HU H)(s:Int)(t:ByteArray)(x:Bool)
 (Y:∀h' e3 m3 f3 C d D u,Le h h'->u=bW H ⟨s,t,x⟩->Sl 422 bC h' (.slice e3 m3 f3) (cT H ⟨s,t,x⟩)->Sl 422 bC h' (.slice C d D) (cW H W ⟨s,t,x⟩)->k (.tuple #[.agg #[.slice e3 m3 f3,.slice C d D],.bool u]) h'):
 Ct 271 [.agg #[.slice O n V,.slice b4 n4 c4],.agg #[.zI s,.string t,.bool x]] h k:=by
 obtain⟨A,hA⟩:=Ar.ex;have aA:=q.len;have kE:=q.bound;have DH:∀b:Bool,A .not b= !b:=λb=>by rw[hA.not]
 obtain⟨hd,Aq⟩:∃hd:bZ,hd=⟨s,t,x⟩:=⟨_,rfl⟩;have aq:∀y:bZ,jn hd y=(decide (y.s=s)&&decide (y.table=t)):=λy=>by rw[Aq];rfl
 rw[<-Aq]at Y;obtain⟨I,gX⟩:∃I:Nat->(Int×Int×Bool)->ad->Prop,∀m g h',I m g h'=∃i:Nat,bg g.1 i/\m=n-i/\i<=n/\h'=h/\((g.2.1=-1/\∀(j:Nat) y,j<i->H[j]? =some y->jn hd y=false)\/∃j y,bg g.2.1 j/\j<i/\H[j]? =some y/\jn hd y=true)/\g.2.2= !((H.take i).any (eE hd)):=⟨_,λ_ _ _=>rfl⟩;refine kh eZs A Tryz.func271 ?_;cbv;refine ba.gz (G:=Int×Int×Bool) (λg=>[(8,.v (.zI g.1)),(6,.v (.zI g.2.1)),(7,.v (.bool g.2.2))]) (λ_=>[(2,[.slice O n V,.slice b4 n4 c4]),(3,[.zI s,.string t,.bool x]),(4,[.zN,.zN])]) (λm g h'=>I m g h') n (0,-1,true) (by rw[gX];exact⟨0,⟨rfl⟩,rfl,ip,rfl,.inl ⟨rfl,λj y hj=>absurd hj ip⟩,io⟩) ?_
 intro m g h' hI;rw[gX]at hI;cbv;obtain⟨i,hz,hm,hi,rfl,ZA,Va⟩:=hI;obtain⟨z,own,fr⟩:=g;have hz:bg z i:=hz;have ZA:(own=-1/\∀(j:Nat) y,j<i->H[j]? =some y->jn hd y=false)\/∃j y,bg own j/\j<i/\H[j]? =some y/\jn hd y=true:=ZA;have Va:fr= !((H.take i).any (eE hd)):=Va;have f1:A .aQ .lss z (A .nat n)=decide (i<n):=hz.zQ (bg.nat n);rw[f1];by_cases aZ:i<n
 .obtain⟨⟨ys,c,f⟩,Q⟩:=cK H i;have eL:O.isSome=true/\0<=z/\z<(n:Int):=⟨q.bu,hz.ix aZ⟩;have dI:=hz.eq;have gO:=hz.succ (A:=A);have f2:A .aQ .eql ys s=decide (ys=s):=au A ..;have f3:A .lu .eql c t=decide (c=t):=eV A ..;have ZK:=aq ⟨ys,c,f⟩;have ZK:jn hd ⟨ys,c,f⟩=(decide (ys=s)&&decide (c=t)):=ZK;have K:=aXq (p:=eE hd) Q;have qS:jn hd ⟨ys,c,f⟩=false->(own=-1/\∀(j:Nat) y,j<i+1->H[j]? =some y->jn hd y=false)\/∃j y,bg own j/\j<i+1/\H[j]? =some y/\jn hd y=true:=λhf=>by
   grind
  have qX:eE hd ⟨ys,c,f⟩=eE ⟨s,t,x⟩ ⟨ys,c,f⟩:=by rw[Aq]
  rw[qX]at K;clear ZA;have hF:fr=false->false= !((H.take (i+1)).any (eE hd)):=λe=>by
   grind
  have aC:fr=true->∀N,N=eE ⟨s,t,x⟩ ⟨ys,c,f⟩->(!N)= !((H.take (i+1)).any (eE hd)):=λe N MQ=>by
   grind
  have US:n-(i+1)<m:=ip
  generalize decide (ys=s)=us at *;generalize decide (c=t)=ut at *;rw[kS aZ];cbv;refine⟨eL,?_⟩;cbv;refine q.cI Q dI (o:=0) (m:=1) dl (λcs a=>?_);have a:cs=[.zI ys,.string c,.bool f]:=a;subst a;cbv;rw[f2];cases us with
  |false=>
   have oT:=qS (by rw[ZK];rfl);cbv;cases fr with
   |false=>
    have R:I (n-(i+1)) (A .aX .add .i64 z 1,own,false) h':=by
     grind
    cbv;refine zqn (n-(i+1)) (_,own,false) US R
   |true=>
    cbv;refine⟨eL,?_⟩;cbv;refine q.load Q dI (λcs a=>?_);have a:cs=[.zI ys,.string c,.bool f]:=a;subst a;cbv;refine uR ys s c t f x (λN MQ=>?_);rw[tW]at MQ;cbv;rw[DH];have R:I (n-(i+1)) (A .aX .add .i64 z 1,own,!N) h':=by
     grind
    cbv;refine zqn (n-(i+1)) (_,own,!N) US R
  |true=>
   cbv;refine⟨eL,?_⟩;cbv;refine q.cI Q dI (o:=1) (m:=1) dl (λcs a=>?_);have a:cs=[.zI ys,.string c,.bool f]:=a;subst a;cbv;rw[f3];cases ut with
   |false=>
    have oT:=qS (by rw[ZK];rfl);cbv;cases fr with
    |false=>
     have R:I (n-(i+1)) (A .aX .add .i64 z 1,own,false) h':=by
      grind
     cbv;refine zqn (n-(i+1)) (_,own,false) US R
    |true=>
     cbv;refine⟨eL,?_⟩;cbv;refine q.load Q dI (λcs a=>?_);have a:cs=[.zI ys,.string c,.bool f]:=a;subst a;cbv;refine uR ys s c t f x (λN MQ=>?_);rw[tW]at MQ;cbv;rw[DH];have R:I (n-(i+1)) (A .aX .add .i64 z 1,own,!N) h':=by
      grind
     cbv;refine zqn (n-(i+1)) (_,own,!N) US R
   |true=>
    have ab:jn hd ⟨ys,c,f⟩=true:=by rw[ZK];rfl
    cbv;cases fr with
    |false=>
     have R:I (n-(i+1)) (A .aX .add .i64 z 1,z,false) h':=by
      grind
     cbv;refine zqn (n-(i+1)) (_,z,false) US R
    |true=>
     cbv;refine⟨eL,?_⟩;cbv;refine q.load Q dI (λcs a=>?_);have a:cs=[.zI ys,.string c,.bool f]:=a;subst a;cbv;refine uR ys s c t f x (λN MQ=>?_);rw[tW]at MQ;cbv;rw[DH];have R:I (n-(i+1)) (A .aX .add .i64 z 1,z,!N) h':=by
      grind
     cbv;refine zqn (n-(i+1)) (_,z,!N) US R
 rw[kQW aZ];have fN:i=n:=ip
 have bR:(H.take i).any (eE hd)=H.any (eE hd):=gg
 have Kq:=Va;clear Va;rw[bR]at Kq;rcases ZA with⟨rfl,oT⟩|⟨j,y,OE,mU,Q,ab⟩
 .have al:A .aQ .geq (-1) 0=false:=by rw[cF A];rfl
  have EC:nY H hd=none:=UB (λj y hj=>oT j y gg hj);obtain⟨a1,a2,U⟩:=NZ (W:=W) EC;clear oT EC;cbv;rw[al];cbv;rw[DH];cases fr with
  |false=>
   have K:H.any (eE hd)=true:=by
    grind
   have U:=U K;rw[K]at a1;have a1:bW H hd=false:=a1;have F:cW H W hd=bX W s++[hd]:=by unfold cW;grind
   cbv;refine⟨?_,?_⟩
   .refine jb M ip s (λX C d D B L=>?_);have BY:d<=n4:=by rw[L.sl.len,M.len];exact Dg _ _
    cbv;intro E r P w;have l:Le X r:=zqs w P
    have f6:=zqt w;have v6:Sl 422 bC r (.slice (zsA E) 1 1) [hd]:=by grind [bh,bC]
    cbv;refine(L.mono (l.t _)).append v6 dl rfl dl ip (B.trans l) (λm7 Z c7 S Nz J t7 k7 T=>?_);have v:=Y S O n V Z m7 c7 false J a1.symm (by rw[U];exact q.mono (J.t _)) (by rw[F];exact T.sl);cbv;exact v
   intro E r P w;have l:Le h' r:=zqs w P
   have f6:=zqt w;have v6:Sl 422 bC r (.slice (zsA E) 1 1) [hd]:=by grind [bh,bC]
   cbv;refine jb (M.mono (l.t _)) ip s (λX C d D B L=>?_);have BY:d<=n4:=by rw[L.sl.len,M.len];exact Dg _ _
   cbv;refine L.append (v6.mono (B.t _)) dl rfl dl ip B (λm7 Z c7 S Nz J t7 k7 T=>?_);have HC:=l.trans J;have v:=Y S O n V Z m7 c7 false HC a1.symm (by rw[U];exact q.mono (HC.t _)) (by rw[F];exact T.sl);cbv;exact v
  |true=>
   have K:H.any (eE hd)=false:=by
    grind
   have a2:=a2 K;rw[K]at a1;have a1:bW H hd=true:=a1;have F:cW H W hd=bX W s:=by unfold cW;grind
   cbv;intro E r P w;have l:Le h' r:=zqs w P
   have fO:bA 422 bC h' r (.slice (zsA E) 0 0) ([]:List bZ):=bA.nil;cbv;refine fO.append (q.mono (l.t _)) dl rfl dl ip l (λm7 Z c7 S Nz J t7 k7 T=>?_);rw[kZA]at T;cbv;rw[al];cbv;intro n8 h8 g8 e8;have l8:Le S h8:=zqs e8 g8
   have f8:=zqt e8;have v8:Sl 422 bC h8 (.slice (zsA n8) 1 1) [hd]:=by grind [bh,bC]
   cbv;refine(T.mono (l8.t _)).append v8 dl rfl dl ip (J.trans l8) (λm9 b9 c9 h9 aB l9 t9 k9 vD=>?_);cbv;refine jb (M.mono (l9.t _)) ip s (λiE C d D gD lF=>?_);have v:=Y iE b9 m9 c9 C d D true (l9.trans gD) a1.symm (by rw[a2];exact vD.sl.mono (gD.t _)) (by rw[F];exact lF.sl);cbv;exact v
 have ao:j<n:=ip
 have ak:=UA hu Q ab;obtain⟨a1,a2⟩:=NY (W:=W) ak Q ab;obtain⟨ys,c,f⟩:=y;have an:A .aQ .geq own 0=true:=by have:=OE.eq;rw[cF A];grind
 have ag:O.isSome=true/\0<=own/\own<(n:Int):=⟨q.bu,OE.ix ao⟩;have Wv:=OE.eq;have ax:hd.x=x:=by rw[Aq]
 rw[ax]at a1 a2;clear ak;cbv;rw[an];cbv;refine⟨ag,?_⟩;cbv;refine q.cI Q Wv (o:=2) (m:=1) dl (λcs a=>?_);have a:cs=[.zI ys,.string c,.bool f]:=a;subst a;cbv;cases f with
 |true=>
  have Qg:(true|| !x)=true:=rfl;have F:cW H W hd=bX W s:=by unfold cW;grind
  cbv;refine jb M ip s (λX C d D B L=>?_);have v:=Y X O n V C d D true B (a1 Qg).1.symm (by rw[(a1 Qg).2];exact q.mono (B.t _)) (by rw[F];exact L.sl);cbv;exact v
 |false=>
  cbv;rw[DH];cases x with
  |false=>
   have Qg:(false|| !false)=true:=rfl;have F:cW H W hd=bX W s:=by unfold cW;grind
   cbv;refine jb M ip s (λX C d D B L=>?_);have v:=Y X O n V C d D true B (a1 Qg).1.symm (by rw[(a1 Qg).2];exact q.mono (B.t _)) (by rw[F];exact L.sl);cbv;exact v
  |true=>
   obtain⟨a1,a2,U⟩:=a2 rfl;cbv;rw[DH];cases fr with
   |false=>
    have K:H.any (eE hd)=true:=by
     grind
    have U:=U K;rw[K]at a1;have a1:bW H hd=false:=a1;have F:cW H W hd=bX W s++[hd]:=by unfold cW;grind
    cbv;refine⟨?_,?_⟩
    .refine jb M ip s (λX C d D B L=>?_);have BY:d<=n4:=by rw[L.sl.len,M.len];exact Dg _ _
     cbv;intro E r P w;have l:Le X r:=zqs w P
     have f6:=zqt w;have v6:Sl 422 bC r (.slice (zsA E) 1 1) [hd]:=by grind [bh,bC]
     cbv;refine(L.mono (l.t _)).append v6 dl rfl dl ip (B.trans l) (λm7 Z c7 S Nz J t7 k7 T=>?_);have v:=Y S O n V Z m7 c7 false J a1.symm (by rw[U];exact q.mono (J.t _)) (by rw[F];exact T.sl);cbv;exact v
    intro E r P w;have l:Le h' r:=zqs w P
    have f6:=zqt w;have v6:Sl 422 bC r (.slice (zsA E) 1 1) [hd]:=by grind [bh,bC]
    cbv;refine jb (M.mono (l.t _)) ip s (λX C d D B L=>?_);have BY:d<=n4:=by rw[L.sl.len,M.len];exact Dg _ _
    cbv;refine L.append (v6.mono (B.t _)) dl rfl dl ip B (λm7 Z c7 S Nz J t7 k7 T=>?_);have HC:=l.trans J;have v:=Y S O n V Z m7 c7 false HC a1.symm (by rw[U];exact q.mono (HC.t _)) (by rw[F];exact T.sl);cbv;exact v
   |true=>
    have K:H.any (eE hd)=false:=by
     grind
    have a2:=a2 K;rw[K]at a1;have a1:bW H hd=true:=a1;have F:cW H W hd=bX W s:=by unfold cW;grind
    cbv;intro E r P w;have l:Le h' r:=zqs w P
    cbv;refine dG (q.mono (l.t _)) dl rfl dl (λh0=>absurd h0 ip) (λnb cap S eM _ J ho=>?_);have HC:=l.trans J;have aw:(some (⟨nb,0,none⟩:Addr)).isSome=true/\0<=own/\own<(n:Int):=⟨rfl,ag.2⟩;cbv;rw[an];cbv;refine⟨aw,?_⟩;cbv;refine ho.LY dl Q Wv rfl (off:=2) dl (x':=⟨ys,c,true⟩) (λcs a=>?_) (λh8 k8 t8 o8=>?_)
    .have a:cs=[.zI ys,.string c,.bool false]:=a;rw[a];rfl
    have l8:Le h' h8:=HC.bf (bs:=[nb]) (by simpa using l.none eM) k8;cbv;refine jb (M.mono (l8.t _)) ip s (λiE C d D gD lF=>?_);have v:=Y iE (zsA nb) n cap C d D true (l8.trans gD) a1.symm (by rw[a2];exact(o8.sl gg).mono (gD.t _)) (by rw[F];exact lF.sl);cbv;exact v
theorem aQN{a b c e:Option Addr}{r f g t l u p:Nat}(q:RP h a r f b n g c t l e u p d)(I:SI d)(s:Int)(hs:-2^63<=s/\s<2^63){D:DB×List cR×Int}(hD:bQ d s=D)
 (G:∀h' a r f b n g c t l e u p E M F,Le h h'->RP h' a r f b n g c t l e u p D.1->Sl 161 bD h' (.slice E M F) D.2.1->k (.tuple #[.agg #[.slice a r f,.slice b n g,.slice c t l,.slice e u p],.slice E M F,.zI D.2.2]) h'):
 Ct 163 [.agg #[.slice a r f,.slice b n g,.slice c t l,.slice e u p],.zI s] h k:=by
 obtain⟨A,hA⟩:=Ar.ex;have vd:=mG I.gi I.mX;have R:A .aQ .lss (-1) 0=true:=by rw[aV A];rfl
 refine kh eKi A Tryz.func163 ?_;cbv;refine yU q s (λz H=>?_);rcases oK I hs H with⟨rfl,hb⟩|⟨i,w,C,hw,N,e1,e2⟩
 .have Y:D=(d,[],2):=by grind [bQ]
  subst Y;have x:=G h a r f b n g c t l e u p none 0 0 (Le.refl _) q Sl.nil;cbv;rw[R];cbv;exact x
 have ic:=(HH.1 hw).1;have P:=I.log w (kQR hw);have Q:=mH I.gi hw;have Y:D=(⟨d.ao,d.ai.take i++d.ai.drop (i+1),bX d.holds s,bX d.waits s⟩,w.log,0):=by
  grind [bQ,tU]
 clear hD H;subst Y;have Z:A .aQ .lss z 0=false:=C.zO (A:=A);have ag:=I.holds;have ab:=I.waits;have fA:=q.ai.len;have eL:b.isSome=true/\0<=z/\z<(n:Int):=⟨q.ai.bu,C.ix ip⟩;have X:=C.eq;have S:=P.2;clear P;obtain⟨ws,wl,wm⟩:=w;have S:wl.length<=60:=S;cbv;rw[Z];cbv;intro n6 B g6 e6;have J:Le h B:=zqs e6 g6
 have q6:=q.mono J;have fO:bA 161 bD h B (.slice (zsA n6) 0 0) ([]:List cR):=bA.nil;cbv;refine⟨eL,?_⟩;cbv;refine q6.ai.cI hw X (o:=1) (m:=1) dl (λcs U=>?_);obtain⟨u1,v1,w1,u2,v2,w2,rfl,v,qm⟩:=U;have v:Sl 161 bD B (.slice u1 v1 w1) wl:=v;have T:=v.len;cbv;refine fO.append v dl rfl dl ip J (λm7 V W h7 Nz K t7 k7 O=>?_);rw[kZA]at O;cbv;refine aQA (q.mono K) ip ip ip hw N (λj y hy he=>Q j y hy (by rw[he,N])) (λh8 a r f b n g c t l e u p L q8=>?_);have x:=G h8 a r f b n g c t l e u p V m7 W (K.trans L) q8 (O.sl.mono (L.t _));cbv;exact x
theorem UC(nm:ByteArray):nu nm= !gZ nm:=by
 unfold nu ey;simp only;cases h:gZ nm with
 |false=>rfl
 |true=>
  have e1:lI [⟨nA,2,false⟩]=0:=by kernel_rfl
  rw[e1];rfl
theorem bKr{c a e f:Option Addr}{r j m y o B p:Nat}(q:RP h c r j a n m e y o f B p d)(hI:SI d)(s:Int)(hs:-2^63<=s/\s<2^63)(nm:ByteArray)(hD:kX d s nm=D)(H:RK h D.1 D.2 k):
 Ct 160 [.agg #[.slice c r j,.slice a n m,.slice e y o,.slice f B p],.zI s,.string nm] h k:=by
 obtain⟨A,hA⟩:=Ar.ex;have vd:=mG hI.gi hI.mX;have Sb:A .aQ .lss (-1) 0=true:=by rw[aV A];rfl
 have DH:∀b:Bool,A .not b= !b:=λb=>by rw[hA.not]
 refine kh eKl A Tryz.func160 ?_;cbv;refine yU q s (λz jr=>?_);rcases oK hI hs jr with⟨rfl,hb⟩|⟨i,w,R,hw,vB,e1,e2⟩
 .have Y:D=(d,2):=by rw[<-hD];unfold kX;rw[hb];rfl
  subst Y;have C:=H h c r j a n m e y o f B p (Le.refl _) q;cbv;rw[Sb];cbv;exact C
 have ic:=(HH.1 hw).1;have nP:=(hI.log w (kQR hw)).2;have Y:D=if(!gZ nm)=true then(d,12)else if decide ((w.marks.length:Int)>=10)=true then(d,4)else(⟨d.ao,d.ai.set i ⟨w.s,w.log,w.marks++[⟨nm,(w.log.length:Int)⟩]⟩,d.holds,d.waits⟩,0):=by
  grind [kX,UC]
 clear hD jr;have aZ:A .aQ .lss z 0=false:=R.zO (A:=A);have fA:=q.ai.len;have eL:a.isSome=true/\0<=z/\z<(n:Int):=⟨q.ai.bu,R.ix ip⟩;have dI:=R.eq;obtain⟨ws,wl,E⟩:=w;have nP:wl.length<=60:=nP;have Y:D=if(!gZ nm)=true then(d,12)else if decide ((E.length:Int)>=10)=true then(d,4)else(⟨d.ao,d.ai.set i ⟨ws,wl,E++[⟨nm,(wl.length:Int)⟩]⟩,d.holds,d.waits⟩,0):=Y
 obtain⟨W,Z⟩:∃z:Int,z=(wl.length:Int):=⟨_,rfl⟩;obtain⟨u,hu⟩:∃u,u=decide ((E.length:Int)>=10):=⟨_,rfl⟩;rw[<-Z,<-hu]at Y;have ao:∀v,v=wl.length->A .nat v=W:=λv hv=>by rw[hA.nat,hv,Z];rfl
 have ak:∀v,v=E.length->A .aQ .geq (A .nat v) 10=u:=λv hv=>by rw[cF A,hA.nat,hv,hu];rfl
 have ab:u=false->E.length<10:=λh=>gg
 clear Z hu;cbv;rw[aZ];cbv;refine(Kb (s:=nm)).mono (λv F hR=>?_);obtain⟨l5,t,hv,ht⟩:=hR;rw[hv];cbv;rw[DH];rw[<-ht]at Y;cases t with
 |false=>have Y:D=(d,12):=Y;subst Y;have C:=H F c r j a n m e y o f B p l5 (q.mono l5);cbv;exact C
 |true=>
  have Y:D=if u=true then(d,4)else(⟨d.ao,d.ai.set i ⟨ws,wl,E++[⟨nm,W⟩]⟩,d.holds,d.waits⟩,0):=Y
  have IT:RK F D.1 D.2 k:=λh' c r j a n m e y o f B p l q'=>H h' c r j a n m e y o f B p (l5.trans l) q';clear H;have H:=IT;clear IT;have q0:=q;clear q;have q:=q0.mono l5;clear q0 l5 ht hv;cbv;refine⟨eL,?_⟩;cbv;refine q.ai.load hw dI (λcs ar=>?_);obtain⟨u1,v1,w1,u2,v2,w2,rfl,S,qm⟩:=ar;have S:Sl 161 bD F (.slice u1 v1 w1) wl:=S;have qm:Sl 340 dw F (.slice u2 v2 w2) E:=qm;have ag:=S.len;have OJ:=qm.len;have al:=ak v2 OJ;have aq:=ao v1 ag;cbv;rw[al];cases u with
  |true=>have Y:D=(d,4):=Y;subst Y;have C:=H F c r j a n m e y o f B p (Le.refl _) q;cbv;exact C
  |false=>
   have Y:D=(⟨d.ao,d.ai.set i ⟨ws,wl,E++[⟨nm,W⟩]⟩,d.holds,d.waits⟩,0):=Y;have ab:=ab rfl;subst Y;cbv;rw[aq];refine⟨?_,?_⟩
   .intro n7 h7 g7 e7;have T:Le F h7:=zqs e7 g7
    cbv;refine⟨?_,?_⟩
    .cbv;refine dG (qm.mono (T.t _)) dl rfl dl (λh0=>?_) (λn9 c9 h9 mh _ l9 UO=>?_)
     .have Zp:E=[]:=kZh ip;cbv;intro M G g8 K;have U:Le h7 G:=zqs K g8
      have f8:=zqt K;have Q:Sl 340 dw G (.slice (zsA M) 1 1) [⟨nm,W⟩]:=bh (s:=dw) f8 rfl;have O:bA 340 dw F G (.slice (zsA n7) 0 0) E:=by rw[Zp];exact bA.nil
      have X:=T.trans U;cbv;refine O.append Q dl rfl dl ip X (λII EO Jp iE BD g N Be L=>?_);cbv;refine oy (q.mono g) ip R ic (S.mono (g.t _)) L.sl (λV c r j a n m e y o f B p I P=>?_);have C:=H V c r j a n m e y o f B p (g.trans I) P;cbv;exact C
     have an:bA 340 dw F h9 (.slice (zsA n9) v2 c9) E:=UO.buf (T.none mh) OJ;cbv;intro M G g8 K;have U:Le h9 G:=zqs K g8
     have f8:=zqt K;have Q:Sl 340 dw G (.slice (zsA M) 1 1) [⟨nm,W⟩]:=bh (s:=dw) f8 rfl;have O:=an.mono (U.t _);have X:=(T.trans l9).trans U;cbv;refine O.append Q dl rfl dl ip X (λII EO Jp iE BD g N Be L=>?_);cbv;refine oy (q.mono g) ip R ic (S.mono (g.t _)) L.sl (λV c r j a n m e y o f B p I P=>?_);have C:=H V c r j a n m e y o f B p (g.trans I) P;cbv;exact C
    cbv;intro M G g8 K;have U:Le h7 G:=zqs K g8
    have f8:=zqt K;have v8:Sl 340 dw G (.slice (zsA M) 1 1) [⟨nm,W⟩]:=bh (s:=dw) f8 rfl;have J:=T.trans U;cbv;refine dG (qm.mono (J.t _)) dl rfl dl (λh0=>?_) (λn9 c9 h9 mh _ l9 UO=>?_)
    .have Zp:E=[]:=kZh ip;have O:bA 340 dw F G (.slice (zsA n7) 0 0) E:=by rw[Zp];exact bA.nil
     have Q:=v8;have X:=J;cbv;refine O.append Q dl rfl dl ip X (λII EO Jp iE BD g N Be L=>?_);cbv;refine oy (q.mono g) ip R ic (S.mono (g.t _)) L.sl (λV c r j a n m e y o f B p I P=>?_);have C:=H V c r j a n m e y o f B p (g.trans I) P;cbv;exact C
    have O:bA 340 dw F h9 (.slice (zsA n9) v2 c9) E:=UO.buf (J.none mh) OJ;have Q:=v8.mono (l9.t _);have X:=J.trans l9;cbv;refine O.append Q dl rfl dl ip X (λII EO Jp iE BD g N Be L=>?_);cbv;refine oy (q.mono g) ip R ic (S.mono (g.t _)) L.sl (λV c r j a n m e y o f B p I P=>?_);have C:=H V c r j a n m e y o f B p (g.trans I) P;cbv;exact C
   intro M G g8 K;have U:Le F G:=zqs K g8
   have f8:=zqt K;cbv;intro n7 h7 g7 e7;have T:Le G h7:=zqs e7 g7
   have v8:Sl 340 dw h7 (.slice (zsA M) 1 1) [⟨nm,W⟩]:=(bh (s:=dw) (x:=⟨nm,W⟩) f8 rfl).mono (T.t _);have J:=U.trans T;cbv;refine dG (qm.mono (J.t _)) dl rfl dl (λh0=>?_) (λn9 c9 h9 mh _ l9 UO=>?_)
   .have Zp:E=[]:=kZh ip;have O:bA 340 dw F h7 (.slice (zsA n7) 0 0) E:=by rw[Zp];exact bA.nil
    have Q:=v8;have X:=J;cbv;refine O.append Q dl rfl dl ip X (λII EO Jp iE BD g N Be L=>?_);cbv;refine oy (q.mono g) ip R ic (S.mono (g.t _)) L.sl (λV c r j a n m e y o f B p I P=>?_);have C:=H V c r j a n m e y o f B p (g.trans I) P;cbv;exact C
   have O:bA 340 dw F h9 (.slice (zsA n9) v2 c9) E:=UO.buf (J.none mh) OJ;have Q:=v8.mono (l9.t _);have X:=J.trans l9;cbv;refine O.append Q dl rfl dl ip X (λII EO Jp iE BD g N Be L=>?_);cbv;refine oy (q.mono g) ip R ic (S.mono (g.t _)) L.sl (λV c r j a n m e y o f B p I P=>?_);have C:=H V c r j a n m e y o f B p (g.trans I) P;cbv;exact C
theorem wrap_small{x:Int}(h:-2^62<=x/\x<2^62):IntKind.i64.wrap x=x:=IntWalk.i64_in _ ip
theorem Lt(I:SI d){s:Int}(n:0<=s/\s<8)(m:i<=d.ai.length)(U:∀(j:Nat) w,j<i->d.ai[j]? =some w->w.s<s)(a:∀w,d.ai[i]? =some w->¬w.s<s):dE (cf d.ai s)=i:=by
 have hl:(cf d.ai s).length=d.ai.length:=by simp[cf]
 have get:∀j,j<d.ai.length->∃w,d.ai[j]? =some w/\(cf d.ai s).getD j 0=w.s-s:=λj c=>by
  obtain⟨w,h⟩:=ay c;have r:=I.mX w (kQR h);exact⟨w,h,by rw[EU h,wrap_small ip]⟩
 unfold dE;refine yy _ i (λj c=>?_) 0 _ (λj f g=>?_) (kXH _) ip
 .grind
 obtain⟨w,h,e⟩:=get j ip;rw[e];rcases Nat.eq_or_lt_of_le f with b|b
 .grind
 obtain⟨w0,K⟩:=cK d.ai i;have k:=a w0 K;have l:=kJJ.1 I.gi i j (HH.1 K).1 (HH.1 h).1 b
 grind
theorem bQM{l E p r:Option Addr}{x t a e y u B v:Nat}(q:RP h l x t E a e p y u r B v d)(S:SI d)(s:Int)(hs:-2^63<=s/\s<2^63)(hD:iP d s=D)(L:RK h D.1 D.2 k):
 Ct 150 [.agg #[.slice l x t,.slice E a e,.slice p y u,.slice r B v],.zI s] h k:=by
 obtain⟨A,hA⟩:=Ar.ex;have vd:=mG S.gi S.mX;have ab:A .aQ .geq (-1) 0=false:=by rw[cF A];rfl
 have fA:=q.ai.len;have kE:=q.ai.bound;have f1:A .aQ .lss s 0=decide (s<0):=aV A ..;have f2:A .aQ .geq s 8=decide (s>=8):=cF A ..;have key:¬s<0->¬s>=8->D=if iC (cf d.ai s)=true then(d,7)else(⟨d.ao,d.ai.take (dE (cf d.ai s))++[⟨s,[],[]⟩]++d.ai.drop (dE (cf d.ai s)),d.holds,d.waits⟩,0):=λh1 h2=>by
  rw[<-hD];unfold iP jl;rw[kQW h1,kQW h2];rfl
 have F:(s<0\/s>=8)->D=(d,1):=λh=>by
  grind [iP,jl]
 clear hD;refine kh eKu A Tryz.func150 ?_;cbv;rw[f1];by_cases h0:s<0
 .have b:=F (.inl h0);subst b;have g:=L h l x t E a e p y u r B v (Le.refl _) q;rw[kS h0];cbv;exact g
 rw[kQW h0];cbv;rw[f2];by_cases f:s>=8
 .have b:=F (.inr f);subst b;have g:=L h l x t E a e p y u r B v (Le.refl _) q;rw[kS f];cbv;exact g
 have b:=key h0 f;clear key F;rw[kQW f];cbv;refine yU q s (λz jr=>?_);rcases oK S hs jr with⟨rfl,hb⟩|⟨i,w,c,hw,vB,e1,e2⟩
 .rw[hb]at b;have b:D=(⟨d.ao,d.ai.take (dE (cf d.ai s))++[⟨s,[],[]⟩]++d.ai.drop (dE (cf d.ai s)),d.holds,d.waits⟩,0):=b;have nB:=λ(i:Nat)=>Lt S (s:=s) ip (i:=i);clear jr;obtain⟨J,bH⟩:∃J:Nat->Int->ad->Prop,∀m z h',J m z h'=∃i:Nat,bg z i/\m=a-i/\i<=a/\h'=h/\∀(j:Nat) w,j<i->d.ai[j]? =some w->w.s<s:=⟨_,λ_ _ _=>rfl⟩;cbv;rw[ab];cbv;refine ba.gz (G:=Int) (λz=>[(6,.v (.zI z))]) (λ_=>[(2,[.slice l x t,.slice E a e,.slice p y u,.slice r B v]),(4,[.zN,.zN,.zN,.zN])]) (λm z h'=>J m z h') a 0 (by rw[bH];exact⟨0,⟨rfl⟩,ip,ip,rfl,λj w hj=>absurd hj ip⟩) ?_
  .intro m z h' hJ;rw[bH]at hJ;cbv;obtain⟨i,c,hm,hi,rfl,bR⟩:=hJ;have g1:A .aQ .lss z (A .nat a)=decide (i<a):=c.zQ (bg.nat a);have Z:(∀w,d.ai[i]? =some w->¬w.s<s)->D=(⟨d.ao,d.ai.take i++[⟨s,[],[]⟩]++d.ai.drop i,d.holds,d.waits⟩,0):=λhh=>by
    grind
   clear nB b;have V:A .nR z 0=i:=dJ (A:=A) c;have yJ:=cS (A:=A) c (n:=a);obtain⟨Qo,Qn⟩:=kE;have fv:0<=z/\z<=(e:Int):=by have:=c.eq;omega
   have ly:0<=z/\z<=(a:Int):=by have:=c.eq;omega
   have R:i<=a:=hi;have al:i<=8:=ip
   rw[g1];by_cases X:i<a
   .obtain⟨⟨ws,wl,wm⟩,hw⟩:=cK d.ai i;have eL:E.isSome=true/\0<=z/\z<(a:Int):=⟨q.ai.bu,c.ix X⟩;have dI:=c.eq;have gO:=c.succ (A:=A);have g2:A .aQ .lss ws s=decide (ws<s):=aV A ..;rw[kS X];cbv;refine⟨eL,?_⟩;cbv;refine q.ai.cI hw dI (o:=0) (m:=1) dl (λcs ar=>?_);obtain⟨u1,v1,w1,u2,v2,w2,rfl,-,-⟩:=ar;cbv;rw[g2];by_cases vB:ws<s
    .have cm:J (a-(i+1)) (A .aX .add .i64 z 1) h':=by
      grind
     rw[kS vB];cbv;refine zqn (a-(i+1)) _ ip cm
    have b:=Z (λw' PO=>gg);subst b;rw[kQW vB];cbv;intro n6 K g6 e6;have M:Le h' K:=zqs e6 g6
    have q6:=q.mono M;have fO:bA 337 ke h' K (.slice (zsA n6) 0 0) ([]:List eJ):=bA.nil;cbv;refine⟨fv,?_⟩;cbv;refine fO.append (q6.ai.tp (A:=A) (s:=ke) (z:=A .nat e) R V V) dl rfl dl gg M (λm7 b7 c7 h7 Nz l7 t7 k7 O=>?_);rw[kZA]at O;cbv;intro Q f g8 H;have N:Le h7 f:=zqs H g8
    have f8:=zqt H;have v8:Sl 337 ke f (.slice (zsA Q) 1 1) [⟨s,[],[]⟩]:=bh (s:=ke) f8 ⟨_,_,_,_,_,_,rfl,Sl.nil,Sl.nil⟩;cbv;refine(O.mono (N.t _)).append v8 dl rfl dl ip (l7.trans N) (λm9 b9 c9 h9 Y P t9 k9 vD=>?_);have q9:=q.mono P;cbv;refine⟨ly,?_⟩;cbv;refine vD.append (q9.ai.jX (A:=A) (s:=ke) c R yJ (c':=e-i) rfl) dl rfl dl gg P (λU T W iE BD I ak Be lF=>?_);have C:=q.mono I;have g:=L iE l x t T U W p y u r B v I ⟨C.ao,lF.sl,C.holds,C.waits⟩;cbv;exact g
   have b:=Z (λw' PO=>by
    grind)
   subst b;rw[kQW X];cbv;intro n6 K g6 e6;have M:Le h' K:=zqs e6 g6
   have q6:=q.mono M;have fO:bA 337 ke h' K (.slice (zsA n6) 0 0) ([]:List eJ):=bA.nil;cbv;refine⟨fv,?_⟩;cbv;refine fO.append (q6.ai.tp (A:=A) (s:=ke) (z:=A .nat e) R V V) dl rfl dl gg M (λm7 b7 c7 h7 Nz l7 t7 k7 O=>?_);rw[kZA]at O;cbv;intro Q f g8 H;have N:Le h7 f:=zqs H g8
   have f8:=zqt H;have v8:Sl 337 ke f (.slice (zsA Q) 1 1) [⟨s,[],[]⟩]:=bh (s:=ke) f8 ⟨_,_,_,_,_,_,rfl,Sl.nil,Sl.nil⟩;cbv;refine(O.mono (N.t _)).append v8 dl rfl dl ip (l7.trans N) (λm9 b9 c9 h9 Y P t9 k9 vD=>?_);have q9:=q.mono P;cbv;refine⟨ly,?_⟩;cbv;refine vD.append (q9.ai.jX (A:=A) (s:=ke) c R yJ (c':=e-i) rfl) dl rfl dl gg P (λU T W iE BD I ak Be lF=>?_);have C:=q.mono I;have g:=L iE l x t T U W p y u r B v I ⟨C.ao,lF.sl,C.holds,C.waits⟩;cbv;exact g
 rw[e2]at b;have b:D=(d,7):=b;subst b;have ag:A .aQ .geq z 0=true:=by have:=c.eq;rw[cF A];grind
 have g:=L h l x t E a e p y u r B v (Le.refl _) q;cbv;rw[ag];cbv;exact g
def fQq(d:DB):Prop:=∀w∈d.ai,w.marks.length<=10/\∀m∈w.marks,∃n:Nat,m.at_=(n:Int)/\n<=w.log.length
theorem cJK{l e p t:Option Addr}{E v f y H B K C:Nat}(q:RP h l E v e f y p H B t K C d)(T:SI d)(hM:fQq d)(s:Int)(hs:-2^63<=s/\s<2^63)(nm:ByteArray)(hD:mu d s nm=D)(hk:RK h D.1 D.2 k):
 Ct 162 [.agg #[.slice l E v,.slice e f y,.slice p H B,.slice t K C],.zI s,.string nm] h k:=by
 obtain⟨A,hA⟩:=Ar.ex;have vd:=mG T.gi T.mX;have Sb:A .aQ .lss (-1) 0=true:=by rw[aV A];rfl
 have fA:=q.ai.len;refine kh eKj A Tryz.func162 ?_;cbv;refine yU q s (λz jr=>?_);rcases oK T hs jr with⟨rfl,hb⟩|⟨i,w,Q,hw,vB,e1,e2⟩
 .have Y:D=(d,2):=by rw[<-hD];unfold mu;rw[hb];rfl
  subst Y;have R:=hk h l E v e f y p H B t K C (Le.refl _) q;cbv;rw[Sb];cbv;exact R
 have ic:=(HH.1 hw).1;have nP:=T.log w (kQR hw);have V:=hM w (kQR hw);have Y:(match xW w.marks nm w.marks.length with
  |some k=>((⟨ea d.ao (w.log.drop (fP (((w.marks[k]?).map (·.at_)).getD 0) w.log.length)),d.ai.set i ⟨w.s,w.log.take (fP (((w.marks[k]?).map (·.at_)).getD 0) w.log.length),w.marks.take (k+1)⟩,d.holds,d.waits⟩,0):DB×Int)
  |none=>(d,2))=D:=by grind [mu]
 clear hD jr;have aZ:A .aQ .lss z 0=false:=Q.zO (A:=A);have eL:e.isSome=true/\0<=z/\z<(f:Int):=⟨q.ai.bu,Q.ix ip⟩;have dI:=Q.eq;obtain⟨ws,wl,c⟩:=w;have V:c.length<=10/\∀m∈c,∃n:Nat,m.at_=(n:Int)/\n<=wl.length:=V;have nP:(∀x∈wl,vJ d.ao x)/\wl.length<=60:=nP;have Y:(match xW c nm c.length with
  |some k=>((⟨ea d.ao (wl.drop (fP (((c[k]?).map (·.at_)).getD 0) wl.length)),d.ai.set i ⟨ws,wl.take (fP (((c[k]?).map (·.at_)).getD 0) wl.length),c.take (k+1)⟩,d.holds,d.waits⟩,0):DB×Int)
  |none=>(d,2))=D:=Y
 cbv;rw[aZ];cbv;refine⟨eL,?_⟩;cbv;refine q.ai.sJ hw dI (o:=2) (m:=1) dl (λcs r ag=>?_);obtain⟨u1,v1,w1,y1,y2,y3,rfl,ql,L⟩:=r;have L:Sl 340 dw h (.slice y1 y2 y3) c:=L;have sS:=L.len;have aA:=L.bound;have ly:WJ (A .aX .sub .i64 (A .nat y2) 1) y2:=(bg.nat y2).pred ip;obtain⟨J,bH⟩:∃I:Nat->Int->ad->Prop,∀m g h',I m g h'=∃j:Nat,WJ g j/\m=j/\j<=y2/\h'=h/\xW c nm c.length=xW c nm j:=⟨_,λ_ _ _=>rfl⟩;cbv;refine ba.gz (G:=Int) (λg=>[(9,.v (.zI g))]) (λ_=>[(3,[.slice l E v,.slice e f y,.slice p H B,.slice t K C]),(6,[.zN,.zN,.zN,.zN])]) (λm g h'=>J m g h') y2 (A .aX .sub .i64 (A .nat y2) 1) gg ?_
 intro m g h' hJ;rw[bH]at hJ;cbv;obtain⟨j,hg,hm,hj,rfl,F⟩:=hJ;rw[hg.ge (A:=A)];cases j with
 |zero=>
  have F:xW c nm c.length=none:=F;rw[F]at Y;have Y:(d,2)=D:=Y;subst Y;have Cb:A .aQ .lss g 0=true:=by
   have:=hg.eq
   grind
  have R:=hk h' l E v e f y p H B t K C (Le.refl _) q;rw[show decide (1<=0)=false from rfl];cbv;rw[Cb];cbv;exact R
 |succ j=>
  have O:bg g j:=hg.CI;obtain⟨⟨N,M⟩,hx⟩:=cK c j;have Nl:y1.isSome=true/\0<=g/\g<(y2:Int):=⟨L.bu,O.ix ip⟩;have qS:xW c nm (j+1)=if decide (N=nm)=true then some j else xW c nm j:=by
   grind [xW,hx]
  rw[qS]at F;have ao:A .lu .neq N nm= !decide (N=nm):=by have h1:=eV A (a:=N) (b:=nm);rw[hA.lu]at h1 |-;rw[<-h1];rfl
  rw[show decide (1<=j+1)=true from kS ip];cbv;refine⟨eL,?_⟩;cbv;refine ag _ _ (Le.refl _) ?_;cbv;refine⟨Nl,?_⟩;cbv;refine L.cI hx O.eq (o:=0) (m:=1) dl (λcs r=>?_);have r:cs=[.string N,.zI M]:=r;subst r;cbv;rw[ao];generalize decide (N=nm)=u at *;cases u with
  |false=>
   have F:xW c nm c.length=xW c nm j:=F;have P:=O.pred (A:=A) ip;have cm:J j (A .aX .sub .i64 g 1) h':=gg
   cbv;refine zqn j _ ip cm
  |true=>
   have F:xW c nm c.length=some j:=F;rw[F]at Y;have Y:((⟨ea d.ao (wl.drop (fP (((c[j]?).map (·.at_)).getD 0) wl.length)),d.ai.set i ⟨ws,wl.take (fP (((c[j]?).map (·.at_)).getD 0) wl.length),c.take (j+1)⟩,d.holds,d.waits⟩,0):DB×Int)=D:=Y;rw[hx]at Y;obtain⟨n,P,ZD⟩:=V.2 _ (kQR hx);have P:M=(n:Int):=P;have EB:fP M wl.length=min n wl.length:=by unfold fP;rw[P];rfl
   have Y:((⟨ea d.ao (wl.drop (fP M wl.length)),d.ai.set i ⟨ws,wl.take (fP M wl.length),c.take (j+1)⟩,d.holds,d.waits⟩,0):DB×Int)=D:=Y;rw[EB]at Y;have al:bg M n:=⟨P⟩;have Cb:A .aQ .lss g 0=false:=O.zO (A:=A);have Jc:=O.succ (A:=A);have sV:=dJ (A:=A) Jc;have an:(d.ai.set i ⟨ws,wl.take (min n wl.length),c⟩)[i]? =some ⟨ws,wl.take (min n wl.length),c⟩:=kXU ip;have aw:j+1<=c.length:=ip
   have ax:=V.1;clear P;cbv;rw[Cb];cbv;refine⟨eL,?_⟩;cbv;refine ag _ _ (Le.refl _) ?_;cbv;refine⟨Nl,?_⟩;cbv;refine L.cI hx O.eq (o:=1) (m:=1) dl (λcs r=>?_);have r:cs=[.string N,.zI M]:=r;subst r;cbv;refine Rl q T.tw ip hw nP.1 gg Q al (λS f1 p1 g1 f2 p2 g2 f3 p3 g3 f4 p4 g4 l5 U=>?_);have W:RP S f1 p1 g1 f2 p2 g2 f3 p3 g3 f4 p4 g4 ⟨ea d.ao (wl.drop (min n wl.length)),d.ai.set i ⟨ws,wl.take (min n wl.length),c⟩,d.holds,d.waits⟩:=U;clear U;have zT:p2=d.ai.length:=by rw[W.ai.len];grind
   have ab:f2.isSome=true/\0<=z/\z<(p2:Int):=⟨W.ai.bu,Q.ix ip⟩;cbv;refine⟨ab,?_⟩;cbv;refine W.ai.load an dI (λcs r=>?_);obtain⟨u5,v5,w5,t1,t2,t3,rfl,JV,X⟩:=r;have JV:Sl 161 bD S (.slice u5 v5 w5) (wl.take (min n wl.length)):=JV;have X:Sl 340 dw S (.slice t1 t2 t3) c:=X;have Bh:=X.len;have nO:=X.bound;have ak:0<=A .aX .add .i64 g 1/\A .aX .add .i64 g 1<=(t3:Int):=by have:=Jc.eq;omega
   cbv;intro n6 h6 g6 e6;have l6:Le S h6:=zqs e6 g6
   have fO:bA 340 dw S h6 (.slice (zsA n6) 0 0) ([]:List mS):=bA.nil;have aq:j+1<=t2:=ip
   cbv;refine⟨ak,?_⟩;cbv;refine fO.append ((X.mono (l6.t _)).tp (A:=A) (s:=dw) (z:=A .nat t3) aq sV sV) dl rfl dl gg l6 (λm7 b7 c7 h7 Nz l7 t7 k7 iO=>?_);rw[kZA]at iO;have q7:=W.mono l7;cbv;refine oy q7 gg Q gg (JV.mono (l7.t _)) iO.sl (λh8 l E v e f y p H B t K C l8 Z=>?_);have q8:RP h8 l E v e f y p H B t K C ⟨ea d.ao (wl.drop (min n wl.length)),(d.ai.set i ⟨ws,wl.take (min n wl.length),c⟩).set i ⟨ws,wl.take (min n wl.length),c.take (j+1)⟩,d.holds,d.waits⟩:=Z;clear Z;rw[List.set_set]at q8;subst Y;have R:=hk h8 l E v e f y p H B t K C ((l5.trans l7).trans l8) q8;cbv;exact R
def ou(H:List bZ)(a:Int)(w:bZ):List Int:=if w.s=a then(H.filter (eE w)).map (·.s)else []
theorem Uf(E F:List (Int×Int))(a:Int):dv (E++F) a=dv E a++dv F a:=by simp[dv]
theorem aZO(H:List bZ)(a:Int)(w:bZ):dv (jh w H) a=ou H a w:=by
 unfold dv jh ou;rw[List.filter_map,kXS];by_cases h:w.s=a
 .rw[if_pos h];have:(H.filter (eE w)).filter ((λp:Int×Int=>decide (p.1=a)) ∘ λh=>(w.s,h.s))=H.filter (eE w):=by
   rw[List.filter_eq_self]
   grind
  rw[this];rfl
 rw[if_neg h];have:(H.filter (eE w)).filter ((λp:Int×Int=>decide (p.1=a)) ∘ λh=>(w.s,h.s))=[]:=by
  rw[List.filter_eq_nil_iff]
  grind
 grind
theorem vY(H:List bZ)(a:Int):∀W:List bZ,dv (cN H W) a=W.flatMap (ou H a)
 | []=>rfl
 |w::r=>by
  have i:=vY H a r
  grind [dv,jh,cN,Uf,aZO]
theorem Ug(H:List bZ){a:Int}{w:bZ}(h:w.s=a){k:Nat}{x:bZ}(hx:H[k]? =some x):ou (H.take (k+1)) a w=ou (H.take k) a w++if eE w x=true then [x.s]else []:=by
 unfold ou;rw[if_pos h,if_pos h,kJG,hx,kXP,kXQ]
 grind
end Go.S
