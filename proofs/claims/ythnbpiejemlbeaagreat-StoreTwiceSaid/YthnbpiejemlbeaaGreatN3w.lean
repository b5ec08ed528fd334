import Derived.Test.YthnbpiejemlbeaaGreatNA
import Derived.Test.YthnbpiejemlbeaaGreatSxC
set_option linter.all false
set_option maxRecDepth 100000
set_option maxHeartbeats 16000000
namespace Go.S
open Go.Sx Go.Proofs
inductive lV(se:Int)(d:DB):DB->Prop
 |begin:lV se d (iY d se).1
 |hold (nm:ByteArray) (x:Bool):lV se d (cA d ⟨se,nm,x⟩).1
 |put (nm:ByteArray) (tz:nm≠yX) {r:Row} (hr:fY r\/r.length≠2):lV se d (px d se nm r).1
 |take (nm:ByteArray) (tz:nm≠yX) (a:Int):lV se d (mE d se nm ⟨2,a,dZ⟩).1
 |rows (nm:ByteArray):lV se d (rj d se nm).1
 |save (nm:ByteArray):lV se d (lh d se nm).1
 |back (nm:ByteArray):lV se d (mq d se nm).1
 |ER:lV se d (cN d se).1
theorem Wp{t:Nat}(h:t<3):(aP t).name≠yX:=by rcases three h with rfl|rfl|rfl<;>decide
theorem dJR{n:Nat}{d:DB}{h:ad}{b1 b2 b3 b4 e1 e2 e3 e4:Option Addr}{n1 c1 n2 c2 n3 c3 n4 c4 m1 f1 m2 f2 m3 f3 m4 f4:Nat}(q:fE h (.agg #[.slice b1 n1 c1,.slice b2 n2 c2,.slice b3 n3 c3,.slice b4 n4 c4]) d)(p:RP h e1 m1 f1 e2 m2 f2 e3 m3 f3 e4 m4 f4 d)(J:SJ n d)(hn:n<=2^15)
 (kk s t nn:Int) (x:Bool) (Bv:(kk % ((15:Nat):Int)).toNat≠11/\(kk % ((15:Nat):Int)).toNat≠13/\(kk % ((15:Nat):Int)).toNat≠14) (hs:-2^63<=s/\s<2^63) (rW:-2^63<=nn/\nn<2^63) {k:Value->ad->Prop}
 (hk:∀h' vO W vL S V Q vN U Z vM T Y M C B L m E K F H P j o b c,Le h h'->fE h' (.agg #[.slice vO W vL,.slice S V Q,.slice vN U Z,.slice vM T Y]) b->RP h' M C B L m E K F H P j o b->SJ (n+1) b->(-2^63<=c/\c<2^63)->lV c d b->k (.tuple #[.agg #[.slice vO W vL,.slice S V Q,.slice vN U Z,.slice vM T Y],.agg #[.slice M C B,.slice L m E,.slice K F H,.slice P j o],.bool true]) h'):
 Ct 65 [.agg #[.int .i64 kk,.int .i64 s,.int .i64 t,.int .i64 nn,.bool x],.agg #[.slice b1 n1 c1,.slice b2 n2 c2,.slice b3 n3 c3,.slice b4 n4 c4],.agg #[.slice e1 m1 f1,.slice e2 m2 f2,.slice e3 m3 f3,.slice e4 m4 f4]] h k:=by
 obtain⟨A,hA⟩:=Ar.ex;have lD:=J.aQA;have ag:SI d:=J.sc.si lD (by omega);have iV:=lD.small (by omega);obtain⟨I1,jU⟩:∃I:Int->ad->Prop,∀g h',I g h'=(h'=h/\(-2^63<=g/\g<2^63)/\(0<=s/\s<3->g=s)):=⟨_,λ_ _=>rfl⟩;refine Cq A [false,false,true,false,false,true,false,false,false,false,true] (aj hJR.aw hJR.bq) Tryz.func65 rfl (by kernel_rfl) ?_;cbv;refine zX s 4 (by omega) (by omega) h (λz9 i9 aH aG aW=>?_);cbv;refine ld.go (G:=Int) (λg=>[(9,.v (.int .i64 g))]) (λ_=>[(3,[.int .i64 kk,.int .i64 s,.int .i64 t,.int .i64 nn,.bool x]),(4,[.slice b1 n1 c1,.slice b2 n2 c2,.slice b3 n3 c3,.slice b4 n4 c4]),(5,[.slice e1 m1 f1,.slice e2 m2 f2,.slice e3 m3 f3,.slice e4 m4 f4]),(6,[.slice none 0 0,.slice none 0 0,.slice none 0 0,.slice none 0 0]),(7,[.slice none 0 0,.slice none 0 0,.slice none 0 0,.slice none 0 0])]) I1 ?_ ?_
 .obtain⟨u,hu⟩:∃u,A .aN .eql (A .aT .rem .i64 s 31) 30=u:=⟨_,rfl⟩;have aU:A .aT .rem .i64 s 31=s.tmod 31:=by rw[hA.aT];rfl
  have XR:u=true->¬(0<=s/\s<3):=λe hh=>by
   rw[e,au A,aU]at hu;have:=lA hu;rw[jKU hh.1]at this;omega
  have br:=aH.eq;have Me:I1 z9 h:=by
   rw[jU];refine⟨rfl,by omega,λhh=>?_⟩;have:s % ((4:Nat):Int)=s:=by omega
   rw[this]at aG;omega
  have YO:u=true->I1 s h:=λe=>by rw[jU];exact⟨rfl,hs,λhh=>absurd hh (XR e)⟩
  clear jU;cbv;refine⟨by decide,?_⟩;cbv;rw[hu];cases u with
  |true=>
   have YO:=YO rfl;cbv;refine⟨s,by constructor<;>cbv,YO⟩
  |false=>
   cbv;refine⟨z9,by constructor<;>cbv,Me⟩
 intro c h' hI;rw[jU]at hI;clear aH aG aW;cbv;obtain⟨rfl,rF,bq⟩:=hI;clear jU;refine zX t 3 (by omega) (by omega) h' (λzt tt tX bx al=>?_);cbv;refine Ai (z:=zt) (t:=tt) tX al h' (λh5 bk bd bj ax o5 l5 aq aI Qi=>?_);obtain⟨I2,jT⟩:∃I:ByteArray->ad->Prop,∀g h2,I g h2=(Le h' h2/\g≠yX):=⟨_,λ_ _=>rfl⟩;have Me:∀nm,nm≠yX->I2 nm h5:=λnm qE=>by rw[jT];exact⟨l5,qE⟩
 have aF:ax≠yX:=by rw[aq];exact Wp al
 cbv;refine ld.go (G:=ByteArray) (λg=>[(11,.v (.string g))]) (λ_=>[(3,[.int .i64 kk,.int .i64 s,.int .i64 t,.int .i64 nn,.bool x]),(4,[.slice b1 n1 c1,.slice b2 n2 c2,.slice b3 n3 c3,.slice b4 n4 c4]),(5,[.slice e1 m1 f1,.slice e2 m2 f2,.slice e3 m3 f3,.slice e4 m4 f4]),(6,[.slice none 0 0,.slice none 0 0,.slice none 0 0,.slice none 0 0]),(7,[.slice none 0 0,.slice none 0 0,.slice none 0 0,.slice none 0 0])]) I2 ?_ ?_
 .obtain⟨u,hu⟩:∃u,A .aN .eql (A .aT .rem .i64 t 31) 30=u:=⟨_,rfl⟩;clear jT;cbv;refine⟨by decide,?_⟩;cbv;rw[hu];cases u with
  |true=>
   cbv;refine⟨⟨#[110,111,110,101]⟩,by constructor<;>cbv,Me _ (by decide)⟩
  |false=>
   cbv;refine⟨ax,by constructor<;>cbv,Me _ aF⟩
 intro nm h2 hI;rw[jT]at hI;cbv;obtain⟨hI,tz⟩:=hI;clear jT Me l5 Qi aq aI aF;intro n6 h6 g6 e6;have l6:Le h2 h6:=by rw[e6];exact Le.set g6
 have f6:=(congrFun e6 n6).trans ae;have s6:Sl 9 oY h6 (.slice (zsA n6) 3 3) [⟨#[109]⟩,⟨#[110]⟩,⟨#[111,114]⟩]:=ke (s:=oY) rfl f6 (x:=⟨#[109]⟩) (y:=⟨#[110]⟩) (w:=⟨#[111,114]⟩) rfl rfl rfl;cbv;refine zX nn 3 (by omega) (by omega) h6 (λzm im aB Tq aE=>?_);obtain⟨mk,Kf⟩:=aJ (xs:=[(⟨#[109]⟩:ByteArray),⟨#[110]⟩,⟨#[111,114]⟩]) (i:=im) aE;have Mb:(0:Int)<=zm/\zm<((3:Nat):Int):=aB.ix aE;have aD:=aB.eq;cbv;refine⟨⟨rfl,Mb⟩,?_⟩;cbv;refine s6.load Kf aD (λcs ar=>?_);have ar:cs=[.string mk]:=ar;subst ar;clear Kf aD Mb s6;cbv;refine Ai (z:=zt) (t:=tt) tX al h6 (λh5 bk bd bj ax o5 l5 aq aI Qi=>?_);cbv;refine bXP Qi (by simp[bG]) nn rW (λh7 rb rn rc l7 iF=>?_);have DO:fY (AU bG nn bG.length):=cXz nn;have qr:=iF.sl;generalize AU bG nn bG.length=r at DO qr;have tq:r.length=2:=by obtain⟨a,v,rfl,-⟩:=DO;rfl
 have tu:∃ra,r[0]? =some ⟨2,ra,dZ⟩:=by obtain⟨a,v,rfl,-⟩:=DO;exact⟨a,rfl⟩
 obtain⟨ra,tu⟩:=tu;have AH:rn=2:=by rw[qr.len,tq]
 have f:Le h' h7:=((hI.trans l6).trans l5).trans l7;clear iF hI l6 l5 l7 Qi;obtain⟨I3,AP⟩:∃I:G4×G4×Int->ad->Prop,∀g h2,I g h2=∃b,Le h' h2/\fE h2 (.agg #[.slice g.1.b1 g.1.n1 g.1.c1,.slice g.1.b2 g.1.n2 g.1.c2,.slice g.1.b3 g.1.n3 g.1.c3,.slice g.1.b4 g.1.n4 g.1.c4]) b/\RP h2 g.2.1.b1 g.2.1.n1 g.2.1.c1 g.2.1.b2 g.2.1.n2 g.2.1.c2 g.2.1.b3 g.2.1.n3 g.2.1.c3 g.2.1.b4 g.2.1.n4 g.2.1.c4 b/\SJ (n+1) b/\lV c d b:=⟨_,λ_ _=>rfl⟩;have lI:∀hL vO W vL S V Q vN U Z vM T Y M C B L m E K F H P j o e b,Le h' hL->fE hL (.agg #[.slice vO W vL,.slice S V Q,.slice vN U Z,.slice vM T Y]) b->RP hL M C B L m E K F H P j o b->SJ (n+1) b->lV c d b->I3 (⟨vO,W,vL,S,V,Q,vN,U,Z,vM,T,Y⟩,⟨M,C,B,L,m,E,K,F,H,P,j,o⟩,e) hL:=λhL vO W vL S V Q vN U Z vM T Y M C B L m E K F H P j o e b a1 a2 a3 a4 a5=>by rw[AP];exact⟨b,a1,a2,a3,a4,a5⟩
 cbv;refine ld.jQI (G:=G4×G4×Int) 288 (λg=>[(4,.loc 4 0),(5,.loc 5 0),(6,.loc 6 0),(7,.loc 7 0),(14,.v (.int .i64 g.2.2)),(15,.v (.int .i64 g.2.2)),(16,.v (.bool true))]) (λg=>[(3,[.int .i64 kk,.int .i64 s,.int .i64 t,.int .i64 nn,.bool x]),(4,[.slice g.1.b1 g.1.n1 g.1.c1,.slice g.1.b2 g.1.n2 g.1.c2,.slice g.1.b3 g.1.n3 g.1.c3,.slice g.1.b4 g.1.n4 g.1.c4]),(5,[.slice g.2.1.b1 g.2.1.n1 g.2.1.c1,.slice g.2.1.b2 g.2.1.n2 g.2.1.c2,.slice g.2.1.b3 g.2.1.n3 g.2.1.c3,.slice g.2.1.b4 g.2.1.n4 g.2.1.c4]),(6,[.slice none 0 0,.slice none 0 0,.slice none 0 0,.slice none 0 0]),(7,[.slice none 0 0,.slice none 0 0,.slice none 0 0,.slice none 0 0])]) I3 ?_ ?_
 .clear AP hk;refine zX kk 15 (by omega) (by omega) h7 (λzk ik Oq aC YA=>?_);have aM:=Oq.eq;have FM:zk=0\/zk=1\/(zk=2\/zk=3\/zk=4\/zk=5)\/(zk=6\/zk=7)\/zk=8\/zk=9\/zk=10\/zk=12:=by rw[<-aC]at Bv;omega
  clear Oq aM aC YA Bv;rcases FM with rfl|rfl|FM|FM|rfl|rfl|rfl|rfl
  .skip;cbv;repeat (rw[au A];cbv)
   obtain⟨⟨b,e⟩,D⟩:∃X,iY d c=X:=⟨_,rfl⟩;have LM:SJ (n+1) b:=by have:=(Wj J (by omega) c).le (show n<=n+1 by omega);rw[D]at this;exact this
   have fT:lV c d b:=by have:lV c d (iY d c).1:=.begin;rw[D]at this;exact this
   refine ZI (q.mono f) c iV D (λhP vO W vL S V Q vN U Z vM T Y l O=>?_);have O:fE hP _ b:=O;have l:=f.trans l;cbv;refine aKs (p.mono l) ag c rF D (λhL M C B L m E K F H P j o lR N=>?_);have N:RP hL M C B L m E K F H P j o b:=N;have qL:=O.mono lR;have lL:=l.trans lR;have hI:=lI hL vO W vL S V Q vN U Z vM T Y M C B L m E K F H P j o e b lL qL N LM fT;clear lI;cbv;refine⟨(⟨vO,W,vL,S,V,Q,vN,U,Z,vM,T,Y⟩,⟨M,C,B,L,m,E,K,F,H,P,j,o⟩,e),by constructor<;>cbv,hI⟩
  .skip;cbv;repeat (rw[au A];cbv)
   obtain⟨⟨b,e⟩,D⟩:∃X,cA d ⟨c,nm,x⟩=X:=⟨_,rfl⟩;have LM:SJ (n+1) b:=by have:=DE J ⟨c,nm,x⟩ rF;rw[D]at this;exact this
   have fT:lV c d b:=by have:lV c d (cA d ⟨c,nm,x⟩).1:=.hold nm x;rw[D]at this;exact this
   refine QF (q.mono f) lD (by omega) c nm x D (λhP vO W vL S V Q vN U Z vM T Y l O=>?_);have O:fE hP _ b:=O;have l:=f.trans l;cbv;refine Jr (p.mono l) J.sc lD (by omega) ⟨c,nm,x⟩ rF D (λhL M C B L m E K F H P j o lR N=>?_);have N:RP hL M C B L m E K F H P j o b:=N;have qL:=O.mono lR;have lL:=l.trans lR;have hI:=lI hL vO W vL S V Q vN U Z vM T Y M C B L m E K F H P j o e b lL qL N LM fT;clear lI;cbv;refine⟨(⟨vO,W,vL,S,V,Q,vN,U,Z,vM,T,Y⟩,⟨M,C,B,L,m,E,K,F,H,P,j,o⟩,e),by constructor<;>cbv,hI⟩
  .rcases FM with rfl|rfl|rfl|rfl
   all_goals
    cbv;repeat (rw[au A];cbv)
    have aw:∃u,A .aN .eql (A .aT .rem .i64 nn 13) 12=u:=⟨_,rfl⟩;obtain⟨bc,aw⟩:=aw;refine⟨by decide,?_⟩;cbv;rw[aw];cases bc with
    |false=>
     have dP:fY r\/r.length≠2:=.inl DO;have ab:=qr;cbv;intro n8 h8 g8 e8;have l8:Le h7 h8:=by rw[e8];exact Le.set g8
     have fB:bt 45 bA h7 h8 (.slice (zsA n8) 0 0) ([]:Row):=bt.nil;have ao:=ab.mono (l8.t [45]);cbv;refine fB.append ao (by decide) rfl (by decide) (by have:=ab.len;have:=ab.bound;omega) l8 (λm9 b9 c9 h9 aK l9 t9 k9 uS=>?_);rw[np]at uS;have f:=f.trans l9;have an:=ab.mono (l9.t [45]);cbv;obtain⟨⟨b,e⟩,D⟩:∃X,px d c nm r=X:=⟨_,rfl⟩;have LM:SJ (n+1) b:=by have:=Wh J c nm tz rF dP;rw[D]at this;exact this
     have fT:lV c d b:=by have:lV c d (px d c nm r).1:=.put nm tz dP;rw[D]at this;exact this
     refine WZ (q.mono f) lD (by omega) c rF nm uS.sl D (λhP vO W vL S V Q vN U Z vM T Y l O=>?_);have O:fE hP _ b:=O;have aA:=l;have l:=f.trans l;cbv;refine bQJ (p.mono l) J.sc lD (by omega) c nm tz rF (an.mono (aA.t _)) dP D (λhL M C B L m E K F H P j o lR N=>?_);have N:RP hL M C B L m E K F H P j o b:=N;have qL:=O.mono lR;have lL:=l.trans lR;have hI:=lI hL vO W vL S V Q vN U Z vM T Y M C B L m E K F H P j o e b lL qL N LM fT;clear lI;cbv;refine⟨(⟨vO,W,vL,S,V,Q,vN,U,Z,vM,T,Y⟩,⟨M,C,B,L,m,E,K,F,H,P,j,o⟩,e),by constructor<;>cbv,hI⟩
    |true=>
     have mC:(0:Int)<=1/\(1:Int)<=(rc:Int):=by have:=qr.bound;have:=qr.len;omega
     have dP:fY (r.take 1)\/(r.take 1).length≠2:=.inr (by rw[eA];omega);have rZ:A .nt 1 0=1:=by rw[hA.nt];rfl
     have ab:Sl 45 bA h7 (.slice (A .cut rb 0 (A .nat rc) 3) (A .nt 1 0) rc) (r.take 1):=by rw[rZ];exact qr.Ht (A:=A) (i:=1) (by omega)
     cbv;refine⟨mC,?_⟩;cbv;intro n8 h8 g8 e8;have l8:Le h7 h8:=by rw[e8];exact Le.set g8
     have fB:bt 45 bA h7 h8 (.slice (zsA n8) 0 0) ([]:Row):=bt.nil;have ao:=ab.mono (l8.t [45]);cbv;refine fB.append ao (by decide) rfl (by decide) (by have:=ab.len;have:=ab.bound;omega) l8 (λm9 b9 c9 h9 aK l9 t9 k9 uS=>?_);rw[np]at uS;have f:=f.trans l9;have an:=ab.mono (l9.t [45]);cbv;obtain⟨⟨b,e⟩,D⟩:∃X,px d c nm (r.take 1)=X:=⟨_,rfl⟩;have LM:SJ (n+1) b:=by have:=Wh J c nm tz rF dP;rw[D]at this;exact this
     have fT:lV c d b:=by have:lV c d (px d c nm (r.take 1)).1:=.put nm tz dP;rw[D]at this;exact this
     refine WZ (q.mono f) lD (by omega) c rF nm uS.sl D (λhP vO W vL S V Q vN U Z vM T Y l O=>?_);have O:fE hP _ b:=O;have aA:=l;have l:=f.trans l;cbv;refine bQJ (p.mono l) J.sc lD (by omega) c nm tz rF (an.mono (aA.t _)) dP D (λhL M C B L m E K F H P j o lR N=>?_);have N:RP hL M C B L m E K F H P j o b:=N;have qL:=O.mono lR;have lL:=l.trans lR;have hI:=lI hL vO W vL S V Q vN U Z vM T Y M C B L m E K F H P j o e b lL qL N LM fT;clear lI;cbv;refine⟨(⟨vO,W,vL,S,V,Q,vN,U,Z,vM,T,Y⟩,⟨M,C,B,L,m,E,K,F,H,P,j,o⟩,e),by constructor<;>cbv,hI⟩
  .rcases FM with rfl|rfl
   all_goals
    cbv;repeat (rw[au A];cbv)
    have GU:rb.isSome=true/\(0:Int)<=0/\(0:Int)<(rn:Int):=⟨qr.bp,by omega,by omega⟩;have bB:=qr;cbv;refine⟨GU,?_⟩;cbv;refine qr.load (x:=⟨2,ra,dZ⟩) tu (n:=0) rfl (λcs ar=>?_);have ar:cs=[.int .i64 2,.int .i64 ra,.string dZ]:=ar;subst ar;cbv;obtain⟨⟨b,e⟩,D⟩:∃X,mE d c nm ⟨2,ra,dZ⟩=X:=⟨_,rfl⟩;have LM:SJ (n+1) b:=by have:=aXy J c nm tz ra rF;rw[D]at this;exact this
    have fT:lV c d b:=by have:lV c d (mE d c nm ⟨2,ra,dZ⟩).1:=.take nm tz ra;rw[D]at this;exact this
    refine aXq (q.mono f) lD (by omega) c rF nm ⟨2,ra,dZ⟩ D (λhP vO W vL S V Q vN U Z vM T Y l O=>?_);have O:fE hP _ b:=O;have bl:=qr.mono (l.t [45]);have l:=f.trans l;cbv;refine⟨GU,?_⟩;cbv;refine bl.load (x:=⟨2,ra,dZ⟩) tu (n:=0) rfl (λcs ar=>?_);have ar:cs=[.int .i64 2,.int .i64 ra,.string dZ]:=ar;subst ar;cbv;refine bZH (p.mono l) J.sc lD (by omega) c nm tz ra rF D (λhL M C B L m E K F H P j o lR N=>?_);have N:RP hL M C B L m E K F H P j o b:=N;have qL:=O.mono lR;have lL:=l.trans lR;have hI:=lI hL vO W vL S V Q vN U Z vM T Y M C B L m E K F H P j o e b lL qL N LM fT;clear lI;cbv;refine⟨(⟨vO,W,vL,S,V,Q,vN,U,Z,vM,T,Y⟩,⟨M,C,B,L,m,E,K,F,H,P,j,o⟩,e),by constructor<;>cbv,hI⟩
  .skip;cbv;repeat (rw[au A];cbv)
   obtain⟨⟨b,R,e⟩,D⟩:∃X,rj d c nm=X:=⟨_,rfl⟩;have LM:SJ (n+1) b:=by have:=aXA J c nm rF;rw[D]at this;exact this
   have fT:lV c d b:=by have:lV c d (rj d c nm).1:=.rows nm;rw[D]at this;exact this
   refine aXU (q.mono f) lD (by omega) c rF nm D (λhP vO W vL S V Q vN U Z vM T Y xb xn xc l O sP=>?_);have O:fE hP _ b:=O;have sP:Sl 46 bF hP (.slice xb xn xc) R:=sP;have l:=f.trans l;cbv;refine bJb (p.mono l) J.sc lD (by omega) c nm tz rF D (λhL M C B L m E K F H P j o yb yn yc lR N sR=>?_);have N:RP hL M C B L m E K F H P j o b:=N;have sR:Sl 46 bF hL (.slice yb yn yc) R:=sR;have qL:=O.mono lR;have lL:=l.trans lR;cbv;refine bJc (sP.mono (lR.t _)) sR ?_;have hI:=lI hL vO W vL S V Q vN U Z vM T Y M C B L m E K F H P j o e b lL qL N LM fT;clear lI;cbv;refine⟨⟨_,rfl,rfl⟩,?_⟩;cbv;refine⟨(⟨vO,W,vL,S,V,Q,vN,U,Z,vM,T,Y⟩,⟨M,C,B,L,m,E,K,F,H,P,j,o⟩,e),by constructor<;>cbv,hI⟩
  .skip;cbv;repeat (rw[au A];cbv)
   obtain⟨⟨b,e⟩,D⟩:∃X,lh d c mk=X:=⟨_,rfl⟩;have LM:SJ (n+1) b:=by have:=(aXz J c mk rF).le (show n<=n+1 by omega);rw[D]at this;exact this
   have fT:lV c d b:=by have:lV c d (lh d c mk).1:=.save mk;rw[D]at this;exact this
   refine aXO (q.mono f) c mk D (λhP vO W vL S V Q vN U Z vM T Y l O=>?_);have O:fE hP _ b:=O;have l:=f.trans l;cbv;refine bZS (p.mono l) ag c rF mk D (λhL M C B L m E K F H P j o lR N=>?_);have N:RP hL M C B L m E K F H P j o b:=N;have qL:=O.mono lR;have lL:=l.trans lR;have hI:=lI hL vO W vL S V Q vN U Z vM T Y M C B L m E K F H P j o e b lL qL N LM fT;clear lI;cbv;refine⟨(⟨vO,W,vL,S,V,Q,vN,U,Z,vM,T,Y⟩,⟨M,C,B,L,m,E,K,F,H,P,j,o⟩,e),by constructor<;>cbv,hI⟩
  .skip;cbv;repeat (rw[au A];cbv)
   obtain⟨⟨b,e⟩,D⟩:∃X,mq d c mk=X:=⟨_,rfl⟩;have LM:SJ (n+1) b:=by have:=(aXC J c mk rF).le (show n<=n+1 by omega);rw[D]at this;exact this
   have fT:lV c d b:=by have:lV c d (mq d c mk).1:=.back mk;rw[D]at this;exact this
   refine aKw (q.mono f) lD c mk D (λhP vO W vL S V Q vN U Z vM T Y l O=>?_);have O:fE hP _ b:=O;have l:=f.trans l;cbv;refine cZf (p.mono l) ag J.sc.Oa c rF mk D (λhL M C B L m E K F H P j o lR N=>?_);have N:RP hL M C B L m E K F H P j o b:=N;have qL:=O.mono lR;have lL:=l.trans lR;have hI:=lI hL vO W vL S V Q vN U Z vM T Y M C B L m E K F H P j o e b lL qL N LM fT;clear lI;cbv;refine⟨(⟨vO,W,vL,S,V,Q,vN,U,Z,vM,T,Y⟩,⟨M,C,B,L,m,E,K,F,H,P,j,o⟩,e),by constructor<;>cbv,hI⟩
  skip;cbv;repeat (rw[au A];cbv)
  obtain⟨⟨b,e⟩,D⟩:∃X,cN d c=X:=⟨_,rfl⟩;have LM:SJ (n+1) b:=by have:=(Wi J rF).le (show n<=n+1 by omega);rw[D]at this;exact this
  have fT:lV c d b:=by have:lV c d (cN d c).1:=.ER;rw[D]at this;exact this
  refine CK (q.mono f) lD (by omega) c D (λhP vO W vL S V Q vN U Z vM T Y l O=>?_);have O:fE hP _ b:=O;have l:=f.trans l;cbv;refine yU (p.mono l) ag c rF D (λhL M C B L m E K F H P j o lR N=>?_);have N:RP hL M C B L m E K F H P j o b:=N;have qL:=O.mono lR;have lL:=l.trans lR;have hI:=lI hL vO W vL S V Q vN U Z vM T Y M C B L m E K F H P j o e b lL qL N LM fT;clear lI;cbv;refine⟨(⟨vO,W,vL,S,V,Q,vN,U,Z,vM,T,Y⟩,⟨M,C,B,L,m,E,K,F,H,P,j,o⟩,e),by constructor<;>cbv,hI⟩
 intro g h2 hI;rw[AP]at hI;clear AP lI;obtain⟨⟨vO,W,vL,S,V,Q,vN,U,Z,vM,T,Y⟩,⟨M,C,B,L,m,E,K,F,H,P,j,o⟩,e⟩:=g;obtain⟨b,a1,a2,a3,a4,a5⟩:=hI;have ay:=hk h2 vO W vL S V Q vN U Z vM T Y M C B L m E K F H P j o b c a1 a2 a3 a4 rF a5;have bo:A .aN .eql e e=true:=by rw[au A];simp
 clear hk;cbv;rw[bo];cbv;refine⟨⟨_,rfl,rfl⟩,?_⟩;cbv;exact ay
end Go.S
