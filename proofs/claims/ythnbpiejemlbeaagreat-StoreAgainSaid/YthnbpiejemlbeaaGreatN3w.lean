import Derived.Test.YthnbpiejemlbeaaGreatNA
import Derived.Test.YthnbpiejemlbeaaGreatSxC
set_option linter.all false
set_option maxRecDepth 100000
set_option maxHeartbeats 16000000
namespace Go.S
open Go.Sx Go.Proofs
inductive lV(se:Int)(d:DB):DB->Prop
 |begin:lV se d (iP d se).1
 |hold (nm:ByteArray) (x:Bool):lV se d (cC d ⟨se,nm,x⟩).1
 |put (nm:ByteArray) (rC:nm≠tG) {r:Row} (hr:gC r\/r.length≠2):lV se d (oN d se nm r).1
 |take (nm:ByteArray) (rC:nm≠tG) (a:Int):lV se d (lZ d se nm ⟨2,a,dQ⟩).1
 |rows (nm:ByteArray):lV se d (qI d se nm).1
 |save (nm:ByteArray):lV se d (kX d se nm).1
 |back (nm:ByteArray):lV se d (mu d se nm).1
 |tz:lV se d (cA d se).1
theorem XS{t:Nat}(h:t<3):(aS t).name≠tG:=by rcases three h with rfl|rfl|rfl<;>decide
theorem bJp{n:Nat}{d:DB}{h:ad}{b1 b2 b3 b4 e1 e2 e3 e4:Option Addr}{n1 c1 n2 c2 n3 c3 n4 c4 m1 f1 m2 f2 m3 f3 m4 f4:Nat}(q:fD h (.agg #[.slice b1 n1 c1,.slice b2 n2 c2,.slice b3 n3 c3,.slice b4 n4 c4]) d)(p:RP h e1 m1 f1 e2 m2 f2 e3 m3 f3 e4 m4 f4 d)(J:SJ n d)(hn:n<=2^15)
 (kk s t nn:Int) (x:Bool) (Ca:(kk % ((15:Nat):Int)).toNat≠11/\(kk % ((15:Nat):Int)).toNat≠13/\(kk % ((15:Nat):Int)).toNat≠14) (hs:-2^63<=s/\s<2^63) (sQ:-2^63<=nn/\nn<2^63) {k:Value->ad->Prop}
 (hk:∀h' wN S V N Q M wK O U W wz T K D F H C E Z B Y m o j b c,Le h h'->fD h' (.agg #[.slice wN S V,.slice N Q M,.slice wK O U,.slice W wz T]) b->RP h' K D F H C E Z B Y m o j b->SJ (n+1) b->(-2^63<=c/\c<2^63)->lV c d b->k (.tuple #[.agg #[.slice wN S V,.slice N Q M,.slice wK O U,.slice W wz T],.agg #[.slice K D F,.slice H C E,.slice Z B Y,.slice m o j],.bool true]) h'):
 Ct 65 [.agg #[.zI kk,.zI s,.zI t,.zI nn,.bool x],.agg #[.slice b1 n1 c1,.slice b2 n2 c2,.slice b3 n3 c3,.slice b4 n4 c4],.agg #[.slice e1 m1 f1,.slice e2 m2 f2,.slice e3 m3 f3,.slice e4 m4 f4]] h k:=by
 obtain⟨A,hA⟩:=Ar.ex;have jD:=J.RX;have ag:SI d:=J.sc.si jD ip;have iK:=jD.small ip;obtain⟨I1,kM⟩:∃I:Int->ad->Prop,∀g h',I g h'=(h'=h/\(-2^63<=g/\g<2^63)/\(0<=s/\s<3->g=s)):=⟨_,λ_ _=>rfl⟩;refine CY A [false,false,true,false,false,true,false,false,false,false,true] (aj iQz.aw iQz.bz) Tryz.func65 rfl (by kernel_rfl) ?_;cbv;refine Az s 4 ip ip h (λz9 i9 aG aK aI=>?_);cbv;refine kK.go (G:=Int) (λg=>[(9,.v (.zI g))]) (λ_=>[(3,[.zI kk,.zI s,.zI t,.zI nn,.bool x]),(4,[.slice b1 n1 c1,.slice b2 n2 c2,.slice b3 n3 c3,.slice b4 n4 c4]),(5,[.slice e1 m1 f1,.slice e2 m2 f2,.slice e3 m3 f3,.slice e4 m4 f4]),(6,[.zN,.zN,.zN,.zN]),(7,[.zN,.zN,.zN,.zN])]) I1 ?_ ?_
 .obtain⟨u,hu⟩:∃u,A .aQ .eql (A .aX .rem .i64 s 31) 30=u:=⟨_,rfl⟩;have aL:A .aX .rem .i64 s 31=s.tmod 31:=by rw[hA.aX];rfl
  have Zr:u=true->¬(0<=s/\s<3):=λe hh=>by
   rw[e,au A,aL]at hu
   grind
  have bk:=aG.eq;have No:I1 z9 h:=by
   grind
  have al:u=true->I1 s h:=λe=>gg
  clear kM;cbv;refine⟨dl,?_⟩;cbv;rw[hu];cases u with
  |true=>
   have al:=al rfl;cbv;refine zqc s al
  |false=>
   cbv;refine zqc z9 No
 intro c h' hI;rw[kM]at hI;clear aG aK aI;cbv;obtain⟨rfl,pQ,bj⟩:=hI;clear kM;refine Az t 3 ip ip h' (λzt tt uK bn ak=>?_);cbv;refine AL (z:=zt) (t:=tt) uK ak h' (λh5 aZ aO aW aA o5 l5 aq aF RJ=>?_);obtain⟨I2,kL⟩:∃I:ByteArray->ad->Prop,∀g h2,I g h2=(Le h' h2/\g≠tG):=⟨_,λ_ _=>rfl⟩;have No:∀nm,nm≠tG->I2 nm h5:=λnm nG=>gg
 have aC:aA≠tG:=by rw[aq];exact XS ak
 cbv;refine kK.go (G:=ByteArray) (λg=>[(11,.v (.string g))]) (λ_=>[(3,[.zI kk,.zI s,.zI t,.zI nn,.bool x]),(4,[.slice b1 n1 c1,.slice b2 n2 c2,.slice b3 n3 c3,.slice b4 n4 c4]),(5,[.slice e1 m1 f1,.slice e2 m2 f2,.slice e3 m3 f3,.slice e4 m4 f4]),(6,[.zN,.zN,.zN,.zN]),(7,[.zN,.zN,.zN,.zN])]) I2 ?_ ?_
 .obtain⟨u,hu⟩:∃u,A .aQ .eql (A .aX .rem .i64 t 31) 30=u:=⟨_,rfl⟩;clear kL;cbv;refine⟨dl,?_⟩;cbv;rw[hu];cases u with
  |true=>
   cbv;refine zqc ⟨#[110,111,110,101]⟩ (No _ dl)
  |false=>
   cbv;refine zqc aA (No _ aC)
 intro nm h2 hI;rw[kL]at hI;cbv;obtain⟨hI,rC⟩:=hI;clear kL No l5 RJ aq aF aC;intro n6 h6 g6 e6;have l6:Le h2 h6:=zqs e6 g6
 have f6:=zqt e6;have s6:Sl 9 ma h6 (.slice (zsA n6) 3 3) [⟨#[109]⟩,⟨#[110]⟩,⟨#[111,114]⟩]:=gT (s:=ma) rfl f6 (x:=⟨#[109]⟩) (y:=⟨#[110]⟩) (w:=⟨#[111,114]⟩) rfl rfl rfl;cbv;refine Az nn 3 ip ip h6 (λzm im aB UY aD=>?_);obtain⟨mk,Ld⟩:=ay (xs:=[(⟨#[109]⟩:ByteArray),⟨#[110]⟩,⟨#[111,114]⟩]) (i:=im) aD;have Nl:(0:Int)<=zm/\zm<((3:Nat):Int):=aB.ix aD;have aE:=aB.eq;cbv;refine⟨⟨rfl,Nl⟩,?_⟩;cbv;refine s6.load Ld aE (λcs ar=>?_);have ar:cs=[.string mk]:=ar;subst ar;clear Ld aE Nl s6;cbv;refine AL (z:=zt) (t:=tt) uK ak h6 (λh5 aZ aO aW aA o5 l5 aq aF RJ=>?_);cbv;refine bJj RJ (by simp[bI]) nn sQ (λh7 rb rn rc l7 iO=>?_);have CL:gC (BB bI nn bI.length):=cJf nn;have qr:=iO.sl;generalize BB bI nn bI.length=r at CL qr;have uf:r.length=2:=by obtain⟨a,v,rfl,-⟩:=CL;rfl
 have uh:∃ra,r[0]? =some ⟨2,ra,dQ⟩:=by obtain⟨a,v,rfl,-⟩:=CL;grind
 obtain⟨ra,uh⟩:=uh;have Bj:rn=2:=by rw[qr.len,uf]
 have f:Le h' h7:=((hI.trans l6).trans l5).trans l7;clear iO hI l6 l5 l7 RJ;obtain⟨I3,Bv⟩:∃I:G4×G4×Int->ad->Prop,∀g h2,I g h2=∃b,Le h' h2/\fD h2 (.agg #[.slice g.1.b1 g.1.n1 g.1.c1,.slice g.1.b2 g.1.n2 g.1.c2,.slice g.1.b3 g.1.n3 g.1.c3,.slice g.1.b4 g.1.n4 g.1.c4]) b/\RP h2 g.2.1.b1 g.2.1.n1 g.2.1.c1 g.2.1.b2 g.2.1.n2 g.2.1.c2 g.2.1.b3 g.2.1.n3 g.2.1.c3 g.2.1.b4 g.2.1.n4 g.2.1.c4 b/\SJ (n+1) b/\lV c d b:=⟨_,λ_ _=>rfl⟩;have mi:∀hL wN S V N Q M wK O U W wz T K D F H C E Z B Y m o j e b,Le h' hL->fD hL (.agg #[.slice wN S V,.slice N Q M,.slice wK O U,.slice W wz T]) b->RP hL K D F H C E Z B Y m o j b->SJ (n+1) b->lV c d b->I3 (⟨wN,S,V,N,Q,M,wK,O,U,W,wz,T⟩,⟨K,D,F,H,C,E,Z,B,Y,m,o,j⟩,e) hL:=λhL wN S V N Q M wK O U W wz T K D F H C E Z B Y m o j e b a1 a2 a3 a4 a5=>gg
 cbv;refine kK.jZl (G:=G4×G4×Int) 288 (λg=>[(4,.loc 4 0),(5,.loc 5 0),(6,.loc 6 0),(7,.loc 7 0),(14,.v (.zI g.2.2)),(15,.v (.zI g.2.2)),(16,.v (.bool true))]) (λg=>[(3,[.zI kk,.zI s,.zI t,.zI nn,.bool x]),(4,[.slice g.1.b1 g.1.n1 g.1.c1,.slice g.1.b2 g.1.n2 g.1.c2,.slice g.1.b3 g.1.n3 g.1.c3,.slice g.1.b4 g.1.n4 g.1.c4]),(5,[.slice g.2.1.b1 g.2.1.n1 g.2.1.c1,.slice g.2.1.b2 g.2.1.n2 g.2.1.c2,.slice g.2.1.b3 g.2.1.n3 g.2.1.c3,.slice g.2.1.b4 g.2.1.n4 g.2.1.c4]),(6,[.zN,.zN,.zN,.zN]),(7,[.zN,.zN,.zN,.zN])]) I3 ?_ ?_
 .clear Bv hk;refine Az kk 15 ip ip h7 (λzk ik HE Ss Nf=>?_);have aM:=HE.eq;have Br:zk=0\/zk=1\/(zk=2\/zk=3\/zk=4\/zk=5)\/(zk=6\/zk=7)\/zk=8\/zk=9\/zk=10\/zk=12:=by
   grind
  clear HE aM Ss Nf Ca;rcases Br with rfl|rfl|Br|Br|rfl|rfl|rfl|rfl
  .skip;cbv;repeat (rw[au A];cbv)
   obtain⟨⟨b,e⟩,hD⟩:∃X,iP d c=X:=⟨_,rfl⟩;have MS:SJ (n+1) b:=by have:=(XO J ip c).le (show n<=n+1 by omega);grind
   have fV:lV c d b:=by have:lV c d (iP d c).1:=.begin;grind
   refine aXi (q.mono f) c iK hD (λhP wN S V N Q M wK O U W wz T l P=>?_);have P:fD hP _ b:=P;have l:=f.trans l;cbv;refine bQM (p.mono l) ag c pQ hD (λhL K D F H C E Z B Y m o j lR L=>?_);have L:RP hL K D F H C E Z B Y m o j b:=L;have qL:=P.mono lR;have lL:=l.trans lR;have hI:=mi hL wN S V N Q M wK O U W wz T K D F H C E Z B Y m o j e b lL qL L MS fV;clear mi;cbv;refine zqc (⟨wN,S,V,N,Q,M,wK,O,U,W,wz,T⟩,⟨K,D,F,H,C,E,Z,B,Y,m,o,j⟩,e) hI
  .skip;cbv;repeat (rw[au A];cbv)
   obtain⟨⟨b,e⟩,hD⟩:∃X,cC d ⟨c,nm,x⟩=X:=⟨_,rfl⟩;have MS:SJ (n+1) b:=by grind [Er]
   have fV:lV c d b:=by have:lV c d (cC d ⟨c,nm,x⟩).1:=.hold nm x;grind
   refine Sn (q.mono f) jD ip c nm x hD (λhP wN S V N Q M wK O U W wz T l P=>?_);have P:fD hP _ b:=P;have l:=f.trans l;cbv;refine Kl (p.mono l) J.sc jD ip ⟨c,nm,x⟩ pQ hD (λhL K D F H C E Z B Y m o j lR L=>?_);have L:RP hL K D F H C E Z B Y m o j b:=L;have qL:=P.mono lR;have lL:=l.trans lR;have hI:=mi hL wN S V N Q M wK O U W wz T K D F H C E Z B Y m o j e b lL qL L MS fV;clear mi;cbv;refine zqc (⟨wN,S,V,N,Q,M,wK,O,U,W,wz,T⟩,⟨K,D,F,H,C,E,Z,B,Y,m,o,j⟩,e) hI
  .rcases Br with rfl|rfl|rfl|rfl
   all_goals
    cbv;repeat (rw[au A];cbv)
    have aw:∃u,A .aQ .eql (A .aX .rem .i64 nn 13) 12=u:=⟨_,rfl⟩;obtain⟨bc,aw⟩:=aw;refine⟨dl,?_⟩;cbv;rw[aw];cases bc with
    |false=>
     have dO:gC r\/r.length≠2:=.inl CL;have ab:=qr;cbv;intro n8 h8 g8 e8;have l8:Le h7 h8:=zqs e8 g8
     have fO:bA 45 bG h7 h8 (.slice (zsA n8) 0 0) ([]:Row):=bA.nil;have ao:=ab.mono (l8.t [45]);cbv;refine fO.append ao dl rfl dl (by have:=ab.len;have:=ab.bound;omega) l8 (λm9 b9 c9 h9 aH l9 t9 k9 vD=>?_);rw[kZA]at vD;have f:=f.trans l9;have an:=ab.mono (l9.t [45]);cbv;obtain⟨⟨b,e⟩,hD⟩:∃X,oN d c nm r=X:=⟨_,rfl⟩;have MS:SJ (n+1) b:=by have:=XN J c nm rC pQ dO;rw[hD]at this;exact this
     have fV:lV c d b:=by have:lV c d (oN d c nm r).1:=.put nm rC dO;rw[hD]at this;exact this
     refine Yx (q.mono f) jD ip c pQ nm vD.sl hD (λhP wN S V N Q M wK O U W wz T l P=>?_);have P:fD hP _ b:=P;have ax:=l;have l:=f.trans l;cbv;refine bZj (p.mono l) J.sc jD ip c nm rC pQ (an.mono (ax.t _)) dO hD (λhL K D F H C E Z B Y m o j lR L=>?_);have L:RP hL K D F H C E Z B Y m o j b:=L;have qL:=P.mono lR;have lL:=l.trans lR;have hI:=mi hL wN S V N Q M wK O U W wz T K D F H C E Z B Y m o j e b lL qL L MS fV;clear mi;cbv;refine zqc (⟨wN,S,V,N,Q,M,wK,O,U,W,wz,T⟩,⟨K,D,F,H,C,E,Z,B,Y,m,o,j⟩,e) hI
    |true=>
     have mV:(0:Int)<=1/\(1:Int)<=(rc:Int):=by have:=qr.bound;have:=qr.len;omega
     have dO:gC (r.take 1)\/(r.take 1).length≠2:=.inr (by rw[kJI];omega);have sV:A .nR 1 0=1:=by rw[hA.nR];rfl
     have ab:Sl 45 bG h7 (.slice (A .cut rb 0 (A .nat rc) 3) (A .nR 1 0) rc) (r.take 1):=by rw[sV];exact qr.Ip (A:=A) (i:=1) ip
     cbv;refine⟨mV,?_⟩;cbv;intro n8 h8 g8 e8;have l8:Le h7 h8:=zqs e8 g8
     have fO:bA 45 bG h7 h8 (.slice (zsA n8) 0 0) ([]:Row):=bA.nil;have ao:=ab.mono (l8.t [45]);cbv;refine fO.append ao dl rfl dl (by have:=ab.len;have:=ab.bound;omega) l8 (λm9 b9 c9 h9 aH l9 t9 k9 vD=>?_);rw[kZA]at vD;have f:=f.trans l9;have an:=ab.mono (l9.t [45]);cbv;obtain⟨⟨b,e⟩,hD⟩:∃X,oN d c nm (r.take 1)=X:=⟨_,rfl⟩;have MS:SJ (n+1) b:=by have:=XN J c nm rC pQ dO;rw[hD]at this;exact this
     have fV:lV c d b:=by have:lV c d (oN d c nm (r.take 1)).1:=.put nm rC dO;rw[hD]at this;exact this
     refine Yx (q.mono f) jD ip c pQ nm vD.sl hD (λhP wN S V N Q M wK O U W wz T l P=>?_);have P:fD hP _ b:=P;have ax:=l;have l:=f.trans l;cbv;refine bZj (p.mono l) J.sc jD ip c nm rC pQ (an.mono (ax.t _)) dO hD (λhL K D F H C E Z B Y m o j lR L=>?_);have L:RP hL K D F H C E Z B Y m o j b:=L;have qL:=P.mono lR;have lL:=l.trans lR;have hI:=mi hL wN S V N Q M wK O U W wz T K D F H C E Z B Y m o j e b lL qL L MS fV;clear mi;cbv;refine zqc (⟨wN,S,V,N,Q,M,wK,O,U,W,wz,T⟩,⟨K,D,F,H,C,E,Z,B,Y,m,o,j⟩,e) hI
  .rcases Br with rfl|rfl
   all_goals
    cbv;repeat (rw[au A];cbv)
    have HM:rb.isSome=true/\(0:Int)<=0/\(0:Int)<(rn:Int):=⟨qr.bu,ip,ip⟩;have bl:=qr;cbv;refine⟨HM,?_⟩;cbv;refine qr.load (x:=⟨2,ra,dQ⟩) uh (n:=0) rfl (λcs ar=>?_);have ar:cs=[.zI 2,.zI ra,.string dQ]:=ar;subst ar;cbv;obtain⟨⟨b,e⟩,hD⟩:∃X,lZ d c nm ⟨2,ra,dQ⟩=X:=⟨_,rfl⟩;have MS:SJ (n+1) b:=by have:=aZU J c nm rC ra pQ;rw[hD]at this;exact this
    have fV:lV c d b:=by have:lV c d (lZ d c nm ⟨2,ra,dQ⟩).1:=.take nm rC ra;rw[hD]at this;exact this
    refine aZM (q.mono f) jD ip c pQ nm ⟨2,ra,dQ⟩ hD (λhP wN S V N Q M wK O U W wz T l P=>?_);have P:fD hP _ b:=P;have aN:=qr.mono (l.t [45]);have l:=f.trans l;cbv;refine⟨HM,?_⟩;cbv;refine aN.load (x:=⟨2,ra,dQ⟩) uh (n:=0) rfl (λcs ar=>?_);have ar:cs=[.zI 2,.zI ra,.string dQ]:=ar;subst ar;cbv;refine bKh (p.mono l) J.sc jD ip c nm rC ra pQ hD (λhL K D F H C E Z B Y m o j lR L=>?_);have L:RP hL K D F H C E Z B Y m o j b:=L;have qL:=P.mono lR;have lL:=l.trans lR;have hI:=mi hL wN S V N Q M wK O U W wz T K D F H C E Z B Y m o j e b lL qL L MS fV;clear mi;cbv;refine zqc (⟨wN,S,V,N,Q,M,wK,O,U,W,wz,T⟩,⟨K,D,F,H,C,E,Z,B,Y,m,o,j⟩,e) hI
  .skip;cbv;repeat (rw[au A];cbv)
   obtain⟨⟨b,R,e⟩,hD⟩:∃X,qI d c nm=X:=⟨_,rfl⟩;have MS:SJ (n+1) b:=by grind [aZW]
   have fV:lV c d b:=by have:lV c d (qI d c nm).1:=.rows nm;grind
   refine aJq (q.mono f) jD ip c pQ nm hD (λhP wN S V N Q M wK O U W wz T xb xn xc l P sP=>?_);have P:fD hP _ b:=P;have sP:Sl 46 bK hP (.slice xb xn xc) R:=sP;have l:=f.trans l;cbv;refine bKB (p.mono l) J.sc jD ip c nm rC pQ hD (λhL K D F H C E Z B Y m o j yb yn yc lR L sR=>?_);have L:RP hL K D F H C E Z B Y m o j b:=L;have sR:Sl 46 bK hL (.slice yb yn yc) R:=sR;have qL:=P.mono lR;have lL:=l.trans lR;cbv;refine bKC (sP.mono (lR.t _)) sR ?_;have hI:=mi hL wN S V N Q M wK O U W wz T K D F H C E Z B Y m o j e b lL qL L MS fV;clear mi;cbv;refine zqr ?_;cbv;refine zqc (⟨wN,S,V,N,Q,M,wK,O,U,W,wz,T⟩,⟨K,D,F,H,C,E,Z,B,Y,m,o,j⟩,e) hI
  .skip;cbv;repeat (rw[au A];cbv)
   obtain⟨⟨b,e⟩,hD⟩:∃X,kX d c mk=X:=⟨_,rfl⟩;have MS:SJ (n+1) b:=by have:=(aZV J c mk pQ).le (show n<=n+1 by omega);grind
   have fV:lV c d b:=by have:lV c d (kX d c mk).1:=.save mk;grind
   refine aJk (q.mono f) c mk hD (λhP wN S V N Q M wK O U W wz T l P=>?_);have P:fD hP _ b:=P;have l:=f.trans l;cbv;refine bKr (p.mono l) ag c pQ mk hD (λhL K D F H C E Z B Y m o j lR L=>?_);have L:RP hL K D F H C E Z B Y m o j b:=L;have qL:=P.mono lR;have lL:=l.trans lR;have hI:=mi hL wN S V N Q M wK O U W wz T K D F H C E Z B Y m o j e b lL qL L MS fV;clear mi;cbv;refine zqc (⟨wN,S,V,N,Q,M,wK,O,U,W,wz,T⟩,⟨K,D,F,H,C,E,Z,B,Y,m,o,j⟩,e) hI
  .skip;cbv;repeat (rw[au A];cbv)
   obtain⟨⟨b,e⟩,hD⟩:∃X,mu d c mk=X:=⟨_,rfl⟩;have MS:SJ (n+1) b:=by have:=(aZY J c mk pQ).le (show n<=n+1 by omega);grind
   have fV:lV c d b:=by have:lV c d (mu d c mk).1:=.back mk;grind
   refine bQP (q.mono f) jD c mk hD (λhP wN S V N Q M wK O U W wz T l P=>?_);have P:fD hP _ b:=P;have l:=f.trans l;cbv;refine cJK (p.mono l) ag J.sc.Pz c pQ mk hD (λhL K D F H C E Z B Y m o j lR L=>?_);have L:RP hL K D F H C E Z B Y m o j b:=L;have qL:=P.mono lR;have lL:=l.trans lR;have hI:=mi hL wN S V N Q M wK O U W wz T K D F H C E Z B Y m o j e b lL qL L MS fV;clear mi;cbv;refine zqc (⟨wN,S,V,N,Q,M,wK,O,U,W,wz,T⟩,⟨K,D,F,H,C,E,Z,B,Y,m,o,j⟩,e) hI
  skip;cbv;repeat (rw[au A];cbv)
  obtain⟨⟨b,e⟩,hD⟩:∃X,cA d c=X:=⟨_,rfl⟩;have MS:SJ (n+1) b:=by have:=(Pd J pQ).le (show n<=n+1 by omega);grind
  have fV:lV c d b:=by have:lV c d (cA d c).1:=.tz;grind
  refine wu (q.mono f) jD ip c hD (λhP wN S V N Q M wK O U W wz T l P=>?_);have P:fD hP _ b:=P;have l:=f.trans l;cbv;refine zM (p.mono l) ag c pQ hD (λhL K D F H C E Z B Y m o j lR L=>?_);have L:RP hL K D F H C E Z B Y m o j b:=L;have qL:=P.mono lR;have lL:=l.trans lR;have hI:=mi hL wN S V N Q M wK O U W wz T K D F H C E Z B Y m o j e b lL qL L MS fV;clear mi;cbv;refine zqc (⟨wN,S,V,N,Q,M,wK,O,U,W,wz,T⟩,⟨K,D,F,H,C,E,Z,B,Y,m,o,j⟩,e) hI
 intro g h2 hI;rw[Bv]at hI;clear Bv mi;obtain⟨⟨wN,S,V,N,Q,M,wK,O,U,W,wz,T⟩,⟨K,D,F,H,C,E,Z,B,Y,m,o,j⟩,e⟩:=g;obtain⟨b,a1,a2,a3,a4,a5⟩:=hI;have az:=hk h2 wN S V N Q M wK O U W wz T K D F H C E Z B Y m o j b c a1 a2 a3 a4 pQ a5;have bd:A .aQ .eql e e=true:=by rw[au A];simp
 clear hk;cbv;rw[bd];cbv;refine zqr ?_;cbv;exact az
end Go.S
