import Derived.Test.YthnbpiejemlbeaaGreatGA
set_option linter.all false
set_option maxRecDepth 100000
set_option maxHeartbeats 8000000
namespace Go.S
open Go.Sx Go.Proofs
variable {d:DB}{D:DB×Int}{c n rb:Nat}{r:Row}{k:Value->ad->Prop}{h h':ad}
def ea(d:DB)(hd:bU)(act:ca->ca×cV×Int):DB×Int:=
 if decide ((cA d hd).2≠0)=true then cA d hd
 else match (cA d hd).1.ao[dC (aS (cA d hd).1.ao hd.table)]?,(cA d hd).1.ai[dC (bW (cA d hd).1.ai hd.s)]? with
  |some t,some w=>
   if decide ((act t).2.2≠19)&&decide ((w.log.length:Int)>=60)then((cA d hd).1,4)
   else if decide ((act t).2.2=0)=true then
    (⟨(cA d hd).1.ao.set (dC (aS (cA d hd).1.ao hd.table)) (act t).1,(cA d hd).1.ai.set (dC (bW (cA d hd).1.ai hd.s)) ⟨w.s,w.log++[⟨hd.table,(act t).2.1.op,(act t).2.1.row⟩],w.marks⟩,(cA d hd).1.holds,(cA d hd).1.waits⟩,0)
   else((cA d hd).1,(act t).2.2)
  |_,_=>cA d hd
theorem Uq{v:Value}(q:fE h v d)(ok:sa n d)(Cj:n<2^18)(s:Int)(GP:-2^63<=s/\s<2^63)(a:ByteArray){vb:Option Addr}{vn vc:Nat}(gr:h rb=some (.cells #[.slice vb vn vc] 46 (0,0)))(qr:Sl 45 bA h (.slice vb vn vc) r):
 Ct 47 [v,.int .i64 s,.string a,.func (.func 44) #[] #[.zP rb]] h (λv' h'=>∃v1 e R,v'=.tuple #[v1,.int .i64 e]/\Le h h'/\fE h' v1 R/\(R,e)=ea d ⟨s,a,true⟩ (ji r)):=by
 obtain⟨G,Z,L,I,n2,M,J,n3,N,K,n4,P,rfl⟩:=q.form;have hH:=ok.holds;have aB:=ok.waits;generalize p:ea d ⟨s,a,true⟩ (ji r)=D;have X:=oD ok ⟨s,a,true⟩ GP;have QO:=AM ok (hd:=⟨s,a,true⟩) GP;unfold ea at p;obtain⟨D0,QQ⟩:∃D0,cA d ⟨s,a,true⟩=D0:=⟨_,rfl⟩;rw[QQ]at p X QO;obtain⟨⟨dT,b,H,f⟩,e⟩:=D0;refine cg bZj Tryz.func47 λA hA=>?_;cbv;refine kK q (λj c F wb ct cw W l1 hc ni uR pI oV hW Mu JK cs=>?_);have cs:jV j c F wb ct cw d.ao (Wf d.ai) d.holds d.waits 0:=by rw[hW]at cs;exact cs
 cbv;refine Js cs ⟨s,a,true⟩ pI oV ok.rows (by omega) (by omega) QQ (λS k2 Mw=>?_);have xG:jV S c F wb ct cw dT (Wf b) H f 0:=Mw;clear Mw;have p:(if decide (e≠0)=true then((⟨dT,b,H,f⟩,e):DB×Int)
  else match dT[dC (aS dT a)]?,b[dC (bW b s)]? with
  |some t,some w=>
   if decide (((ji r) t).2.2≠19)&&decide ((w.log.length:Int)>=60)then(⟨dT,b,H,f⟩,4)
   else if decide (((ji r) t).2.2=0)=true then
    (⟨dT.set (dC (aS dT a)) ((ji r) t).1,b.set (dC (bW b s)) ⟨w.s,w.log++[⟨a,((ji r) t).2.1.op,((ji r) t).2.1.row⟩],w.marks⟩,H,f⟩,0)
   else(⟨dT,b,H,f⟩,((ji r) t).2.2)
  |_,_=>(⟨dT,b,H,f⟩,e))=D:=p
 have QO:e=0->iQ (aS dT a)=true/\iQ (bW b s)=true:=QO;have ay:mw dT:=X.ok.rows;clear X;have l2:Le h S:=l1.aV (by simp[hc,ni,uR]) k2;have Pb:(Wf b).map (·.1)=b:=by unfold Wf;rw[jKq];simp[Function.comp_def]
 generalize eu:A .aN .neq e 0=u;have fu:=eu;rw[az A]at eu;rw[eu]at p;cbv;rw[fu];cases u with
 |true=>
  have Q:D=(⟨dT,b,H,f⟩,e):=by rw[<-p];rfl
  refine xG.elim (λm1 m2 x3 m3 k3 x4 m4 k4 o m _ _ _ _ _ _ _ y=>?_);rw[Pb]at y;cbv;rw[av A];refine cr m ?_;cbv;refine dV y (λh3 G Z L I n2 M J n3 N K n4 P l3 g=>?_);cbv;exact⟨_,e,_,rfl,l2.trans l3,g,Q.symm⟩
 |false=>
  have xS:e=0:=jKJ.1 (kz eu);subst xS;obtain⟨JE,JD⟩:=QO rfl;have OM:=jk JE;have Tp:=jk JD;simp only[aS,bW,vi]at OM Tp;obtain⟨t,ht⟩:=aJ (xs:=dT) (i:=dC (aS dT a)) OM;obtain⟨w,hw⟩:=aJ (xs:=b) (i:=dC (bW b s)) Tp;cbv;refine(qY xG a).mono (λv h3 hR=>?_);obtain⟨l3,zt,tt,rfl,OZ⟩:=hR;obtain⟨E,-⟩:=OZ.at_;have E:aZ zt (dC (aS dT a)):=E;cbv;refine(yL (xG.mono l3) s).mono (λv h4 hR=>?_);obtain⟨l4,zw,tw,rfl,OY⟩:=hR;obtain⟨O,-⟩:=OY.at_;have O:aZ zw (dC (bW b s)):=by have j:aZ zw (dC (dK (Wf b) s)):=O;rw[pj]at j;exact j
  have aE:=(ff.1 ht).1;have aD:=(ff.1 hw).1;generalize Yu:dC (aS dT a)=kt at *;generalize Yt:dC (bW b s)=kw at *;have yy:=l3.trans l4;have Lw:=l2.trans yy;have GY:=xG.mono yy;refine GY.elim (λm1 m2 x3 m3 k3 x4 m4 k4 o f0 f1 f2 f3 f4 f5 f6 f7 _=>?_);have zN:m2=b.length:=by rw[f4];simp[Wf]
  have HO:(Wf b)[kw]? =some (w,true):=by unfold Wf;rw[kS,hw];rfl
  have JA:(some (⟨wb,0,none⟩:Addr)).isSome=true/\0<=zw/\zw<(m2:Int):=⟨rfl,O.ix (by omega)⟩;have FL:(some (⟨F,0,none⟩:Addr)).isSome=true/\0<=zt/\zt<(m1:Int):=⟨rfl,E.ix (by omega)⟩;cbv;rw[av A];rw[av A];refine cr f0 ?_;cbv;refine⟨JA,?_⟩;cbv;rw[av A];rw[av A];refine cr f0 ?_;cbv;refine⟨FL,?_⟩;cbv;obtain⟨⟨nm,bB,key,only⟩,k⟩:=t;refine zb (f3.sl f2) ht E.eq (λy1 y2 y3 y4 y5 y6 r1 r2=>?_);have tq:y5<=2^37:=by have j:=ay _ (cK ht);have S:=r2.len;have j:k.length<=2^36:=j;have S:y5=k.length:=S;omega
  cbv;refine WY (nm:=nm) (key:=key) (only:=only) r1 r2 (Lw _ _ gr) (qr.mono (Lw.t _)) tq (λh5 z1 z2 z3 z4 z5 z6 z7 z8 z9 e1 T1 C l5 r3 r4 r5 r6=>?_);have oA:=Lw.trans l5;have yH:=GY.mono l5;have Q:D=(if decide (e1≠19)&&decide ((w.log.length:Int)>=60)then(⟨dT,b,H,f⟩,4)
   else if decide (e1=0)=true then(⟨dT.set kt ⟨⟨nm,bB,key,only⟩,T1⟩,b.set kw ⟨w.s,w.log++[⟨a,C.op,C.row⟩],w.marks⟩,H,f⟩,0)else(⟨dT,b,H,f⟩,e1)):=by
   rw[<-p];simp only[jKw,if_false];rw[ht,hw];simp only;rw[<-r6]
  have fin:∀(e:Int) (U:ad) (v:Value),Le h U->fE U v ⟨dT,b,H,f⟩->D=(⟨dT,b,H,f⟩,e)->∃v1 e1 R,Value.tuple #[v,.int .i64 e]=.tuple #[v1,.int .i64 e1]/\Le h U/\fE U v1 R/\(R,e1)=D:=
   λe U v l r hE=>⟨v,e,_,rfl,l,r,hE.symm⟩
  refine yH.elim (λp1 p2 p3 p4 p5 p6 p7 p8 p9 m i1 i2 i3 i4 i5 i6 i7 y=>?_);rw[Pb]at y;generalize JL:A .aN .neq e1 19=ab;have aw:=JL;rw[az A]at JL;generalize zS:A .aN .eql e1 0=u0;have mY:=zS;rw[au A]at zS;rw[JL,zS]at Q;cbv;rw[aw];cases ab with
  |false=>
   have aq:e1=19:=jKJ.1 (kz JL);have al:u0=false:=by rw[<-zS,aq];rfl
   subst al;have Q:D=(⟨dT,b,H,f⟩,e1):=Q;cbv;rw[mY];cbv;rw[av A];refine cr m ?_;cbv;refine dV y (λT G Z L I n2 M J n3 N K n4 P Y g=>?_);cbv;exact fin e1 _ _ (oA.trans Y) g Q
  |true=>
   have Dt:=O.eq;cbv;refine oT (i5.sl i4) HO O.eq (λy1 y2 y3 r7 r9 _=>?_);generalize z:A .aN .geq (A .nat y2) 60=VF;have ax:=z;rw[cH A,hA.nat]at z;simp only[rz]at z;have uB:y2=w.log.length:=r7.len;have FB:VF=false->y2<60:=λe=>by rw[e]at z;have:=kz z;omega
   rw[uB]at z;rw[z]at Q;cbv;rw[ax];cases VF with
   |true=>
    have Q:D=(⟨dT,b,H,f⟩,4):=Q;have QT:A .aN .eql 4 0=false:=by rw[au A];rfl
    cbv;rw[QT];cbv;rw[av A];refine cr m ?_;cbv;refine dV y (λT G Z L I n2 M J n3 N K n4 P Y g=>?_);cbv;exact fin 4 _ _ (oA.trans Y) g Q
   |false=>
    have aU:=FB rfl;have oE:w.log.length<60:=by omega
    cbv;rw[mY];cases u0 with
    |false=>have Q:D=(⟨dT,b,H,f⟩,e1):=Q;cbv;rw[av A];refine cr m ?_;cbv;refine dV y (λT G Z L I n2 M J n3 N K n4 P Y g=>?_);cbv;exact fin e1 _ _ (oA.trans Y) g Q
    |true=>
     have iw:e1=0:=lA zS;have Q:D=(⟨dT.set kt ⟨⟨nm,bB,key,only⟩,T1⟩,b.set kw ⟨w.s,w.log++[⟨a,C.op,C.row⟩],w.marks⟩,H,f⟩,0):=Q;subst iw;have FK:(some (⟨F,0,none⟩:Addr)).isSome=true/\0<=zt/\zt<(p1:Int):=⟨rfl,E.ix (by omega)⟩;cbv;rw[av A];rw[av A];refine cr m ?_;cbv;refine⟨FK,?_⟩;cbv;have rT:bN.R h5 [.string nm,.slice z1 z2 z3,.int .i64 key,.bool only,.slice z4 z5 z6] ⟨⟨nm,bB,key,only⟩,T1⟩:=⟨_,_,_,_,_,_,rfl,r3,r4⟩;refine i3.setAt (by decide) (i:=kt) (by omega) E.eq rfl rT (λT k6 t6 o6=>?_);have OT:c≠F:=pI;have g6:=k6 _ _ m (by simpa using OT);have V:=i5.mono (t6 _ (by decide));have ao:=r5.mono (t6 _ (by decide));cbv;refine oT (V.sl i4) HO O.eq (λy1 y2 y3 r7 r9 ag=>?_);have Ta:=r9 rfl;subst Ta;cbv;intro an h7 OJ e7;have l7:Le T h7:=by rw[e7];exact Le.set OJ
     have g7:=(congrFun e7 an).trans ae;have qx:=bf (s:=bz) g7 (x:=⟨a,C.op,C.row⟩) ⟨_,_,_,rfl,ao.mono (l7.t _)⟩;cbv;refine ag _ _ l7 ?_;cbv;refine⟨⟨_,rfl,rfl⟩,?_⟩;cbv;have uB:=r7.len;refine jq (r7.mono (l7.t _)) qx (by omega) rfl (by decide) (by simp only at uB;omega) (λaF c8 h8 aC l8 aG o8=>?_);have B:=l7.trans l8;have aA:=V.mono (B.t _);have s8:=o8.sl (n:=y3+1) (by simp only[cy,qA];simp only at uB;omega);cbv;refine aA.KT (by decide) (i:=kw) HO O.eq rfl (off:=1) (by simp[bV]) (x':=(⟨w.s,w.log++[⟨a,C.op,C.row⟩],w.marks⟩,false)) (λcs ar=>?_) (λh9 k9 t9 o9=>?_)
     .obtain⟨y1,y2,y3,y4,y5,y6,rfl,q1,q2,q3⟩:=ar;exact⟨_,_,_,y4,y5,y6,rfl,s8,q2,λe=>by cases e⟩
     have g8:=B _ _ g6;have OS:c≠wb:=oV;have g9:=k9 _ _ g8 (by simpa using OS);have UK:Le h h9:=by have j:Le h T:=oA.aV (by simpa using ni) k6;exact(j.trans B).aV (by simpa using uR) k9
     have FJ:fE h9 (.agg #[.slice (zsA F) p1 ct,.slice (zsA wb) p2 cw,.slice p3 p4 p5,.slice p6 p7 p8]) ⟨dT.set kt ⟨⟨nm,bB,key,only⟩,T1⟩,b.set kw ⟨w.s,w.log++[⟨a,C.op,C.row⟩],w.marks⟩,H,f⟩:=by refine⟨_,_,_,_,_,_,_,_,_,_,_,_,_,rfl,((o6.mono (B.t _)).mono (t9 _ (by decide))).sl (by rw[nM];exact i2),o9.sl (by rw[nM];exact i4),((i6.mono (t6 _ (by decide))).mono (B.t _)).mono (t9 _ (by decide)),((i7.mono (t6 _ (by decide))).mono (B.t _)).mono (t9 _ (by decide)),?_⟩;rw[jKI,Pb]
     cbv;rw[av A];refine cr g9 ?_;cbv;refine dV FJ (λiw G Z L I n2 M J n3 N K n4 P gB g=>?_);cbv;exact⟨_,0,_,rfl,UK.trans gB,g,Q.symm⟩
theorem Uo{v:Value}(q:fE h v d)(ok:sa n d)(Cj:n<2^18)(s:Int)(GP:-2^63<=s/\s<2^63)(a:ByteArray){kv:jd}(gr:h rb=some (.cells #[.int .i64 kv.k,.int .i64 kv.n,.string kv.s] 45 (0,0))):
 Ct 47 [v,.int .i64 s,.string a,.func (.func 276) #[] #[.zP rb]] h (λv' h'=>∃v1 e R,v'=.tuple #[v1,.int .i64 e]/\Le h h'/\fE h' v1 R/\(R,e)=ea d ⟨s,a,true⟩ (eV kv)):=by
 obtain⟨G,Z,L,I,n2,M,J,n3,N,K,n4,P,rfl⟩:=q.form;have hH:=ok.holds;have aB:=ok.waits;generalize p:ea d ⟨s,a,true⟩ (eV kv)=D;have X:=oD ok ⟨s,a,true⟩ GP;have QO:=AM ok (hd:=⟨s,a,true⟩) GP;unfold ea at p;obtain⟨D0,QQ⟩:∃D0,cA d ⟨s,a,true⟩=D0:=⟨_,rfl⟩;rw[QQ]at p X QO;obtain⟨⟨dT,b,H,f⟩,e⟩:=D0;refine cg bZj Tryz.func47 λA hA=>?_;cbv;refine kK q (λj c F wb ct cw W l1 hc ni uR pI oV hW Mu JK cs=>?_);have cs:jV j c F wb ct cw d.ao (Wf d.ai) d.holds d.waits 0:=by rw[hW]at cs;exact cs
 cbv;refine Js cs ⟨s,a,true⟩ pI oV ok.rows (by omega) (by omega) QQ (λS k2 Mw=>?_);have xG:jV S c F wb ct cw dT (Wf b) H f 0:=Mw;clear Mw;have p:(if decide (e≠0)=true then((⟨dT,b,H,f⟩,e):DB×Int)
  else match dT[dC (aS dT a)]?,b[dC (bW b s)]? with
  |some t,some w=>
   if decide (((eV kv) t).2.2≠19)&&decide ((w.log.length:Int)>=60)then(⟨dT,b,H,f⟩,4)
   else if decide (((eV kv) t).2.2=0)=true then
    (⟨dT.set (dC (aS dT a)) ((eV kv) t).1,b.set (dC (bW b s)) ⟨w.s,w.log++[⟨a,((eV kv) t).2.1.op,((eV kv) t).2.1.row⟩],w.marks⟩,H,f⟩,0)
   else(⟨dT,b,H,f⟩,((eV kv) t).2.2)
  |_,_=>(⟨dT,b,H,f⟩,e))=D:=p
 have QO:e=0->iQ (aS dT a)=true/\iQ (bW b s)=true:=QO;have ay:mw dT:=X.ok.rows;clear X;have l2:Le h S:=l1.aV (by simp[hc,ni,uR]) k2;have Pb:(Wf b).map (·.1)=b:=by unfold Wf;rw[jKq];simp[Function.comp_def]
 generalize eu:A .aN .neq e 0=u;have fu:=eu;rw[az A]at eu;rw[eu]at p;cbv;rw[fu];cases u with
 |true=>
  have Q:D=(⟨dT,b,H,f⟩,e):=by rw[<-p];rfl
  refine xG.elim (λm1 m2 x3 m3 k3 x4 m4 k4 o m _ _ _ _ _ _ _ y=>?_);rw[Pb]at y;cbv;rw[av A];refine cr m ?_;cbv;refine dV y (λh3 G Z L I n2 M J n3 N K n4 P l3 g=>?_);cbv;exact⟨_,e,_,rfl,l2.trans l3,g,Q.symm⟩
 |false=>
  have xS:e=0:=jKJ.1 (kz eu);subst xS;obtain⟨JE,JD⟩:=QO rfl;have OM:=jk JE;have Tp:=jk JD;simp only[aS,bW,vi]at OM Tp;obtain⟨t,ht⟩:=aJ (xs:=dT) (i:=dC (aS dT a)) OM;obtain⟨w,hw⟩:=aJ (xs:=b) (i:=dC (bW b s)) Tp;cbv;refine(qY xG a).mono (λv h3 hR=>?_);obtain⟨l3,zt,tt,rfl,OZ⟩:=hR;obtain⟨E,-⟩:=OZ.at_;have E:aZ zt (dC (aS dT a)):=E;cbv;refine(yL (xG.mono l3) s).mono (λv h4 hR=>?_);obtain⟨l4,zw,tw,rfl,OY⟩:=hR;obtain⟨O,-⟩:=OY.at_;have O:aZ zw (dC (bW b s)):=by have j:aZ zw (dC (dK (Wf b) s)):=O;rw[pj]at j;exact j
  have aE:=(ff.1 ht).1;have aD:=(ff.1 hw).1;generalize Yu:dC (aS dT a)=kt at *;generalize Yt:dC (bW b s)=kw at *;have yy:=l3.trans l4;have Lw:=l2.trans yy;have GY:=xG.mono yy;refine GY.elim (λm1 m2 x3 m3 k3 x4 m4 k4 o f0 f1 f2 f3 f4 f5 f6 f7 _=>?_);have zN:m2=b.length:=by rw[f4];simp[Wf]
  have HO:(Wf b)[kw]? =some (w,true):=by unfold Wf;rw[kS,hw];rfl
  have JA:(some (⟨wb,0,none⟩:Addr)).isSome=true/\0<=zw/\zw<(m2:Int):=⟨rfl,O.ix (by omega)⟩;have FL:(some (⟨F,0,none⟩:Addr)).isSome=true/\0<=zt/\zt<(m1:Int):=⟨rfl,E.ix (by omega)⟩;cbv;rw[av A];rw[av A];refine cr f0 ?_;cbv;refine⟨JA,?_⟩;cbv;rw[av A];rw[av A];refine cr f0 ?_;cbv;refine⟨FL,?_⟩;cbv;obtain⟨⟨nm,bB,key,only⟩,k⟩:=t;refine zb (f3.sl f2) ht E.eq (λy1 y2 y3 y4 y5 y6 r1 r2=>?_);have tq:y5<=2^37:=by have j:=ay _ (cK ht);have S:=r2.len;have j:k.length<=2^36:=j;have S:y5=k.length:=S;omega
  cbv;refine PU (nm:=nm) (key:=key) (only:=only) r1 r2 (kv:=kv) (Lw _ _ gr) tq (λh5 z1 z2 z3 z4 z5 z6 z7 z8 z9 e1 T1 C l5 r3 r4 r5 r6=>?_);have oA:=Lw.trans l5;have yH:=GY.mono l5;have Q:D=(if decide (e1≠19)&&decide ((w.log.length:Int)>=60)then(⟨dT,b,H,f⟩,4)
   else if decide (e1=0)=true then(⟨dT.set kt ⟨⟨nm,bB,key,only⟩,T1⟩,b.set kw ⟨w.s,w.log++[⟨a,C.op,C.row⟩],w.marks⟩,H,f⟩,0)else(⟨dT,b,H,f⟩,e1)):=by
   rw[<-p];simp only[jKw,if_false];rw[ht,hw];simp only;rw[<-r6]
  have fin:∀(e:Int) (U:ad) (v:Value),Le h U->fE U v ⟨dT,b,H,f⟩->D=(⟨dT,b,H,f⟩,e)->∃v1 e1 R,Value.tuple #[v,.int .i64 e]=.tuple #[v1,.int .i64 e1]/\Le h U/\fE U v1 R/\(R,e1)=D:=
   λe U v l r hE=>⟨v,e,_,rfl,l,r,hE.symm⟩
  refine yH.elim (λp1 p2 p3 p4 p5 p6 p7 p8 p9 m i1 i2 i3 i4 i5 i6 i7 y=>?_);rw[Pb]at y;generalize JL:A .aN .neq e1 19=ab;have aw:=JL;rw[az A]at JL;generalize zS:A .aN .eql e1 0=u0;have mY:=zS;rw[au A]at zS;rw[JL,zS]at Q;cbv;rw[aw];cases ab with
  |false=>
   have aq:e1=19:=jKJ.1 (kz JL);have al:u0=false:=by rw[<-zS,aq];rfl
   subst al;have Q:D=(⟨dT,b,H,f⟩,e1):=Q;cbv;rw[mY];cbv;rw[av A];refine cr m ?_;cbv;refine dV y (λT G Z L I n2 M J n3 N K n4 P Y g=>?_);cbv;exact fin e1 _ _ (oA.trans Y) g Q
  |true=>
   have Dt:=O.eq;cbv;refine oT (i5.sl i4) HO O.eq (λy1 y2 y3 r7 r9 _=>?_);generalize z:A .aN .geq (A .nat y2) 60=VF;have ax:=z;rw[cH A,hA.nat]at z;simp only[rz]at z;have uB:y2=w.log.length:=r7.len;have FB:VF=false->y2<60:=λe=>by rw[e]at z;have:=kz z;omega
   rw[uB]at z;rw[z]at Q;cbv;rw[ax];cases VF with
   |true=>
    have Q:D=(⟨dT,b,H,f⟩,4):=Q;have QT:A .aN .eql 4 0=false:=by rw[au A];rfl
    cbv;rw[QT];cbv;rw[av A];refine cr m ?_;cbv;refine dV y (λT G Z L I n2 M J n3 N K n4 P Y g=>?_);cbv;exact fin 4 _ _ (oA.trans Y) g Q
   |false=>
    have aU:=FB rfl;have oE:w.log.length<60:=by omega
    cbv;rw[mY];cases u0 with
    |false=>have Q:D=(⟨dT,b,H,f⟩,e1):=Q;cbv;rw[av A];refine cr m ?_;cbv;refine dV y (λT G Z L I n2 M J n3 N K n4 P Y g=>?_);cbv;exact fin e1 _ _ (oA.trans Y) g Q
    |true=>
     have iw:e1=0:=lA zS;have Q:D=(⟨dT.set kt ⟨⟨nm,bB,key,only⟩,T1⟩,b.set kw ⟨w.s,w.log++[⟨a,C.op,C.row⟩],w.marks⟩,H,f⟩,0):=Q;subst iw;have FK:(some (⟨F,0,none⟩:Addr)).isSome=true/\0<=zt/\zt<(p1:Int):=⟨rfl,E.ix (by omega)⟩;cbv;rw[av A];rw[av A];refine cr m ?_;cbv;refine⟨FK,?_⟩;cbv;have rT:bN.R h5 [.string nm,.slice z1 z2 z3,.int .i64 key,.bool only,.slice z4 z5 z6] ⟨⟨nm,bB,key,only⟩,T1⟩:=⟨_,_,_,_,_,_,rfl,r3,r4⟩;refine i3.setAt (by decide) (i:=kt) (by omega) E.eq rfl rT (λT k6 t6 o6=>?_);have OT:c≠F:=pI;have g6:=k6 _ _ m (by simpa using OT);have V:=i5.mono (t6 _ (by decide));have ao:=r5.mono (t6 _ (by decide));cbv;refine oT (V.sl i4) HO O.eq (λy1 y2 y3 r7 r9 ag=>?_);have Ta:=r9 rfl;subst Ta;cbv;intro an h7 OJ e7;have l7:Le T h7:=by rw[e7];exact Le.set OJ
     have g7:=(congrFun e7 an).trans ae;have qx:=bf (s:=bz) g7 (x:=⟨a,C.op,C.row⟩) ⟨_,_,_,rfl,ao.mono (l7.t _)⟩;cbv;refine ag _ _ l7 ?_;cbv;refine⟨⟨_,rfl,rfl⟩,?_⟩;cbv;have uB:=r7.len;refine jq (r7.mono (l7.t _)) qx (by omega) rfl (by decide) (by simp only at uB;omega) (λaF c8 h8 aC l8 aG o8=>?_);have B:=l7.trans l8;have aA:=V.mono (B.t _);have s8:=o8.sl (n:=y3+1) (by simp only[cy,qA];simp only at uB;omega);cbv;refine aA.KT (by decide) (i:=kw) HO O.eq rfl (off:=1) (by simp[bV]) (x':=(⟨w.s,w.log++[⟨a,C.op,C.row⟩],w.marks⟩,false)) (λcs ar=>?_) (λh9 k9 t9 o9=>?_)
     .obtain⟨y1,y2,y3,y4,y5,y6,rfl,q1,q2,q3⟩:=ar;exact⟨_,_,_,y4,y5,y6,rfl,s8,q2,λe=>by cases e⟩
     have g8:=B _ _ g6;have OS:c≠wb:=oV;have g9:=k9 _ _ g8 (by simpa using OS);have UK:Le h h9:=by have j:Le h T:=oA.aV (by simpa using ni) k6;exact(j.trans B).aV (by simpa using uR) k9
     have FJ:fE h9 (.agg #[.slice (zsA F) p1 ct,.slice (zsA wb) p2 cw,.slice p3 p4 p5,.slice p6 p7 p8]) ⟨dT.set kt ⟨⟨nm,bB,key,only⟩,T1⟩,b.set kw ⟨w.s,w.log++[⟨a,C.op,C.row⟩],w.marks⟩,H,f⟩:=by refine⟨_,_,_,_,_,_,_,_,_,_,_,_,_,rfl,((o6.mono (B.t _)).mono (t9 _ (by decide))).sl (by rw[nM];exact i2),o9.sl (by rw[nM];exact i4),((i6.mono (t6 _ (by decide))).mono (B.t _)).mono (t9 _ (by decide)),((i7.mono (t6 _ (by decide))).mono (B.t _)).mono (t9 _ (by decide)),?_⟩;rw[jKI,Pb]
     cbv;rw[av A];refine cr g9 ?_;cbv;refine dV FJ (λiw G Z L I n2 M J n3 N K n4 P gB g=>?_);cbv;exact⟨_,0,_,rfl,UK.trans gB,g,Q.symm⟩
def px(d:DB)(s:Int)(name:ByteArray)(r:Row):DB×Int:=ea d ⟨s,name,true⟩ (ji r)
def mE(d:DB)(s:Int)(name:ByteArray)(k:jd):DB×Int:=ea d ⟨s,name,true⟩ (eV k)
def cN(d:DB)(s:Int):DB×Int:=if iQ (bW d.ai s)=true then(jE d s,0)else(d,2)
def bZ(d:DB)(s:Int):DB×List cV×Int:=
 if iQ (bW d.ai s)=true then(⟨d.ao,xW d.ai s,bR d.holds s,bR d.waits s⟩,match d.ai[dC (bW d.ai s)]? with
  |some w=>w.log
  |none=>[],0)
 else(d,[],2)
def eD(d:DB)(name:ByteArray):DB×Int:=
 if iQ (aS d.ao name)=true then if decide ((d.ai.length:Int)>0)=true then(d,18)else(⟨d.ao.eraseIdx (dC (aS d.ao name)),d.ai,d.holds,d.waits⟩,0)
 else(d,2)
def rj(d:DB)(s:Int)(name:ByteArray):DB×List Row×Int:=
 if decide ((cA d ⟨s,name,false⟩).2≠0)=true then((cA d ⟨s,name,false⟩).1,[],(cA d ⟨s,name,false⟩).2)
 else((cA d ⟨s,name,false⟩).1,match (cA d ⟨s,name,false⟩).1.ao[dC (aS (cA d ⟨s,name,false⟩).1.ao name)]? with
  |some t=>t.rows
  |none=>[],0)
theorem zB(w:List eY):(Wf w).map (·.1)=w:=by unfold Wf;rw[jKq];simp[Function.comp_def]
theorem WZ{v:Value}(q:fE h v d)(R:sa n d)(C:n<2^18)(s:Int)(G:-2^63<=s/\s<2^63)(a:ByteArray){y:Option Addr}{B z:Nat}(S:Sl 45 bA h (.slice y B z) r)(L:px d s a r=D)
 (N:Vh h D.1 D.2 k):Ct 14 [v,.int .i64 s,.string a,.slice y B z] h k:=by
 obtain⟨b,t,i,c,u,j,f,w,m,g,x,o,rfl⟩:=q.form;refine cg fXh Tryz.func14 λA U=>?_;cbv;intro T I K e1;have l:Le h I:=by rw[e1];exact Le.set K
 have H:=(congrFun e1 T).trans ae;cbv;refine(Uq (q.mono l) R C s G a H (S.mono (l.t _))).mono (λv J hR=>?_);obtain⟨V,e,F,O,P,hd,M⟩:=hR;have Q:(F,e)=D:=M.trans L;subst Q;obtain⟨b,t,i,c,u,j,f,w,m,g,x,o,p⟩:=hd.form;rw[O,p];have E:=N J b t i c u j f w m g x o (l.trans P) (by rw[<-p];exact hd);cbv;exact E
theorem aXq{v:Value}(q:fE h v d)(M:sa n d)(C:n<2^18)(s:Int)(G:-2^63<=s/\s<2^63)(a:ByteArray)(kv:jd)(F:mE d s a kv=D)
 (I:Vh h D.1 D.2 k):Ct 154 [v,.int .i64 s,.string a,.agg #[.int .i64 kv.k,.int .i64 kv.n,.string kv.s]] h k:=by
 obtain⟨b,r,i,c,t,j,f,u,l,g,w,m,rfl⟩:=q.form;refine cg aKP Tryz.func154 λA O=>?_;cbv;intro N B K e1;have p:Le h B:=by rw[e1];exact Le.set K
 have z:=(congrFun e1 N).trans ae;cbv;refine(Uo (q.mono p) M C s G a (kv:=kv) z).mono (λv E hR=>?_);obtain⟨P,e,x,J,L,hd,H⟩:=hR;have Q:(x,e)=D:=H.trans F;subst Q;obtain⟨b,r,i,c,t,j,f,u,l,g,w,m,o⟩:=hd.form;rw[J,o];have y:=I E b r i c t j f u l g w m (p.trans L) (by rw[<-o];exact hd);cbv;exact y
theorem jV.new{b e t a:Nat}{W:List (eY×Bool)}(cs:jV h c b e t a d.ao W d.holds d.waits 0)(f:W=d.ai.map λw=>(w,true)):jV h c b e t a d.ao (Wf d.ai) d.holds d.waits 0:=by rw[f]at cs;exact cs
theorem QF{v:Value}(q:fE h v d)(b:sa n d)(Cj:n<2^18)(s:Int)(a:ByteArray)(x:Bool)(L:cA d ⟨s,a,x⟩=D)
 (P:Vh h D.1 D.2 k):Ct 151 [v,.int .i64 s,.string a,.bool x] h k:=by
 obtain⟨f,w,l,g,y,m,i,z,p,j,B,r,rfl⟩:=q.form;have hH:=b.holds;have X:=b.waits;obtain⟨⟨dT,G,H,V⟩,e⟩:=D;refine cg eZX Tryz.func151 λA hA=>?_;cbv;refine kK q (λh1 c tb wb E F W R O U uR Z Y N Mu JK cs=>?_);cbv;refine Js (cs.new N) ⟨s,a,x⟩ Z Y b.rows (by omega) (by omega) L (λt Q M=>?_);have xG:jV t c tb wb E F dT (Wf G) H V 0:=M;clear M;have S:Le h t:=R.aV (by simp[O,U,uR]) Q;refine xG.elim (λm1 m2 x3 m3 k3 x4 m4 k4 o I _ _ _ _ _ _ _ u=>?_);rw[zB]at u;cbv;rw[av A];refine cr I ?_;cbv;refine dV u (λK f w l g y m i z p j B r T J=>?_);have C:=P K f w l g y m i z p j B r (S.trans T) J;cbv;exact C
theorem CK{v:Value}(q:fE h v d)(E:sa n d)(Cj:n<2^18)(s:Int)(H:cN d s=D)
 (J:Vh h D.1 D.2 k):Ct 23 [v,.int .i64 s] h k:=by
 obtain⟨b,m,g,a,p,i,e,r,j,f,u,l,rfl⟩:=q.form;have hH:=E.holds;have X:=E.waits;refine cg hKx Tryz.func23 λA F=>?_;cbv;refine kK q (λh1 c tb wb ct cw W S R U uR Y V P Mu JK cs=>?_);have cs:=cs.new P;cbv;refine qV cs s (λh2 z t M hz B=>?_);rw[pj]at B;have w:=S.trans M;have Z:=q.mono w;cases t with
 |false=>
  have Q:D=(d,2):=by rw[<-H];unfold cN;rw[<-B];rfl
  subst Q;cbv;rw[show A .not false=true by rw[F.not];rfl];cbv;refine dV Z (λx b m g a p i e r j f u l C I=>?_);have y:=J x b m g a p i e r j f u l (w.trans C) I;cbv;exact y
 |true=>
  have Q:D=(jE d s,0):=by rw[<-H];unfold cN;rw[<-B];rfl
  subst Q;cbv;rw[show A .not true=false by rw[F.not];rfl];cbv;refine ZK (cs.mono M) Y V E.rows s (by omega) (by omega) (λx L G=>?_);rw[ML,JI]at G;have C:Le h x:=w.aV (by simp[R,U,uR]) L;refine G.elim (λm1 m2 x3 m3 L x4 m4 k4 o N _ _ _ _ _ _ _ K=>?_);rw[zB]at K;cbv;rw[av A];refine cr N ?_;cbv;refine dV K (λO b m g a p i e r j f u l T I=>?_);have y:=J O b m g a p i e r j f u l (C.trans T) I;cbv;exact y
theorem Ue{v:Value}(q:fE h v d)(ok:sa n d)(Cj:n<2^18)(s:Int){D:DB×List cV×Int}(R:bZ d s=D)
 (hk:∀h' a r j e u l f y m g B p V n5 Z,Le h h'->fE h' (.agg #[.slice a r j,.slice e u l,.slice f y m,.slice g B p]) D.1->Sl 161 bz h' (.slice V n5 Z) D.2.1->k (.tuple #[.agg #[.slice a r j,.slice e u l,.slice f y m,.slice g B p],.slice V n5 Z,.int .i64 D.2.2]) h'):Ct 50 [v,.int .i64 s] h k:=by
 obtain⟨a,r,j,e,u,l,f,y,m,g,B,p,rfl⟩:=q.form;have hH:=ok.holds;have ab:=ok.waits;refine cg hKd Tryz.func50 λA hA=>?_;cbv;refine kK q (λh1 c tb wb ct cw W l1 hc ni uR pI oV hW Mu JK cs=>?_);have cs:=cs.new hW;cbv;refine qV cs s (λh2 z t l2 S H=>?_);rw[pj]at H S;have M:=l1.trans l2;have q2:=q.mono M;cases t with
 |false=>
  have K:D=(d,[],2):=by rw[<-R];unfold bZ;rw[<-H];rfl
  subst K;cbv;rw[show A .not false=true by rw[hA.not];rfl];cbv;refine dV q2 (λO a r j e u l f y m g B p E N=>?_);have J:=hk O a r j e u l f y m g B p none 0 0 (M.trans E) N Sl.nil;cbv;exact J
 |true=>
  have aU:dC (bW d.ai s)<d.ai.length:=by have:=jk H.symm;simpa[bW]using this
  obtain⟨w,hw⟩:=aJ aU;have K:D=(⟨d.ao,xW d.ai s,bR d.holds s,bR d.waits s⟩,w.log,0):=by rw[<-R];unfold bZ;rw[<-H,hw];rfl
  subst K;clear R;generalize dC (bW d.ai s)=i at *;have xG:=cs.mono l2;have HO:(Wf d.ai)[i]? =some (w,true):=by unfold Wf;rw[kS,hw];rfl
  refine xG.elim (λm1 U x3 m3 k3 x4 m4 I o C _ _ _ f3 L _ _ _=>?_);have zN:U=d.ai.length:=by rw[f3];simp[Wf]
  have ey:(some (⟨wb,0,none⟩:Addr)).isSome=true/\0<=z/\z<(U:Int):=⟨rfl,S.ix (by omega)⟩;cbv;rw[show A .not true=false by rw[hA.not];rfl];cbv;rw[av A];rw[av A];refine cr C ?_;cbv;refine⟨ey,?_⟩;cbv;refine oT (L.sl f3) HO S.eq (λy1 y2 y3 r7 r9 _=>?_);cbv;refine(Pk r7).mono (λv O hR=>?_);obtain⟨E,nb,eC,rfl,ol⟩:=hR;have uB:=r7.len;have GF:=xG.mono E;have ag:nb∉[c,wb]:=λG=>by
   simp at G;rcases G with rfl|rfl
   .rw[eC]at C;cases C
   obtain⟨x,hx,-⟩:=L.out;rw[eC]at hx;cases hx
  cbv;refine dJM GF oV s (by omega) (by omega) (λP I Y=>?_);rw[JI]at Y;have l4:Le h P:=(M.trans E).aV (by simp[hc,uR]) I;have X:Sl 161 bz P (.slice (zsA nb) y2 y2) w.log:=by
   obtain⟨x1,Q,-⟩:=L.out;have T:cO [161,45] O P:=λb c' e' Km he F=>I b _ F (λG=>by
    simp at G;rcases G with rfl|rfl
    .rw[E _ _ C]at F;cases F;simp at he
    rw[E _ _ Q]at F;cases F;simp at he)
   exact(ol.mono (by exact T)).sl uB
  refine Y.elim (λm1 U x3 m3 k3 x4 m4 I o C _ _ _ _ _ _ _ iu=>?_);rw[zB]at iu;cbv;rw[av A];refine cr C ?_;cbv;refine dV iu (λh5 a r j e u l f y m g B p l5 N=>?_);have J:=hk h5 a r j e u l f y m g B p _ _ _ (l4.trans l5) N (X.mono (l5.t _));cbv;exact J
theorem jV.PW{d:ad}{m p t w:Nat}{T:List ca}{W:List (eY×Bool)}{H u:List bU}{e:Int}{I s:Nat}{f g:Option Addr}{k i l j:Nat}{o:Int}
 (v:h c=some (.cells #[.slice (zsA m) I t,.slice (zsA p) n w,.slice f k i,.slice g l j,.int .u32 o,.int .i32 0,.int .u32 0,.int .i64 e] 148 (0,0)))
 (E:(o=0/\e=0)\/(o=1/\e≠0)) (x:n=W.length) (y:cZ 79 bV h p w W) (z:Sl 253 bu h (.slice f k i) H) (A:Sl 253 bu h (.slice g l j) u) (C:s=T.length)
 (G:∀tys,61∉tys->cO tys h d) (F:d c=h c) (B:cZ 61 bN d m t T)
 (q:h'=bL d c (.cells #[.slice (zsA m) s t,.slice (zsA p) n w,.slice f k i,.slice g l j,.int .u32 o,.int .i32 0,.int .u32 0,.int .i64 e] 148 (0,0))):
 Kp [c] d h'/\jV h' c m p t w T W H u e:=by
 have J:=F.trans v;have lt:∀tys,148∉tys->cO tys d h':=λtys D=>by rw[q];exact cO.set J D
 have r:∀tys,61∉tys->148∉tys->cO tys h h':=λtys a b=>(G tys a).trans (lt tys b);refine⟨by rw[q];exact Kp.set (by simp),s,n,f,k,i,g,l,j,o,by rw[q];exact ae,E,C,B.mono (lt _ (by decide)),x,y.mono (r _ (by decide) (by decide)),z.mono (r _ (by decide) (by decide)),A.mono (r _ (by decide) (by decide))⟩
theorem Rb{v:Value}(q:fE h v d)(n:ByteArray)(M:eD d n=D)
 (N:Vh h D.1 D.2 k):Ct 166 [v,.string n] h k:=by
 obtain⟨e,x,p,f,a,r,j,y,s,l,B,w,rfl⟩:=q.form;have uC:a=d.ai.length:=by obtain⟨_,_,_,_,_,_,_,_,_,_,_,_,ws,he,_,qw,_,_,O⟩:=q.out;cases he;rw[qw.len,<-O,vi]
 refine cg aKO Tryz.func166 λA L=>?_;cbv;refine kK q (λh1 c tb wb ct cw W l1 hc ni uR pI oV hW Mu JK cs=>?_);have cs:=cs.new hW;cbv;refine vp cs n (λh2 z t l2 Y P=>?_);have F:=l1.trans l2;have q2:=q.mono F;cases t with
 |false=>
  have b:D=(d,2):=by rw[<-M];unfold eD;rw[<-P];rfl
  subst b;cbv;rw[show A .not false=true by rw[L.not];rfl];cbv;refine dV q2 (λE e x p f a r j y s l B w S I=>?_);have C:=N E e x p f a r j y s l B w (F.trans S) I;cbv;exact C
 |true=>
  have aU:dC (aS d.ao n)<d.ao.length:=by have:=jk P.symm;simpa[aS]using this
  have b:D=if decide ((d.ai.length:Int)>0)=true then(d,18)else(⟨d.ao.eraseIdx (dC (aS d.ao n)),d.ai,d.holds,d.waits⟩,0):=by rw[<-M];unfold eD;rw[<-P];rfl
  clear M;generalize dC (aS d.ao n)=i at *;generalize K:A .aN .gtr (A .nat a) 0=u;have fu:=K;rw[bC A,L.nat,uC,show Int.ofNat d.ai.length=(d.ai.length:Int)from rfl]at K;rw[K]at b;cbv;rw[show A .not true=false by rw[L.not];rfl];cbv;rw[fu];cases u with
  |true=>have b:D=(d,18):=b;subst b;cbv;refine dV q2 (λE e x p f a r j y s l B w S I=>?_);have C:=N E e x p f a r j y s l B w (F.trans S) I;cbv;exact C
  |false=>
   have b:D=(⟨d.ao.eraseIdx i,d.ai,d.holds,d.waits⟩,0):=b;subst b;have xG:=cs.mono l2;refine xG.elim (λm1 m2 x3 m3 H x4 m4 R o g ho f1 V f3 f4 f6 f7 _=>?_);have jQ:=V.bd;have ko:=Y.succ (A:=A);have Q:(d.ao.eraseIdx i).length=m1-1:=by rw[kQj aU];omega
   cbv;rw[av A];rw[av A];refine cr g ?_;cbv;refine Mv V f1 Y ko (by omega) (λE m O H t3 o3=>?_);have X:E c=h2 c:=(H _ _ g (by simpa using pI)).trans g.symm;have T:=λG hh=>jV.PW (h':=G) g ho f3 f4 f6 f7 (O.trans Q.symm) t3 X o3 hh;have J:=X.trans g;cbv;rw[av A];rw[av A];refine ju J (by simp) (λG U=>?_);obtain⟨R,GY⟩:=T G U;clear T U;have l4:Le h G:=F.aV (bs:=[tb,c]) (by simp[hc,ni]) ((H.sub (by simp)).trans (R.sub (by simp)));refine GY.elim (λm1 m2 x3 m3 H x4 m4 R o g _ _ _ _ _ _ _ Z=>?_);rw[zB]at Z;cbv;rw[av A];refine cr g ?_;cbv;refine dV Z (λh5 e x p f a r j y s l B w l5 I=>?_);have C:=N h5 e x p f a r j y s l B w (l4.trans l5) I;cbv;exact C
theorem aXU{v:Value}(q:fE h v d)(ok:sa n d)(Cj:n<2^18)(s:Int)(GP:-2^63<=s/\s<2^63)(a:ByteArray){D:DB×List Row×Int}(f:rj d s a=D)
 (V:∀h' g B r j C w l E x p F y N n5 P,Le h h'->fE h' (.agg #[.slice g B r,.slice j C w,.slice l E x,.slice p F y]) D.1->Sl 46 bF h' (.slice N n5 P) D.2.1->k (.tuple #[.agg #[.slice g B r,.slice j C w,.slice l E x,.slice p F y],.slice N n5 P,.int .i64 D.2.2]) h'):Ct 156 [v,.int .i64 s,.string a] h k:=by
 obtain⟨g,B,r,j,C,w,l,E,x,p,F,y,rfl⟩:=q.form;have Q:=AM ok (hd:=⟨s,a,false⟩) GP;unfold rj at f;obtain⟨H,M⟩:∃H,cA d ⟨s,a,false⟩=H:=⟨_,rfl⟩;rw[M]at f Q;obtain⟨b,e⟩:=H;have Q:e=0->iQ (aS b.ao a)=true/\iQ (bW b.ai s)=true:=Q;have f:(if decide (e≠0)=true then((b,[],e):DB×List Row×Int)else(b,match b.ao[dC (aS b.ao a)]? with
  |some t=>t.rows
  |none=>[],0))=D:=f
 refine cg eZT Tryz.func156 λA hA=>?_;cbv;refine QF q ok Cj s a false M (λT g B r j C w l E x p F y Z J=>?_);have L:fE T _ b:=J;clear J;generalize G:A .aN .neq e 0=u;have fu:=G;rw[az A]at G;rw[G]at f;cbv;rw[fu];cases u with
 |true=>have f:((b,[],e):DB×List Row×Int)=D:=f;subst f;have I:=V T g B r j C w l E x p F y none 0 0 Z L Sl.nil;cbv;exact I
 |false=>
  have xS:e=0:=jKJ.1 (kz G);subst xS;obtain⟨JE,-⟩:=Q rfl;have O:=jk JE;have O:dC (aS b.ao a)<b.ao.length:=by simpa[aS]using O
  obtain⟨t,X⟩:=aJ O;have f:((b,t.rows,0):DB×List Row×Int)=D:=by rw[<-f,X];rfl
  subst f;cbv;refine kK L (λh2 c tb wb ct cw W l2 hc ni uR pI oV hW Mu JK cs=>?_);cbv;refine vp cs a (λU z t' K Y CR=>?_);generalize dC (aS b.ao a)=i at *;have GF:=cs.mono K;refine GF.elim (λm1 m2 x3 m3 k3 x4 m4 k4 o S _ f1 f2 _ _ _ _ _=>?_);have ey:(some (⟨tb,0,none⟩:Addr)).isSome=true/\0<=z/\z<(m1:Int):=⟨rfl,Y.ix (by omega)⟩;have ng:=(Z.trans l2).trans K;cbv;rw[av A];rw[av A];refine cr S ?_;cbv;refine⟨ey,?_⟩;cbv;refine(f2.sl f1).tQ X Y.eq (o:=4) (m:=1) (by decide) (λcs ar ag=>?_);obtain⟨d2,p1,r1,R,p2,r2,rfl,s1,s2⟩:=ar;have s2:Sl 46 bF U (.slice R p2 r2) t.rows:=s2;have I:=V U g B r j C w l E x p F y R p2 r2 ng (L.mono (l2.trans K)) s2;cbv;refine ag _ _ (Le.refl _) ?_;cbv;refine⟨⟨_,rfl,rfl⟩,?_⟩;cbv;refine cr S ?_;cbv;refine⟨⟨_,rfl,rfl⟩,?_⟩;cbv;exact I
def xj(l:List mD)(nm:ByteArray):Nat->Option Nat
 |0=>none
 |i+1=>match l[i]? with
  |some m=>if decide (m.name=nm)=true then some i else xj l nm i
  |none=>xj l nm i
def mq(d:DB)(s:Int)(nm:ByteArray):DB×Int:=
 if iQ (bW d.ai s)=true then match d.ai[dC (bW d.ai s)]? with
  |some w=>match xj w.marks nm w.marks.length with
   |some k=>(⟨eB d.ao (w.log.drop (fF (((w.marks[k]?).map (·.at_)).getD 0) w.log.length)),d.ai.set (dC (bW d.ai s)) ⟨w.s,w.log.take (fF (((w.marks[k]?).map (·.at_)).getD 0) w.log.length),w.marks.take (k+1)⟩,d.holds,d.waits⟩,0)
   |none=>(d,2)
  |none=>(d,2)
 else(d,2)
theorem _root_.Go.Sx.Kp.bKb{e1 e:Nat}{f i:Array Value}{j l:Nat×Nat}(k:Kp [n,c] h h')(o:h n=some (.cells f e1 j))(p:h c=some (.cells i e l)){tys:List Nat}(q:e1∉tys)(r:e∉tys):cO tys h h':=λb d s K m a=>
 k b _ a (by
  intro g;simp at g;rcases g with rfl|rfl
  .rw[o]at a;cases a;exact q m
  rw[p]at a;cases a;exact r m)
theorem aKw{v:Value}(q:fE h v d)(ok:sa n d)(s:Int)(nm:ByteArray)(hD:mq d s nm=D)
 (hk:Vh h D.1 D.2 k):Ct 161 [v,.int .i64 s,.string nm] h k:=by
 obtain⟨l,N,C,p,O,E,y,P,H,B,Q,J,rfl⟩:=q.form;refine cg eZO Tryz.func161 λA hA=>?_;cbv;refine kK q (λh1 c tb wb ct cw W l1 hc ni uR pI oV hW Mu JK cs=>?_);have cs:=cs.new hW;cbv;refine qV cs s (λh2 z t l2 M ht=>?_);rw[pj]at ht M;have fa:=l1.trans l2;have q2:=q.mono fa;cases t with
 |false=>
  have b:D=(d,2):=by rw[<-hD];unfold mq;rw[<-ht];rfl
  subst b;cbv;rw[show A .not false=true by rw[hA.not];rfl];cbv;refine dV q2 (λR l N C p O E y P H B Q J l3 L=>?_);have U:=hk R l N C p O E y P H B Q J (fa.trans l3) L;cbv;exact U
 |true=>
  have aU:dC (bW d.ai s)<d.ai.length:=by have:=jk ht.symm;simpa[bW]using this
  obtain⟨w,hw⟩:=aJ aU;have b:(match xj w.marks nm w.marks.length with
   |some k=>((⟨eB d.ao (w.log.drop (fF (((w.marks[k]?).map (·.at_)).getD 0) w.log.length)),d.ai.set (dC (bW d.ai s)) ⟨w.s,w.log.take (fF (((w.marks[k]?).map (·.at_)).getD 0) w.log.length),w.marks.take (k+1)⟩,d.holds,d.waits⟩,0):DB×Int)
   |none=>(d,2))=D:=by rw[<-hD];unfold mq;rw[<-ht,hw];rfl
  clear hD;obtain⟨i,hi⟩:∃i,i=dC (bW d.ai s):=⟨_,rfl⟩;rw[<-hi]at b hw M;clear hi aU;have xG:=cs.mono l2;have HO:(Wf d.ai)[i]? =some (w,true):=by unfold Wf;rw[kS,hw];rfl
  refine xG.elim (λm1 m2 x3 m3 k3 x4 m4 k4 o g0 _ _ f2 f3 f4 _ _ _=>?_);have zN:m2=d.ai.length:=by rw[f3];simp[Wf]
  have iv:=(ff.1 hw).1;have ey:(some (⟨wb,0,none⟩:Addr)).isSome=true/\0<=z/\z<(m2:Int):=⟨rfl,M.ix (by omega)⟩;obtain⟨f,wl,a⟩:=w;have b:(match xj a nm a.length with
   |some k=>((⟨eB d.ao (wl.drop (fF (((a[k]?).map (·.at_)).getD 0) wl.length)),d.ai.set i ⟨f,wl.take (fF (((a[k]?).map (·.at_)).getD 0) wl.length),a.take (k+1)⟩,d.holds,d.waits⟩,0):DB×Int)
   |none=>(d,2))=D:=b
  cbv;rw[show A .not true=false by rw[hA.not];rfl];cbv;rw[av A];rw[av A];refine cr g0 ?_;cbv;refine⟨ey,?_⟩;cbv;refine Fj (f4.sl f3) HO M.eq (λy1 y2 y3 e _=>?_);have e:Sl 183 df h2 (.slice y1 y2 y3) a:=e;have rX:=e.len;have aC:=e.bound;have ll:Vf (A .aT .sub .i64 (A .nat y2) 1) y2:=(aZ.nat y2).pred (by omega);obtain⟨I,gQ⟩:∃I:Int->Nat->ad->Prop,∀g m h',I g m h'=∃j:Nat,Vf g j/\m=j/\j<=y2/\h'=h2/\xj a nm a.length=xj a nm j:=⟨_,λ_ _ _=>rfl⟩;cbv;refine aX.go (G:=Int) (λg=>[(12,.v (.int .i64 g))]) (λ_=>[(3,[.slice l N C,.slice p O E,.slice y P H,.slice B Q J]),(6,[.slice none 0 0,.slice none 0 0,.slice none 0 0,.slice none 0 0])]) (λm g h'=>I g m h') y2 (A .aT .sub .i64 (A .nat y2) 1) (by constructor<;>cbv) (by rw[gQ];exact⟨y2,ll,rfl,kB _,rfl,by rw[rX]⟩) ?_
  intro m g h' hI;rw[gQ]at hI;cbv;obtain⟨j,hg,hm,hj,rfl,F⟩:=hI;rw[hg.ge (A:=A)];cases j with
  |zero=>have F:xj a nm a.length=none:=F;rw[F]at b;have b:(d,2)=D:=b;subst b;rw[show decide (1<=0)=false from rfl];cbv;refine dV q2 (λR l N C p O E y P H B Q J l3 L=>?_);have U:=hk R l N C p O E y P H B Q J (fa.trans l3) L;cbv;exact U
  |succ j=>
   have X:aZ g j:=hg.Cc;obtain⟨⟨S,x⟩,hx⟩:=cB a j;have Mb:y1.isSome=true/\0<=g/\g<(y2:Int):=⟨e.bp,X.ix (by omega)⟩;have pV:xj a nm (j+1)=if decide (S=nm)=true then some j else xj a nm j:=by show(match a[j]? with|some m=>if decide (m.name=nm)=true then some j else xj a nm j|none=>xj a nm j)=_;rw[hx]
   rw[pV]at F;have ao:A .kM .eql S nm=decide (S=nm):=eK A ..;rw[show decide (1<=j+1)=true from ak (by omega)];cbv;refine⟨Mb,?_⟩;cbv;refine e.cu hx X.eq (o:=0) (m:=1) (by decide) (λcs r=>?_);have r:cs=[.string S,.int .i64 x]:=r;subst r;cbv;rw[ao];generalize decide (S=nm)=u at *;cases u with
   |false=>
    have F:xj a nm a.length=xj a nm j:=F;have hn:=X.pred (A:=A) (by omega);have jT:I (A .aT .sub .i64 g 1) j h':=by rw[gQ];exact⟨j,hn,rfl,by omega,rfl,F⟩
    cbv;refine⟨j,_,by omega,by constructor<;>cbv,jT⟩
   |true=>
    have F:xj a nm a.length=some j:=F;rw[F]at b;have b:((⟨eB d.ao (wl.drop (fF (((a[j]?).map (·.at_)).getD 0) wl.length)),d.ai.set i ⟨f,wl.take (fF (((a[j]?).map (·.at_)).getD 0) wl.length),a.take (j+1)⟩,d.holds,d.waits⟩,0):DB×Int)=D:=b;rw[hx]at b;have b:((⟨eB d.ao (wl.drop (fF x wl.length)),d.ai.set i ⟨f,wl.take (fF x wl.length),a.take (j+1)⟩,d.holds,d.waits⟩,0):DB×Int)=D:=b;have Ih:=X.succ (A:=A);have Np:=e.Ht (A:=A) (i:=j+1) (by omega);have L:=dy (A:=A) Ih;have al:0<=A .aT .add .i64 g 1/\A .aT .add .i64 g 1<=(y3:Int):=by have:=Ih.eq;omega
    cbv;refine⟨Mb,?_⟩;cbv;refine e.cu hx X.eq (o:=1) (m:=1) (by decide) (λcs r=>?_);have r:cs=[.string S,.int .i64 x]:=r;subst r;cbv;refine VC xG pI oV ok.rows M HO x (λR Z V=>?_);have GF:jV R c tb wb ct cw (eB d.ao (wl.drop (fF x wl.length))) ((Wf d.ai).set i (⟨f,wl.take (fF x wl.length),a⟩,false)) d.holds d.waits 0:=V;clear V;refine GF.elim (λag K x3 m3 k3 x4 m4 k4 o T ho F1 F2 F3 F4 F6 F7 _=>?_);have aD:K=d.ai.length:=by rw[F3];simp[Wf]
    have ax:(some (⟨wb,0,none⟩:Addr)).isSome=true/\0<=z/\z<(K:Int):=⟨rfl,M.ix (by omega)⟩;cbv;rw[av A];rw[av A];refine cr T ?_;cbv;refine⟨al,?_⟩;cbv;refine⟨ax,?_⟩;cbv;have aA:Sl 183 df h' (.slice (A .cut y1 0 (A .nat y3) 2) (j+1) y3) (a.take (j+1)):=Np;have aw:Sl 183 df R (.slice (A .cut y1 0 (A .nat y3) 2) (j+1) y3) (a.take (j+1)):=by obtain⟨a1,ab,-⟩:=f2.out;obtain⟨a2,an,-⟩:=f4.out;exact aA.mono (Z.bKb ab an (by decide) (by decide))
    have aq:((Wf d.ai).set i (⟨f,wl.take (fF x wl.length),a⟩,false))[i]? =some (⟨f,wl.take (fF x wl.length),a⟩,false):=by rw[jKx (by simpa[Wf]using iv)]
    rw[L];refine F4.KT (by decide) aq M.eq rfl (off:=2) (by simp[bV]) (x':=(⟨f,wl.take (fF x wl.length),a.take (j+1)⟩,false)) (λcs r=>?_) (λh4 Y t4 o4=>?_)
    .obtain⟨x1,aF,z1,x2,aE,z2,rfl,j1,j2,j3⟩:=r;exact⟨_,_,_,_,_,_,rfl,j1,aw,λhf=>by cases hf⟩
    have aB:=Y _ _ T (by simpa using oV);have FJ:fE h4 (.agg #[.slice (zsA tb) ag ct,.slice (zsA wb) K cw,.slice x3 m3 k3,.slice x4 m4 k4]) ⟨eB d.ao (wl.drop (fF x wl.length)),d.ai.set i ⟨f,wl.take (fF x wl.length),a.take (j+1)⟩,d.holds,d.waits⟩:=by refine⟨_,_,_,_,_,_,_,_,_,_,_,_,_,rfl,(F2.mono (t4 _ (by decide))).sl F1,o4.sl (by rw[nM];exact F3),F6.mono (t4 _ (by decide)),F7.mono (t4 _ (by decide)),?_⟩;simp only[jKI,zB,List.set_set]
    have l4:Le h h4:=fa.aV (bs:=[tb,wb]) (by simp[ni,uR]) (Z.trans (Y.sub (by simp)));subst b;cbv;rw[av A];refine cr aB ?_;cbv;refine dV FJ (λh5 l N C p O E y P H B Q J l5 L=>?_);have U:=hk h5 l N C p O E y P H B Q J (l4.trans l5) L;cbv;exact U
end Go.S
