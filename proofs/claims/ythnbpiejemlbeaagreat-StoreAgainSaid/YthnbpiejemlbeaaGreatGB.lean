import Derived.Test.YthnbpiejemlbeaaGreatGA
set_option linter.all false
set_option maxRecDepth 100000
set_option maxHeartbeats 8000000
namespace Go.S
open Go.Sx Go.Proofs
variable {d:DB}{D:DB×Int}{n rb vc:Nat}{vb:Option Addr}{r:Row}{k:Value->ad->Prop}{h h':ad}
def eG(d:DB)(hd:bZ)(act:bS->bS×cR×Int):DB×Int:=
 if decide ((cC d hd).2≠0)=true then cC d hd
 else match (cC d hd).1.ao[dE (aU (cC d hd).1.ao hd.table)]?,(cC d hd).1.ai[dE (cf (cC d hd).1.ai hd.s)]? with
  |some t,some w=>
   if decide ((act t).2.2≠19)&&decide ((w.log.length:Int)>=60)then((cC d hd).1,4)
   else if decide ((act t).2.2=0)=true then
    (⟨(cC d hd).1.ao.set (dE (aU (cC d hd).1.ao hd.table)) (act t).1,(cC d hd).1.ai.set (dE (cf (cC d hd).1.ai hd.s)) ⟨w.s,w.log++[⟨hd.table,(act t).2.1.op,(act t).2.1.row⟩],w.marks⟩,(cC d hd).1.holds,(cC d hd).1.waits⟩,0)
   else((cC d hd).1,(act t).2.2)
  |_,_=>cC d hd
theorem VO{v:Value}(q:fD h v d)(ok:sW n d)(CQ:n<2^18)(s:Int)(HI:-2^63<=s/\s<2^63)(a:ByteArray){vn:Nat}(gr:h rb=some (.cells #[.slice vb vn vc] 46 (0,0)))(qr:Sl 45 bG h (.slice vb vn vc) r):
 Ct 47 [v,.zI s,.string a,.func (.func 44) #[] #[.zP rb]] h (λv' h'=>∃v1 e O,v'=.tuple #[v1,.zI e]/\Le h h'/\fD h' v1 O/\(O,e)=eG d ⟨s,a,true⟩ (jA r)):=by
 obtain⟨B,V,J,E,X,L,F,n3,M,I,n4,N,rfl⟩:=q.form;have hH:=ok.holds;have aB:=ok.waits;generalize Q:eG d ⟨s,a,true⟩ (jA r)=D;have Z:=oS ok ⟨s,a,true⟩ HI;have SA:=Bo ok (hd:=⟨s,a,true⟩) HI;unfold eG at Q;obtain⟨D0,SB⟩:∃D0,cC d ⟨s,a,true⟩=D0:=⟨_,rfl⟩;rw[SB]at Q Z SA;obtain⟨⟨dT,b,H,S⟩,e⟩:=D0;refine cB bJF Tryz.func47 λA hA=>?_;cbv;refine lq q (λk c p wb ct cw W l1 hc nO vC qj px hW ND KD cs=>?_);have cs:kO k c p wb ct cw d.ao (Wf d.ai) d.holds d.waits 0:=by rw[hW]at cs;exact cs
 cbv;refine Km cs ⟨s,a,true⟩ qj px ok.rows ip ip SB (λh2 k2 NG=>?_);have yp:kO h2 c p wb ct cw dT (Wf b) H S 0:=NG;clear NG;have Q:(if decide (e≠0)=true then((⟨dT,b,H,S⟩,e):DB×Int)
  else match dT[dE (aU dT a)]?,b[dE (cf b s)]? with
  |some t,some w=>
   if decide (((jA r) t).2.2≠19)&&decide ((w.log.length:Int)>=60)then(⟨dT,b,H,S⟩,4)
   else if decide (((jA r) t).2.2=0)=true then
    (⟨dT.set (dE (aU dT a)) ((jA r) t).1,b.set (dE (cf b s)) ⟨w.s,w.log++[⟨a,((jA r) t).2.1.op,((jA r) t).2.1.row⟩],w.marks⟩,H,S⟩,0)
   else(⟨dT,b,H,S⟩,((jA r) t).2.2)
  |_,_=>(⟨dT,b,H,S⟩,e))=D:=Q
 have SA:e=0->iC (aU dT a)=true/\iC (cf b s)=true:=SA;have ax:mR dT:=Z.ok.rows;clear Z;have l2:Le h h2:=l1.bf (by simp[hc,nO,vC]) k2;have Qs:(Wf b).map (·.1)=b:=by unfold Wf;rw[kXS];simp[Function.comp_def]
 generalize eu:A .aQ .neq e 0=u;have fu:=eu;rw[aJ A]at eu;rw[eu]at Q;cbv;rw[fu];cases u with
 |true=>
  have Y:D=(⟨dT,b,H,S⟩,e):=gg
  refine yp.elim (λm1 m2 x3 m3 k3 x4 m4 k4 o j _ _ _ _ _ _ _ m=>?_);rw[Qs]at m;cbv;rw[av A];refine cy j ?_;cbv;refine eC m (λh3 B V J E X L F n3 M I n4 N l3 g=>?_);cbv;exact⟨_,e,_,rfl,l2.trans l3,g,Y.symm⟩
 |false=>
  have yI:e=0:=kXM.1 (kZX eu);subst yI;obtain⟨Kz,Ky⟩:=SA rfl;have Qd:=jk Kz;have UX:=jk Ky;simp only[aU,cf,kZl]at Qd UX;obtain⟨t,ht⟩:=ay (xs:=dT) (i:=dE (aU dT a)) Qd;obtain⟨w,hw⟩:=ay (xs:=b) (i:=dE (cf b s)) UX;cbv;refine(rQ yp a).mono (λv h3 hR=>?_);obtain⟨l3,zt,tt,rfl,Qq⟩:=hR;obtain⟨K,-⟩:=Qq.at_;have K:bg zt (dE (aU dT a)):=K;cbv;refine(zA (yp.mono l3) s).mono (λv h4 hR=>?_);obtain⟨l4,zw,tw,rfl,Qp⟩:=hR;obtain⟨y,-⟩:=Qp.at_;have y:bg zw (dE (cf b s)):=by have k:bg zw (dE (dR (Wf b) s)):=y;rw[pH]at k;exact k
  have aE:=(HH.1 ht).1;have aD:=(HH.1 hw).1;generalize ZR:dE (aU dT a)=kt at *;generalize ZQ:dE (cf b s)=kw at *;have zg:=l3.trans l4;have MD:=l2.trans zg;have HS:=yp.mono zg;refine HS.elim (λm1 m2 x3 m3 k3 x4 m4 k4 o f0 f1 f2 f3 f4 f5 f6 f7 _=>?_);have zV:m2=b.length:=gg
  have IL:(Wf b)[kw]? =some (w,true):=by grind [Wf]
  have Kv:(some (⟨wb,0,none⟩:Addr)).isSome=true/\0<=zw/\zw<(m2:Int):=⟨rfl,y.ix ip⟩;have GA:(some (⟨p,0,none⟩:Addr)).isSome=true/\0<=zt/\zt<(m1:Int):=⟨rfl,K.ix ip⟩;cbv;rw[av A];rw[av A];refine cy f0 ?_;cbv;refine⟨Kv,?_⟩;cbv;rw[av A];rw[av A];refine cy f0 ?_;cbv;refine⟨GA,?_⟩;cbv;obtain⟨⟨nm,cols,key,only⟩,aA⟩:=t;refine zS (f3.sl f2) ht K.eq (λy1 y2 y3 y4 y5 y6 r1 r2=>?_);have uf:y5<=2^37:=by have k:=ax _ (kQR ht);have h2:=r2.len;grind
  cbv;refine Yw (nm:=nm) (key:=key) (only:=only) r1 r2 (MD _ _ gr) (qr.mono (MD.t _)) uf (λh5 z1 z2 z3 z4 z5 z6 z7 z8 z9 e1 T1 C l5 r3 r4 r5 r6=>?_);have oP:=MD.trans l5;have zu:=HS.mono l5;have Y:D=(if decide (e1≠19)&&decide ((w.log.length:Int)>=60)then(⟨dT,b,H,S⟩,4)
   else if decide (e1=0)=true then(⟨dT.set kt ⟨⟨nm,cols,key,only⟩,T1⟩,b.set kw ⟨w.s,w.log++[⟨a,C.op,C.row⟩],w.marks⟩,H,S⟩,0)else(⟨dT,b,H,S⟩,e1)):=by
   grind
  have fin:∀(e:Int) (R:ad) (v:Value),Le h R->fD R v ⟨dT,b,H,S⟩->D=(⟨dT,b,H,S⟩,e)->∃v1 e1 O,Value.tuple #[v,.zI e]=.tuple #[v1,.zI e1]/\Le h R/\fD R v1 O/\(O,e1)=D:=
   λe R v l r hE=>⟨v,e,_,rfl,l,r,hE.symm⟩
  refine zu.elim (λp1 p2 p3 p4 p5 p6 p7 p8 p9 j i1 i2 i3 i4 i5 i6 i7 m=>?_);rw[Qs]at m;generalize KE:A .aQ .neq e1 19=ak;have aq:=KE;rw[aJ A]at KE;generalize z:A .aQ .eql e1 0=u0;have mW:=z;rw[au A]at z;rw[KE,z]at Y;cbv;rw[aq];cases ak with
  |false=>
   have ao:e1=19:=kXM.1 (kZX KE);have ab:u0=false:=by rw[<-z,ao];rfl
   subst ab;have Y:D=(⟨dT,b,H,S⟩,e1):=Y;cbv;rw[mW];cbv;rw[av A];refine cy j ?_;cbv;refine eC m (λP B V J E X L F n3 M I n4 N U g=>?_);cbv;exact fin e1 _ _ (oP.trans U) g Y
  |true=>
   have Eg:=y.eq;cbv;refine pt (i5.sl i4) IL y.eq (λy1 y2 y3 r7 r9 _=>?_);generalize f:A .aQ .geq (A .nat y2) 60=Xl;have aw:=f;rw[cF A,hA.nat]at f;simp only[kZn]at f;have sy:y2=w.log.length:=r7.len;have Gr:Xl=false->y2<60:=λe=>by rw[e]at f;have:=kZX f;omega
   rw[sy]at f;rw[f]at Y;cbv;rw[aw];cases Xl with
   |true=>
    have Y:D=(⟨dT,b,H,S⟩,4):=Y;have SG:A .aQ .eql 4 0=false:=by rw[au A];rfl
    cbv;rw[SG];cbv;rw[av A];refine cy j ?_;cbv;refine eC m (λP B V J E X L F n3 M I n4 N U g=>?_);cbv;exact fin 4 _ _ (oP.trans U) g Y
   |false=>
    have aZ:=Gr rfl;have nP:w.log.length<60:=ip
    cbv;rw[mW];cases u0 with
    |false=>have Y:D=(⟨dT,b,H,S⟩,e1):=Y;cbv;rw[av A];refine cy j ?_;cbv;refine eC m (λP B V J E X L F n3 M I n4 N U g=>?_);cbv;exact fin e1 _ _ (oP.trans U) g Y
    |true=>
     have iE:e1=0:=kZr z;have Y:D=(⟨dT.set kt ⟨⟨nm,cols,key,only⟩,T1⟩,b.set kw ⟨w.s,w.log++[⟨a,C.op,C.row⟩],w.marks⟩,H,S⟩,0):=Y;subst iE;have Gz:(some (⟨p,0,none⟩:Addr)).isSome=true/\0<=zt/\zt<(p1:Int):=⟨rfl,K.ix ip⟩;cbv;rw[av A];rw[av A];refine cy j ?_;cbv;refine⟨Gz,?_⟩;cbv;have rT:bT.R h5 [.string nm,.slice z1 z2 z3,.zI key,.bool only,.slice z4 z5 z6] ⟨⟨nm,cols,key,only⟩,T1⟩:=⟨_,_,_,_,_,_,rfl,r3,r4⟩;refine i3.setAt dl (i:=kt) ip K.eq rfl rT (λP k6 t6 o6=>?_);have Qk:c≠p:=qj;have g6:=k6 _ _ j (iu Qk);have T:=i5.mono (t6 _ dl);have al:=r5.mono (t6 _ dl);cbv;refine pt (T.sl i4) IL y.eq (λy1 y2 y3 r7 r9 ag=>?_);have UH:=r9 rfl;subst UH;cbv;intro an h7 Qa e7;have l7:Le P h7:=zqs e7 Qa
     have g7:=zqt e7;have qx:=bh (s:=bD) g7 (x:=⟨a,C.op,C.row⟩) ⟨_,_,_,rfl,al.mono (l7.t _)⟩;cbv;refine ag _ _ l7 ?_;cbv;refine zqr ?_;cbv;have sy:=r7.len;refine jI (r7.mono (l7.t _)) qx ip rfl dl (by simp only at sy;omega) (λaG c8 h8 aC l8 aF o8=>?_);have G:=l7.trans l8;have az:=T.mono (G.t _);have s8:=o8.sl (n:=y3+1) (by simp only[kXy,kXm];simp only at sy;omega);cbv;refine az.LY dl (i:=kw) IL y.eq rfl (off:=1) (by simp[cu]) (x':=(⟨w.s,w.log++[⟨a,C.op,C.row⟩],w.marks⟩,false)) (λcs ar=>?_) (λh9 k9 t9 o9=>?_)
     .obtain⟨y1,y2,y3,y4,y5,y6,rfl,q1,q2,q3⟩:=ar;exact⟨_,_,_,y4,y5,y6,rfl,s8,q2,λe=>by cases e⟩
     have g8:=G _ _ g6;have Qj:c≠wb:=px;have g9:=k9 _ _ g8 (iu Qj);have Wm:Le h h9:=by have k:Le h P:=oP.bf (iu nO) k6;exact(k.trans G).bf (iu vC) k9
     have Gy:fD h9 (.agg #[.slice (zsA p) p1 ct,.slice (zsA wb) p2 cw,.slice p3 p4 p5,.slice p6 p7 p8]) ⟨dT.set kt ⟨⟨nm,cols,key,only⟩,T1⟩,b.set kw ⟨w.s,w.log++[⟨a,C.op,C.row⟩],w.marks⟩,H,S⟩:=by refine⟨_,_,_,_,_,_,_,_,_,_,_,_,_,rfl,((o6.mono (G.t _)).mono (t9 _ dl)).sl (by rw[kJE];exact i2),o9.sl (by rw[kJE];exact i4),((i6.mono (t6 _ dl)).mono (G.t _)).mono (t9 _ dl),((i7.mono (t6 _ dl)).mono (G.t _)).mono (t9 _ dl),?_⟩;rw[kJD,Qs]
     cbv;rw[av A];refine cy g9 ?_;cbv;refine eC Gy (λiE B V J E X L F n3 M I n4 N gD g=>?_);cbv;exact⟨_,0,_,rfl,Wm.trans gD,g,Y.symm⟩
theorem VN{v:Value}(q:fD h v d)(ok:sW n d)(CQ:n<2^18)(s:Int)(HI:-2^63<=s/\s<2^63)(a:ByteArray){kv:jq}(gr:h rb=some (.cells #[.zI kv.k,.zI kv.n,.string kv.s] 45 (0,0))):
 Ct 47 [v,.zI s,.string a,.func (.func 276) #[] #[.zP rb]] h (λv' h'=>∃v1 e O,v'=.tuple #[v1,.zI e]/\Le h h'/\fD h' v1 O/\(O,e)=eG d ⟨s,a,true⟩ (fC kv)):=by
 obtain⟨B,V,J,E,X,L,F,n3,M,I,n4,N,rfl⟩:=q.form;have hH:=ok.holds;have aB:=ok.waits;generalize Q:eG d ⟨s,a,true⟩ (fC kv)=D;have Z:=oS ok ⟨s,a,true⟩ HI;have SA:=Bo ok (hd:=⟨s,a,true⟩) HI;unfold eG at Q;obtain⟨D0,SB⟩:∃D0,cC d ⟨s,a,true⟩=D0:=⟨_,rfl⟩;rw[SB]at Q Z SA;obtain⟨⟨dT,b,H,S⟩,e⟩:=D0;refine cB bJF Tryz.func47 λA hA=>?_;cbv;refine lq q (λk c p wb ct cw W l1 hc nO vC qj px hW ND KD cs=>?_);have cs:kO k c p wb ct cw d.ao (Wf d.ai) d.holds d.waits 0:=by rw[hW]at cs;exact cs
 cbv;refine Km cs ⟨s,a,true⟩ qj px ok.rows ip ip SB (λh2 k2 NG=>?_);have yp:kO h2 c p wb ct cw dT (Wf b) H S 0:=NG;clear NG;have Q:(if decide (e≠0)=true then((⟨dT,b,H,S⟩,e):DB×Int)
  else match dT[dE (aU dT a)]?,b[dE (cf b s)]? with
  |some t,some w=>
   if decide (((fC kv) t).2.2≠19)&&decide ((w.log.length:Int)>=60)then(⟨dT,b,H,S⟩,4)
   else if decide (((fC kv) t).2.2=0)=true then
    (⟨dT.set (dE (aU dT a)) ((fC kv) t).1,b.set (dE (cf b s)) ⟨w.s,w.log++[⟨a,((fC kv) t).2.1.op,((fC kv) t).2.1.row⟩],w.marks⟩,H,S⟩,0)
   else(⟨dT,b,H,S⟩,((fC kv) t).2.2)
  |_,_=>(⟨dT,b,H,S⟩,e))=D:=Q
 have SA:e=0->iC (aU dT a)=true/\iC (cf b s)=true:=SA;have ax:mR dT:=Z.ok.rows;clear Z;have l2:Le h h2:=l1.bf (by simp[hc,nO,vC]) k2;have Qs:(Wf b).map (·.1)=b:=by unfold Wf;rw[kXS];simp[Function.comp_def]
 generalize eu:A .aQ .neq e 0=u;have fu:=eu;rw[aJ A]at eu;rw[eu]at Q;cbv;rw[fu];cases u with
 |true=>
  have Y:D=(⟨dT,b,H,S⟩,e):=gg
  refine yp.elim (λm1 m2 x3 m3 k3 x4 m4 k4 o j _ _ _ _ _ _ _ m=>?_);rw[Qs]at m;cbv;rw[av A];refine cy j ?_;cbv;refine eC m (λh3 B V J E X L F n3 M I n4 N l3 g=>?_);cbv;exact⟨_,e,_,rfl,l2.trans l3,g,Y.symm⟩
 |false=>
  have yI:e=0:=kXM.1 (kZX eu);subst yI;obtain⟨Kz,Ky⟩:=SA rfl;have Qd:=jk Kz;have UX:=jk Ky;simp only[aU,cf,kZl]at Qd UX;obtain⟨t,ht⟩:=ay (xs:=dT) (i:=dE (aU dT a)) Qd;obtain⟨w,hw⟩:=ay (xs:=b) (i:=dE (cf b s)) UX;cbv;refine(rQ yp a).mono (λv h3 hR=>?_);obtain⟨l3,zt,tt,rfl,Qq⟩:=hR;obtain⟨K,-⟩:=Qq.at_;have K:bg zt (dE (aU dT a)):=K;cbv;refine(zA (yp.mono l3) s).mono (λv h4 hR=>?_);obtain⟨l4,zw,tw,rfl,Qp⟩:=hR;obtain⟨y,-⟩:=Qp.at_;have y:bg zw (dE (cf b s)):=by have k:bg zw (dE (dR (Wf b) s)):=y;rw[pH]at k;exact k
  have aE:=(HH.1 ht).1;have aD:=(HH.1 hw).1;generalize ZR:dE (aU dT a)=kt at *;generalize ZQ:dE (cf b s)=kw at *;have zg:=l3.trans l4;have MD:=l2.trans zg;have HS:=yp.mono zg;refine HS.elim (λm1 m2 x3 m3 k3 x4 m4 k4 o f0 f1 f2 f3 f4 f5 f6 f7 _=>?_);have zV:m2=b.length:=gg
  have IL:(Wf b)[kw]? =some (w,true):=by grind [Wf]
  have Kv:(some (⟨wb,0,none⟩:Addr)).isSome=true/\0<=zw/\zw<(m2:Int):=⟨rfl,y.ix ip⟩;have GA:(some (⟨p,0,none⟩:Addr)).isSome=true/\0<=zt/\zt<(m1:Int):=⟨rfl,K.ix ip⟩;cbv;rw[av A];rw[av A];refine cy f0 ?_;cbv;refine⟨Kv,?_⟩;cbv;rw[av A];rw[av A];refine cy f0 ?_;cbv;refine⟨GA,?_⟩;cbv;obtain⟨⟨nm,cols,key,only⟩,aA⟩:=t;refine zS (f3.sl f2) ht K.eq (λy1 y2 y3 y4 y5 y6 r1 r2=>?_);have uf:y5<=2^37:=by have k:=ax _ (kQR ht);have h2:=r2.len;grind
  cbv;refine Rp (nm:=nm) (key:=key) (only:=only) r1 r2 (kv:=kv) (MD _ _ gr) uf (λh5 z1 z2 z3 z4 z5 z6 z7 z8 z9 e1 T1 C l5 r3 r4 r5 r6=>?_);have oP:=MD.trans l5;have zu:=HS.mono l5;have Y:D=(if decide (e1≠19)&&decide ((w.log.length:Int)>=60)then(⟨dT,b,H,S⟩,4)
   else if decide (e1=0)=true then(⟨dT.set kt ⟨⟨nm,cols,key,only⟩,T1⟩,b.set kw ⟨w.s,w.log++[⟨a,C.op,C.row⟩],w.marks⟩,H,S⟩,0)else(⟨dT,b,H,S⟩,e1)):=by
   grind
  have fin:∀(e:Int) (R:ad) (v:Value),Le h R->fD R v ⟨dT,b,H,S⟩->D=(⟨dT,b,H,S⟩,e)->∃v1 e1 O,Value.tuple #[v,.zI e]=.tuple #[v1,.zI e1]/\Le h R/\fD R v1 O/\(O,e1)=D:=
   λe R v l r hE=>⟨v,e,_,rfl,l,r,hE.symm⟩
  refine zu.elim (λp1 p2 p3 p4 p5 p6 p7 p8 p9 j i1 i2 i3 i4 i5 i6 i7 m=>?_);rw[Qs]at m;generalize KE:A .aQ .neq e1 19=ak;have aq:=KE;rw[aJ A]at KE;generalize z:A .aQ .eql e1 0=u0;have mW:=z;rw[au A]at z;rw[KE,z]at Y;cbv;rw[aq];cases ak with
  |false=>
   have ao:e1=19:=kXM.1 (kZX KE);have ab:u0=false:=by rw[<-z,ao];rfl
   subst ab;have Y:D=(⟨dT,b,H,S⟩,e1):=Y;cbv;rw[mW];cbv;rw[av A];refine cy j ?_;cbv;refine eC m (λP B V J E X L F n3 M I n4 N U g=>?_);cbv;exact fin e1 _ _ (oP.trans U) g Y
  |true=>
   have Eg:=y.eq;cbv;refine pt (i5.sl i4) IL y.eq (λy1 y2 y3 r7 r9 _=>?_);generalize f:A .aQ .geq (A .nat y2) 60=Xl;have aw:=f;rw[cF A,hA.nat]at f;simp only[kZn]at f;have sy:y2=w.log.length:=r7.len;have Gr:Xl=false->y2<60:=λe=>by rw[e]at f;have:=kZX f;omega
   rw[sy]at f;rw[f]at Y;cbv;rw[aw];cases Xl with
   |true=>
    have Y:D=(⟨dT,b,H,S⟩,4):=Y;have SG:A .aQ .eql 4 0=false:=by rw[au A];rfl
    cbv;rw[SG];cbv;rw[av A];refine cy j ?_;cbv;refine eC m (λP B V J E X L F n3 M I n4 N U g=>?_);cbv;exact fin 4 _ _ (oP.trans U) g Y
   |false=>
    have aZ:=Gr rfl;have nP:w.log.length<60:=ip
    cbv;rw[mW];cases u0 with
    |false=>have Y:D=(⟨dT,b,H,S⟩,e1):=Y;cbv;rw[av A];refine cy j ?_;cbv;refine eC m (λP B V J E X L F n3 M I n4 N U g=>?_);cbv;exact fin e1 _ _ (oP.trans U) g Y
    |true=>
     have iE:e1=0:=kZr z;have Y:D=(⟨dT.set kt ⟨⟨nm,cols,key,only⟩,T1⟩,b.set kw ⟨w.s,w.log++[⟨a,C.op,C.row⟩],w.marks⟩,H,S⟩,0):=Y;subst iE;have Gz:(some (⟨p,0,none⟩:Addr)).isSome=true/\0<=zt/\zt<(p1:Int):=⟨rfl,K.ix ip⟩;cbv;rw[av A];rw[av A];refine cy j ?_;cbv;refine⟨Gz,?_⟩;cbv;have rT:bT.R h5 [.string nm,.slice z1 z2 z3,.zI key,.bool only,.slice z4 z5 z6] ⟨⟨nm,cols,key,only⟩,T1⟩:=⟨_,_,_,_,_,_,rfl,r3,r4⟩;refine i3.setAt dl (i:=kt) ip K.eq rfl rT (λP k6 t6 o6=>?_);have Qk:c≠p:=qj;have g6:=k6 _ _ j (iu Qk);have T:=i5.mono (t6 _ dl);have al:=r5.mono (t6 _ dl);cbv;refine pt (T.sl i4) IL y.eq (λy1 y2 y3 r7 r9 ag=>?_);have UH:=r9 rfl;subst UH;cbv;intro an h7 Qa e7;have l7:Le P h7:=zqs e7 Qa
     have g7:=zqt e7;have qx:=bh (s:=bD) g7 (x:=⟨a,C.op,C.row⟩) ⟨_,_,_,rfl,al.mono (l7.t _)⟩;cbv;refine ag _ _ l7 ?_;cbv;refine zqr ?_;cbv;have sy:=r7.len;refine jI (r7.mono (l7.t _)) qx ip rfl dl (by simp only at sy;omega) (λaG c8 h8 aC l8 aF o8=>?_);have G:=l7.trans l8;have az:=T.mono (G.t _);have s8:=o8.sl (n:=y3+1) (by simp only[kXy,kXm];simp only at sy;omega);cbv;refine az.LY dl (i:=kw) IL y.eq rfl (off:=1) (by simp[cu]) (x':=(⟨w.s,w.log++[⟨a,C.op,C.row⟩],w.marks⟩,false)) (λcs ar=>?_) (λh9 k9 t9 o9=>?_)
     .obtain⟨y1,y2,y3,y4,y5,y6,rfl,q1,q2,q3⟩:=ar;exact⟨_,_,_,y4,y5,y6,rfl,s8,q2,λe=>by cases e⟩
     have g8:=G _ _ g6;have Qj:c≠wb:=px;have g9:=k9 _ _ g8 (iu Qj);have Wm:Le h h9:=by have k:Le h P:=oP.bf (iu nO) k6;exact(k.trans G).bf (iu vC) k9
     have Gy:fD h9 (.agg #[.slice (zsA p) p1 ct,.slice (zsA wb) p2 cw,.slice p3 p4 p5,.slice p6 p7 p8]) ⟨dT.set kt ⟨⟨nm,cols,key,only⟩,T1⟩,b.set kw ⟨w.s,w.log++[⟨a,C.op,C.row⟩],w.marks⟩,H,S⟩:=by refine⟨_,_,_,_,_,_,_,_,_,_,_,_,_,rfl,((o6.mono (G.t _)).mono (t9 _ dl)).sl (by rw[kJE];exact i2),o9.sl (by rw[kJE];exact i4),((i6.mono (t6 _ dl)).mono (G.t _)).mono (t9 _ dl),((i7.mono (t6 _ dl)).mono (G.t _)).mono (t9 _ dl),?_⟩;rw[kJD,Qs]
     cbv;rw[av A];refine cy g9 ?_;cbv;refine eC Gy (λiE B V J E X L F n3 M I n4 N gD g=>?_);cbv;exact⟨_,0,_,rfl,Wm.trans gD,g,Y.symm⟩
def oN(d:DB)(s:Int)(name:ByteArray)(r:Row):DB×Int:=eG d ⟨s,name,true⟩ (jA r)
def lZ(d:DB)(s:Int)(name:ByteArray)(k:jq):DB×Int:=eG d ⟨s,name,true⟩ (fC k)
def cA(d:DB)(s:Int):DB×Int:=if iC (cf d.ai s)=true then(jo d s,0)else(d,2)
def bQ(d:DB)(s:Int):DB×List cR×Int:=
 if iC (cf d.ai s)=true then(⟨d.ao,tU d.ai s,bX d.holds s,bX d.waits s⟩,match d.ai[dE (cf d.ai s)]? with
  |some w=>w.log
  |none=>[],0)
 else(d,[],2)
def dY(d:DB)(name:ByteArray):DB×Int:=
 if iC (aU d.ao name)=true then if decide ((d.ai.length:Int)>0)=true then(d,18)else(⟨d.ao.eraseIdx (dE (aU d.ao name)),d.ai,d.holds,d.waits⟩,0)
 else(d,2)
def qI(d:DB)(s:Int)(name:ByteArray):DB×List Row×Int:=
 if decide ((cC d ⟨s,name,false⟩).2≠0)=true then((cC d ⟨s,name,false⟩).1,[],(cC d ⟨s,name,false⟩).2)
 else((cC d ⟨s,name,false⟩).1,match (cC d ⟨s,name,false⟩).1.ao[dE (aU (cC d ⟨s,name,false⟩).1.ao name)]? with
  |some t=>t.rows
  |none=>[],0)
theorem Ae(ws:List eJ):(Wf ws).map (·.1)=ws:=by unfold Wf;rw[kXS];simp[Function.comp_def]
theorem Yx{v:Value}(q:fD h v d)(O:sW n d)(C:n<2^18)(s:Int)(H:-2^63<=s/\s<2^63)(a:ByteArray){x:Nat}(P:Sl 45 bG h (.slice vb x vc) r)(G:oN d s a r=D)
 (L:WM h D.1 D.2 k):Ct 14 [v,.zI s,.string a,.slice vb x vc] h k:=by
 obtain⟨b,p,i,c,t,j,f,u,m,g,w,o,rfl⟩:=q.form;refine cB fZH Tryz.func14 λA R=>?_;cbv;intro Q E K e1;have l:Le h E:=zqs e1 K
 have B:=zqt e1;cbv;refine(VO (q.mono l) O C s H a B (P.mono (l.t _))).mono (λv F hR=>?_);obtain⟨S,e,y,M,N,hd,I⟩:=hR;have Z:(y,e)=D:=I.trans G;subst Z;obtain⟨b,p,i,c,t,j,f,u,m,g,w,o,J⟩:=hd.form;rw[M,J];have z:=L F b p i c t j f u m g w o (l.trans N) gg;cbv;exact z
theorem aZM{v:Value}(q:fD h v d)(M:sW n d)(C:n<2^18)(s:Int)(H:-2^63<=s/\s<2^63)(a:ByteArray)(kv:jq)(E:lZ d s a kv=D)
 (I:WM h D.1 D.2 k):Ct 154 [v,.zI s,.string a,.agg #[.zI kv.k,.zI kv.n,.string kv.s]] h k:=by
 obtain⟨b,p,i,c,r,j,f,t,l,g,u,m,rfl⟩:=q.form;refine cB bXj Tryz.func154 λA O=>?_;cbv;intro N y K e1;have o:Le h y:=zqs e1 K
 have x:=zqt e1;cbv;refine(VN (q.mono o) M C s H a (kv:=kv) x).mono (λv B hR=>?_);obtain⟨P,e,w,J,L,hd,F⟩:=hR;have Z:(w,e)=D:=F.trans E;subst Z;obtain⟨b,p,i,c,r,j,f,t,l,g,u,m,G⟩:=hd.form;rw[J,G];have z:=I B b p i c r j f t l g u m (o.trans L) gg;cbv;exact z
theorem kO.new{c b wb t a:Nat}{W:List (eJ×Bool)}(cs:kO h c b wb t a d.ao W d.holds d.waits 0)(e:W=d.ai.map λw=>(w,true)):kO h c b wb t a d.ao (Wf d.ai) d.holds d.waits 0:=by rw[e]at cs;exact cs
theorem Sn{v:Value}(q:fD h v d)(b:sW n d)(CQ:n<2^18)(s:Int)(a:ByteArray)(x:Bool)(K:cC d ⟨s,a,x⟩=D)
 (O:WM h D.1 D.2 k):Ct 151 [v,.zI s,.string a,.bool x] h k:=by
 obtain⟨f,u,l,g,w,m,i,y,p,j,z,r,rfl⟩:=q.form;have hH:=b.holds;have Z:=b.waits;obtain⟨⟨dT,G,F,V⟩,e⟩:=D;refine cB eKt Tryz.func151 λA hA=>?_;cbv;refine lq q (λh1 c tb wb C E W R M U vC Y X L ND KD cs=>?_);cbv;refine Km (cs.new L) ⟨s,a,x⟩ Y X b.rows ip ip K (λt Q N=>?_);have yp:kO t c tb wb C E dT (Wf G) F V 0:=N;clear N;have S:Le h t:=R.bf (by simp[M,U,vC]) Q;refine yp.elim (λm1 m2 x3 m3 k3 x4 m4 k4 o I _ _ _ _ _ _ _ H=>?_);rw[Ae]at H;cbv;rw[av A];refine cy I ?_;cbv;refine eC H (λJ f u l g w m i y p j z r T P=>?_);have B:=O J f u l g w m i y p j z r (S.trans T) P;cbv;exact B
theorem wu{v:Value}(q:fD h v d)(C:sW n d)(CQ:n<2^18)(s:Int)(hD:cA d s=D)
 (F:WM h D.1 D.2 k):Ct 23 [v,.zI s] h k:=by
 obtain⟨b,m,g,a,p,i,e,r,j,f,u,l,rfl⟩:=q.form;have hH:=C.holds;have Z:=C.waits;refine cB iXf Tryz.func23 λA E=>?_;cbv;refine lq q (λh1 c tb wb ct cw W Q N S X V T M ND KD cs=>?_);have cs:=cs.new M;cbv;refine rO cs s (λh2 z t J hz O=>?_);rw[pH]at O;have x:=Q.trans J;have U:=q.mono x;cases t with
 |false=>
  have Y:D=(d,2):=by grind [cA]
  subst Y;cbv;rw[show A .not false=true by rw[E.not];rfl];cbv;refine eC U (λy b m g a p i e r j f u l B P=>?_);have w:=F y b m g a p i e r j f u l (x.trans B) P;cbv;exact w
 |true=>
  have Y:D=(jo d s,0):=by grind [cA]
  subst Y;cbv;rw[show A .not true=false by rw[E.not];rfl];cbv;refine aXk (cs.mono J) V T C.rows s ip ip (λy I H=>?_);rw[NX,KB]at H;have B:Le h y:=x.bf (by simp[N,S,X]) I;refine H.elim (λm1 m2 x3 m3 I x4 m4 k4 o K _ _ _ _ _ _ _ G=>?_);rw[Ae]at G;cbv;rw[av A];refine cy K ?_;cbv;refine eC G (λL b m g a p i e r j f u l R P=>?_);have w:=F L b m g a p i e r j f u l (B.trans R) P;cbv;exact w
theorem VC{v:Value}(q:fD h v d)(ok:sW n d)(CQ:n<2^18)(s:Int){D:DB×List cR×Int}(hD:bQ d s=D)
 (hk:∀h' a r j e u l f y m g B p T n5 U,Le h h'->fD h' (.agg #[.slice a r j,.slice e u l,.slice f y m,.slice g B p]) D.1->Sl 161 bD h' (.slice T n5 U) D.2.1->k (.tuple #[.agg #[.slice a r j,.slice e u l,.slice f y m,.slice g B p],.slice T n5 U,.zI D.2.2]) h'):Ct 50 [v,.zI s] h k:=by
 obtain⟨a,r,j,e,u,l,f,y,m,g,B,p,rfl⟩:=q.form;have hH:=ok.holds;have ab:=ok.waits;refine cB iQL Tryz.func50 λA X=>?_;cbv;refine lq q (λh1 c tb wb ct cw W l1 hc nO vC qj px hW ND KD cs=>?_);have cs:=cs.new hW;cbv;refine rO cs s (λh2 z t l2 N ht=>?_);rw[pH]at ht N;have J:=l1.trans l2;have q2:=q.mono J;cases t with
 |false=>
  have Y:D=(d,[],2):=by grind [bQ]
  subst Y;cbv;rw[show A .not false=true by rw[X.not];rfl];cbv;refine eC q2 (λK a r j e u l f y m g B p C P=>?_);have H:=hk K a r j e u l f y m g B p none 0 0 (J.trans C) P Sl.nil;cbv;exact H
 |true=>
  have aZ:dE (cf d.ai s)<d.ai.length:=by have:=jk ht.symm;simpa[cf]using this
  obtain⟨w,hw⟩:=ay aZ;have Y:D=(⟨d.ao,tU d.ai s,bX d.holds s,bX d.waits s⟩,w.log,0):=by grind [bQ]
  subst Y;clear hD;generalize dE (cf d.ai s)=i at *;have yp:=cs.mono l2;have IL:(Wf d.ai)[i]? =some (w,true):=by grind [Wf]
  refine yp.elim (λm1 R x3 m3 k3 x4 m4 G o F _ _ _ V I _ _ _=>?_);have zV:R=d.ai.length:=by rw[V];simp[Wf]
  have eL:(some (⟨wb,0,none⟩:Addr)).isSome=true/\0<=z/\z<(R:Int):=⟨rfl,N.ix ip⟩;cbv;rw[show A .not true=false by rw[X.not];rfl];cbv;rw[av A];rw[av A];refine cy F ?_;cbv;refine⟨eL,?_⟩;cbv;refine pt (I.sl V) IL N.eq (λy1 y2 y3 r7 r9 _=>?_);cbv;refine(QE r7).mono (λv K hR=>?_);obtain⟨C,nb,eM,rfl,ol⟩:=hR;have sy:=r7.len;have Hx:=yp.mono C;have ag:nb∉[c,wb]:=λE=>by
   simp at E;rcases E with rfl|rfl
   .grind
   obtain⟨x,hx,-⟩:=I.out
   grind
  cbv;refine eQj Hx px s ip ip (λL G S=>?_);rw[KB]at S;have l4:Le h L:=(J.trans C).bf (by simp[hc,vC]) G;have O:Sl 161 bD L (.slice (zsA nb) y2 y2) w.log:=by
   obtain⟨x1,Z,-⟩:=I.out;have Q:cX [161,45] K L:=λb c' e' Lm he M=>G b _ M (λE=>by
    simp at E;rcases E with rfl|rfl
    .rw[C _ _ F]at M;grind
    rw[C _ _ Z]at M;grind)
   exact(ol.mono (by exact Q)).sl sy
  refine S.elim (λm1 R x3 m3 k3 x4 m4 G o F _ _ _ _ _ _ _ iH=>?_);rw[Ae]at iH;cbv;rw[av A];refine cy F ?_;cbv;refine eC iH (λh5 a r j e u l f y m g B p l5 P=>?_);have H:=hk h5 a r j e u l f y m g B p _ _ _ (l4.trans l5) P (O.mono (l5.t _));cbv;exact H
theorem kO.Rr{d:ad}{c m wb t w:Nat}{T:List bS}{W:List (eJ×Bool)}{H s:List bZ}{e:Int}{G r:Nat}{f g:Option Addr}{k i l j:Nat}{o:Int}
 (u:h c=some (.cells #[.slice (zsA m) G t,.slice (zsA wb) n w,.slice f k i,.slice g l j,.zU o,.int .i32 0,.zU 0,.zI e] 148 (0,0)))
 (D:(o=0/\e=0)\/(o=1/\e≠0)) (v:n=W.length) (x:dt 79 cu h wb w W) (y:Sl 253 bC h (.slice f k i) H) (z:Sl 253 bC h (.slice g l j) s) (B:r=T.length)
 (F:∀tys,61∉tys->cX tys h d) (E:d c=h c) (A:dt 61 bT d m t T)
 (p:h'=bO d c (.cells #[.slice (zsA m) r t,.slice (zsA wb) n w,.slice f k i,.slice g l j,.zU o,.int .i32 0,.zU 0,.zI e] 148 (0,0))):
 Kp [c] d h'/\kO h' c m wb t w T W H s e:=by
 have Q:=E.trans u;have lt:∀tys,148∉tys->cX tys d h':=λtys C=>by rw[p];exact cX.set Q C
 have q:∀tys,61∉tys->148∉tys->cX tys h h':=λtys a b=>(F tys a).trans (lt tys b);refine⟨by rw[p];exact Kp.set io,r,n,f,k,i,g,l,j,o,by rw[p];exact ae,D,B,A.mono (lt _ dl),v,x.mono (q _ dl dl),y.mono (q _ dl dl),z.mono (q _ dl dl)⟩
theorem SX{v:Value}(q:fD h v d)(n:ByteArray)(hD:dY d n=D)
 (K:WM h D.1 D.2 k):Ct 166 [v,.string n] h k:=by
 obtain⟨e,x,p,f,a,r,j,y,s,l,B,w,rfl⟩:=q.form;have vd:a=d.ai.length:=by obtain⟨_,_,_,_,_,_,_,_,_,_,_,_,ws,he,_,qw,_,_,L⟩:=q.out;cases he;rw[qw.len,<-L,kZl]
 refine cB bXi Tryz.func166 λA J=>?_;cbv;refine lq q (λh1 c tb wb ct cw W l1 hc nO vC qj px hW ND KD cs=>?_);have cs:=cs.new hW;cbv;refine vV cs n (λh2 z t V T ht=>?_);have F:=l1.trans V;have q2:=q.mono F;cases t with
 |false=>
  have b:D=(d,2):=by grind [dY]
  subst b;cbv;rw[show A .not false=true by rw[J.not];rfl];cbv;refine eC q2 (λE e x p f a r j y s l B w N P=>?_);have C:=K E e x p f a r j y s l B w (F.trans N) P;cbv;exact C
 |true=>
  have aZ:dE (aU d.ao n)<d.ao.length:=by have:=jk ht.symm;simpa[aU]using this
  have b:D=if decide ((d.ai.length:Int)>0)=true then(d,18)else(⟨d.ao.eraseIdx (dE (aU d.ao n)),d.ai,d.holds,d.waits⟩,0):=by grind [dY]
  clear hD;generalize dE (aU d.ao n)=i at *;generalize I:A .aQ .gtr (A .nat a) 0=u;have fu:=I;rw[bF A,J.nat,vd,show Int.ofNat d.ai.length=(d.ai.length:Int)from rfl]at I;rw[I]at b;cbv;rw[show A .not true=false by rw[J.not];rfl];cbv;rw[fu];cases u with
  |true=>have b:D=(d,18):=b;subst b;cbv;refine eC q2 (λE e x p f a r j y s l B w N P=>?_);have C:=K E e x p f a r j y s l B w (F.trans N) P;cbv;exact C
  |false=>
   have b:D=(⟨d.ao.eraseIdx i,d.ai,d.holds,d.waits⟩,0):=b;subst b;have yp:=cs.mono V;refine yp.elim (λY m2 x3 m3 H x4 m4 M o g ho f1 R f3 f4 f6 f7 _=>?_);have kE:=R.bd;have ld:=T.succ (A:=A);have X:(d.ao.eraseIdx i).length=Y-1:=gg
   cbv;rw[av A];rw[av A];refine cy g ?_;cbv;refine NF R f1 T ld ip (λE m L H t3 o3=>?_);have Z:E c=h2 c:=(H _ _ g (iu qj)).trans g.symm;have O:=λG hh=>kO.Rr (h':=G) g ho f3 f4 f6 f7 (L.trans X.symm) t3 Z o3 hh;have S:=Z.trans g;cbv;rw[av A];rw[av A];refine jE S io (λG Q=>?_);obtain⟨M,HS⟩:=O G Q;clear O Q;have l4:Le h G:=F.bf (bs:=[tb,c]) (by simp[hc,nO]) ((H.sub io).trans (M.sub io));refine HS.elim (λY m2 x3 m3 H x4 m4 M o g _ _ _ _ _ _ _ U=>?_);rw[Ae]at U;cbv;rw[av A];refine cy g ?_;cbv;refine eC U (λh5 e x p f a r j y s l B w l5 P=>?_);have C:=K h5 e x p f a r j y s l B w (l4.trans l5) P;cbv;exact C
theorem aJq{v:Value}(q:fD h v d)(ok:sW n d)(CQ:n<2^18)(s:Int)(HI:-2^63<=s/\s<2^63)(a:ByteArray){D:DB×List Row×Int}(f:qI d s a=D)
 (V:∀h' g B r j C w l E x p F y N n5 O,Le h h'->fD h' (.agg #[.slice g B r,.slice j C w,.slice l E x,.slice p F y]) D.1->Sl 46 bK h' (.slice N n5 O) D.2.1->k (.tuple #[.agg #[.slice g B r,.slice j C w,.slice l E x,.slice p F y],.slice N n5 O,.zI D.2.2]) h'):Ct 156 [v,.zI s,.string a] h k:=by
 obtain⟨g,B,r,j,C,w,l,E,x,p,F,y,rfl⟩:=q.form;have S:=Bo ok (hd:=⟨s,a,false⟩) HI;unfold qI at f;obtain⟨H,M⟩:∃H,cC d ⟨s,a,false⟩=H:=⟨_,rfl⟩;rw[M]at f S;obtain⟨b,e⟩:=H;have S:e=0->iC (aU b.ao a)=true/\iC (cf b.ai s)=true:=S;have f:(if decide (e≠0)=true then((b,[],e):DB×List Row×Int)else(b,match b.ao[dE (aU b.ao a)]? with
  |some t=>t.rows
  |none=>[],0))=D:=f
 refine cB eKp Tryz.func156 λA hA=>?_;cbv;refine Sn q ok CQ s a false M (λT g B r j C w l E x p F y Y K=>?_);have L:fD T _ b:=K;clear K;generalize G:A .aQ .neq e 0=u;have fu:=G;rw[aJ A]at G;rw[G]at f;cbv;rw[fu];cases u with
 |true=>have f:((b,[],e):DB×List Row×Int)=D:=f;subst f;have I:=V T g B r j C w l E x p F y none 0 0 Y L Sl.nil;cbv;exact I
 |false=>
  have yI:e=0:=kXM.1 (kZX G);subst yI;obtain⟨Kz,-⟩:=S rfl;have Q:=jk Kz;have Q:dE (aU b.ao a)<b.ao.length:=by simpa[aU]using Q
  obtain⟨t,ht⟩:=ay Q;have f:((b,t.rows,0):DB×List Row×Int)=D:=gg
  subst f;cbv;refine lq L (λh2 c tb wb ct cw W Z hc nO vC qj px hW ND KD cs=>?_);cbv;refine vV cs a (λU z t' J X Bi=>?_);generalize dE (aU b.ao a)=i at *;have Hx:=cs.mono J;refine Hx.elim (λm1 m2 x3 m3 k3 x4 m4 k4 o R _ f1 f2 _ _ _ _ _=>?_);have eL:(some (⟨tb,0,none⟩:Addr)).isSome=true/\0<=z/\z<(m1:Int):=⟨rfl,X.ix ip⟩;have nN:=(Y.trans Z).trans J;cbv;rw[av A];rw[av A];refine cy R ?_;cbv;refine⟨eL,?_⟩;cbv;refine(f2.sl f1).sJ ht X.eq (o:=4) (m:=1) dl (λcs ar ag=>?_);obtain⟨d2,p1,r1,P,p2,r2,rfl,s1,s2⟩:=ar;have s2:Sl 46 bK U (.slice P p2 r2) t.rows:=s2;have I:=V U g B r j C w l E x p F y P p2 r2 nN (L.mono (Z.trans J)) s2;cbv;refine ag _ _ (Le.refl _) ?_;cbv;refine zqr ?_;cbv;refine cy R ?_;cbv;refine zqr ?_;cbv;exact I
def xW(l:List mS)(nm:ByteArray):Nat->Option Nat
 |0=>none
 |i+1=>match l[i]? with
  |some m=>if decide (m.name=nm)=true then some i else xW l nm i
  |none=>xW l nm i
def mu(d:DB)(s:Int)(nm:ByteArray):DB×Int:=
 if iC (cf d.ai s)=true then match d.ai[dE (cf d.ai s)]? with
  |some w=>match xW w.marks nm w.marks.length with
   |some k=>(⟨ea d.ao (w.log.drop (fP (((w.marks[k]?).map (·.at_)).getD 0) w.log.length)),d.ai.set (dE (cf d.ai s)) ⟨w.s,w.log.take (fP (((w.marks[k]?).map (·.at_)).getD 0) w.log.length),w.marks.take (k+1)⟩,d.holds,d.waits⟩,0)
   |none=>(d,2)
  |none=>(d,2)
 else(d,2)
theorem _root_.Go.Sx.Kp.cQC{a e1 e:Nat}{c f:Array Value}{g i:Nat×Nat}(k:Kp [n,a] h h')(m:h n=some (.cells c e1 g))(o:h a=some (.cells f e i)){tys:List Nat}(p:e1∉tys)(q:e∉tys):cX tys h h':=λb d l L r j=>
 k b _ j (by
  intro Q
  grind)
theorem bQP{v:Value}(q:fD h v d)(ok:sW n d)(s:Int)(nm:ByteArray)(hD:mu d s nm=D)
 (hk:WM h D.1 D.2 k):Ct 161 [v,.zI s,.string nm] h k:=by
 obtain⟨f,K,B,l,L,C,p,M,E,y,N,H,rfl⟩:=q.form;refine cB eKk Tryz.func161 λA hA=>?_;cbv;refine lq q (λh1 c tb wb ct cw W l1 hc nO vC qj px hW ND KD cs=>?_);have cs:=cs.new hW;cbv;refine rO cs s (λh2 z t l2 J ht=>?_);rw[pH]at ht J;have Y:=l1.trans l2;have q2:=q.mono Y;cases t with
 |false=>
  have b:D=(d,2):=by grind [mu]
  subst b;cbv;rw[show A .not false=true by rw[hA.not];rfl];cbv;refine eC q2 (λO f K B l L C p M E y N H l3 P=>?_);have S:=hk O f K B l L C p M E y N H (Y.trans l3) P;cbv;exact S
 |true=>
  have aZ:dE (cf d.ai s)<d.ai.length:=by have:=jk ht.symm;simpa[cf]using this
  obtain⟨w,hw⟩:=ay aZ;have b:(match xW w.marks nm w.marks.length with
   |some k=>((⟨ea d.ao (w.log.drop (fP (((w.marks[k]?).map (·.at_)).getD 0) w.log.length)),d.ai.set (dE (cf d.ai s)) ⟨w.s,w.log.take (fP (((w.marks[k]?).map (·.at_)).getD 0) w.log.length),w.marks.take (k+1)⟩,d.holds,d.waits⟩,0):DB×Int)
   |none=>(d,2))=D:=by grind [mu]
  clear hD;obtain⟨i,hi⟩:∃i,i=dE (cf d.ai s):=⟨_,rfl⟩;rw[<-hi]at b hw J;clear hi aZ;have yp:=cs.mono l2;have IL:(Wf d.ai)[i]? =some (w,true):=by grind [Wf]
  refine yp.elim (λm1 m2 x3 m3 k3 x4 m4 k4 o g0 _ _ f2 f3 f4 _ _ _=>?_);have zV:m2=d.ai.length:=by rw[f3];simp[Wf]
  have ic:=(HH.1 hw).1;have eL:(some (⟨wb,0,none⟩:Addr)).isSome=true/\0<=z/\z<(m2:Int):=⟨rfl,J.ix ip⟩;obtain⟨ws,wl,a⟩:=w;have b:(match xW a nm a.length with
   |some k=>((⟨ea d.ao (wl.drop (fP (((a[k]?).map (·.at_)).getD 0) wl.length)),d.ai.set i ⟨ws,wl.take (fP (((a[k]?).map (·.at_)).getD 0) wl.length),a.take (k+1)⟩,d.holds,d.waits⟩,0):DB×Int)
   |none=>(d,2))=D:=b
  cbv;rw[show A .not true=false by rw[hA.not];rfl];cbv;rw[av A];rw[av A];refine cy g0 ?_;cbv;refine⟨eL,?_⟩;cbv;refine Ga (f4.sl f3) IL J.eq (λy1 y2 y3 e _=>?_);have e:Sl 183 dw h2 (.slice y1 y2 y3) a:=e;have sS:=e.len;have aC:=e.bound;have ly:WJ (A .aX .sub .i64 (A .nat y2) 1) y2:=(bg.nat y2).pred ip;obtain⟨I,gX⟩:∃I:Int->Nat->ad->Prop,∀g m h',I g m h'=∃j:Nat,WJ g j/\m=j/\j<=y2/\h'=h2/\xW a nm a.length=xW a nm j:=⟨_,λ_ _ _=>rfl⟩;cbv;refine ba.gz (G:=Int) (λg=>[(12,.v (.zI g))]) (λ_=>[(3,[.slice f K B,.slice l L C,.slice p M E,.slice y N H]),(6,[.zN,.zN,.zN,.zN])]) (λm g h'=>I g m h') y2 (A .aX .sub .i64 (A .nat y2) 1) gg ?_
  intro m g h' hI;rw[gX]at hI;cbv;obtain⟨j,hg,hm,hj,rfl,F⟩:=hI;rw[hg.ge (A:=A)];cases j with
  |zero=>have F:xW a nm a.length=none:=F;rw[F]at b;have b:(d,2)=D:=b;subst b;rw[show decide (1<=0)=false from rfl];cbv;refine eC q2 (λO f K B l L C p M E y N H l3 P=>?_);have S:=hk O f K B l L C p M E y N H (Y.trans l3) P;cbv;exact S
  |succ j=>
   have R:bg g j:=hg.CI;obtain⟨⟨Q,x⟩,hx⟩:=cK a j;have Nl:y1.isSome=true/\0<=g/\g<(y2:Int):=⟨e.bu,R.ix ip⟩;have qS:xW a nm (j+1)=if decide (Q=nm)=true then some j else xW a nm j:=by
    grind [xW,hx]
   rw[qS]at F;have aw:A .lu .eql Q nm=decide (Q=nm):=eV A ..;rw[show decide (1<=j+1)=true from kS ip];cbv;refine⟨Nl,?_⟩;cbv;refine e.cI hx R.eq (o:=0) (m:=1) dl (λcs r=>?_);have r:cs=[.string Q,.zI x]:=r;subst r;cbv;rw[aw];generalize decide (Q=nm)=u at *;cases u with
   |false=>
    have F:xW a nm a.length=xW a nm j:=F;have hn:=R.pred (A:=A) ip;have kL:I (A .aX .sub .i64 g 1) j h':=gg
    cbv;refine zqn j _ ip kL
   |true=>
    have F:xW a nm a.length=some j:=F;rw[F]at b;have b:((⟨ea d.ao (wl.drop (fP (((a[j]?).map (·.at_)).getD 0) wl.length)),d.ai.set i ⟨ws,wl.take (fP (((a[j]?).map (·.at_)).getD 0) wl.length),a.take (j+1)⟩,d.holds,d.waits⟩,0):DB×Int)=D:=b;rw[hx]at b;have b:((⟨ea d.ao (wl.drop (fP x wl.length)),d.ai.set i ⟨ws,wl.take (fP x wl.length),a.take (j+1)⟩,d.holds,d.waits⟩,0):DB×Int)=D:=b;have Jc:=R.succ (A:=A);have OL:=e.Ip (A:=A) (i:=j+1) ip;have P:=dJ (A:=A) Jc;have ak:0<=A .aX .add .i64 g 1/\A .aX .add .i64 g 1<=(y3:Int):=by have:=Jc.eq;omega
    cbv;refine⟨Nl,?_⟩;cbv;refine e.cI hx R.eq (o:=1) (m:=1) dl (λcs r=>?_);have r:cs=[.string Q,.zI x]:=r;subst r;cbv;refine Xi yp qj px ok.rows J IL x (λO V U=>?_);have Hx:kO O c tb wb ct cw (ea d.ao (wl.drop (fP x wl.length))) ((Wf d.ai).set i (⟨ws,wl.take (fP x wl.length),a⟩,false)) d.holds d.waits 0:=U;clear U;refine Hx.elim (λag X x3 m3 k3 x4 m4 k4 o T ho F1 F2 F3 F4 F6 F7 _=>?_);have aB:X=d.ai.length:=gg
    have an:(some (⟨wb,0,none⟩:Addr)).isSome=true/\0<=z/\z<(X:Int):=⟨rfl,J.ix ip⟩;cbv;rw[av A];rw[av A];refine cy T ?_;cbv;refine⟨ak,?_⟩;cbv;refine⟨an,?_⟩;cbv;have ax:Sl 183 dw h' (.slice (A .cut y1 0 (A .nat y3) 2) (j+1) y3) (a.take (j+1)):=OL;have aq:Sl 183 dw O (.slice (A .cut y1 0 (A .nat y3) 2) (j+1) y3) (a.take (j+1)):=by obtain⟨a1,ab,-⟩:=f2.out;obtain⟨a2,al,-⟩:=f4.out;exact ax.mono (V.cQC ab al dl dl)
    have ao:((Wf d.ai).set i (⟨ws,wl.take (fP x wl.length),a⟩,false))[i]? =some (⟨ws,wl.take (fP x wl.length),a⟩,false):=by
     grind
    rw[P];refine F4.LY dl ao J.eq rfl (off:=2) (by simp[cu]) (x':=(⟨ws,wl.take (fP x wl.length),a.take (j+1)⟩,false)) (λcs r=>?_) (λh4 Z t4 o4=>?_)
    .obtain⟨x1,aE,z1,x2,aD,z2,rfl,j1,j2,j3⟩:=r;exact⟨_,_,_,_,_,_,rfl,j1,aq,λhf=>by cases hf⟩
    have aA:=Z _ _ T (iu px);have Gy:fD h4 (.agg #[.slice (zsA tb) ag ct,.slice (zsA wb) X cw,.slice x3 m3 k3,.slice x4 m4 k4]) ⟨ea d.ao (wl.drop (fP x wl.length)),d.ai.set i ⟨ws,wl.take (fP x wl.length),a.take (j+1)⟩,d.holds,d.waits⟩:=by refine⟨_,_,_,_,_,_,_,_,_,_,_,_,_,rfl,(F2.mono (t4 _ dl)).sl F1,o4.sl gg,F6.mono (t4 _ dl),F7.mono (t4 _ dl),?_⟩;simp only[kJD,Ae,List.set_set]
    have l4:Le h h4:=Y.bf (bs:=[tb,wb]) (by simp[nO,vC]) (V.trans (Z.sub io));subst b;cbv;rw[av A];refine cy aA ?_;cbv;refine eC Gy (λh5 f K B l L C p M E y N H l5 P=>?_);have S:=hk h5 f K B l L C p M E y N H (l4.trans l5) P;cbv;exact S
end Go.S
