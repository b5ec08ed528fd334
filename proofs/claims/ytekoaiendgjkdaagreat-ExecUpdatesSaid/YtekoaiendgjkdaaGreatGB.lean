import Derived.Test.YtekoaiendgjkdaaGreatGA
set_option linter.unusedVariables false
set_option linter.unusedSimpArgs false
set_option linter.unusedSectionVars false
set_option maxRecDepth 100000
set_option maxHeartbeats 8000000
namespace Go.S
open Go.Sx Go.Proofs
def eT(d:DB)(hd:bZ)(act:cE->cE×iX×Int):DB×Int:=
 if decide ((ay d hd).2≠0)=true then ay d hd
 else match (ay d hd).1.aE[dr (aR (ay d hd).1.aE hd.table)]?,(ay d hd).1.au[dr (cA (ay d hd).1.au hd.s)]? with
  |some t,some w=>
   if decide ((act t).2.2≠19)&&decide ((w.log.length:Int)>=60)then((ay d hd).1,4)
   else if decide ((act t).2.2=0)=true then
    (⟨(ay d hd).1.aE.set (dr (aR (ay d hd).1.aE hd.table)) (act t).1,(ay d hd).1.au.set (dr (cA (ay d hd).1.au hd.s)) ⟨w.s,w.log++[⟨hd.table,(act t).2.1.op,(act t).2.1.row⟩],w.marks⟩,(ay d hd).1.holds,(ay d hd).1.waits⟩,0)
   else((ay d hd).1,(act t).2.2)
  |_,_=>ay d hd
theorem HQ{d:DB}{h:ad}{v:Value}(q:gj h v d){n:Nat}(ok:wX n d)(gP:n<2^18)(s:Int)(iQ:-2^63<=s/\s<2^63)(name:ByteArray){rb:Nat}{r:Row}{vb:Option Addr}{vn vc:Nat}(gr:h rb=some (.cells #[.slice vb vn vc] 59 (0,0)))(qr:Sl 61 bq h (.slice vb vn vc) r):
 Ct 165 [v,.int .i64 s,.string name,.func (.func 164) #[] #[.pointer (some ⟨rb,0,none⟩)]] h (fun v' h'=>∃v1 e d',v'=.tuple #[v1,.int .i64 e]/\Le h h'/\gj h' v1 d'/\(d',e)=eT d ⟨s,name,true⟩ (cJ r)):=by
 obtain⟨A,hA⟩:=Ar.ex;obtain⟨b1,n1,c1,b2,n2,c2,b3,n3,c3,b4,n4,c4,rfl⟩:=q.form;have hH:=ok.holds;have hWt:=ok.waits;generalize hD:eT d ⟨s,name,true⟩ (cJ r)=D;have hHk:=rA ok ⟨s,name,true⟩ iQ;have hOn:=BO ok (hd:=⟨s,name,true⟩) iQ;unfold eT at hD;obtain⟨D0,hHD⟩:∃D0,ay d ⟨s,name,true⟩=D0:=⟨_,rfl⟩;rw[hHD]at hD hHk hOn;obtain⟨⟨dT,dW,dH,nq⟩,e⟩:=D0;refine ah A (ar T165.aA T165.bm) Tryz.func165 rfl (by kernel_rfl) ?_;cbv;refine sg q (fun h1 c tb wb ct cw W l1 hc su vM tR rH hW RO Lz cs=>?_);have cs:jh h1 c tb wb ct cw d.aE (Wf d.au) d.holds d.waits 0:=by rw[hW]at cs;exact cs
 cbv;refine Fm cs ⟨s,name,true⟩ tR rH ok.rows (by omega) (by omega) hHD (fun h2 k2 LO=>?_);have IB:jh h2 c tb wb ct cw dT (Wf dW) dH nq 0:=LO;clear LO;have hD:(if decide (e≠0)=true then((⟨dT,dW,dH,nq⟩,e):DB×Int)
  else match dT[dr (aR dT name)]?,dW[dr (cA dW s)]? with
  |some t,some w=>
   if decide (((cJ r) t).2.2≠19)&&decide ((w.log.length:Int)>=60)then(⟨dT,dW,dH,nq⟩,4)
   else if decide (((cJ r) t).2.2=0)=true then
    (⟨dT.set (dr (aR dT name)) ((cJ r) t).1,dW.set (dr (cA dW s)) ⟨w.s,w.log++[⟨name,((cJ r) t).2.1.op,((cJ r) t).2.1.row⟩],w.marks⟩,dH,nq⟩,0)
   else(⟨dT,dW,dH,nq⟩,((cJ r) t).2.2)
  |_,_=>(⟨dT,dW,dH,nq⟩,e))=D:=hD
 have hOn:e=0->lK (aR dT name)=true/\lK (cA dW s)=true:=hOn;have hRw:jg dT:=hHk.ok.rows;clear hHk;have l2:Le h h2:=l1.df (by simp[hc,su,vM]) k2;have hWf:(Wf dW).map (·.1)=dW:=by unfold Wf;rw[List.map_map];simp[Function.comp_def]
 generalize eu:A .aG .neq e 0=u;have fu:=eu;rw[aB A]at eu;rw[eu]at hD;cbv;rw[fu];cases u with
 |true=>
  have iZ:D=(⟨dT,dW,dH,nq⟩,e):=by rw[<-hD];rfl
  refine IB.elim (fun m1 m2 x3 m3 k3 x4 m4 k4 o g0 _ _ _ _ _ _ _ sW=>?_);rw[hWf]at sW;cbv;rw[ai A];refine av g0 rfl rfl ?_;cbv;refine gK sW (fun h3 b1 n1 c1 b2 n2 c2 b3 n3 c3 b4 n4 c4 l3 kV=>?_);cbv;exact⟨_,e,_,rfl,l2.trans l3,kV,iZ.symm⟩
 |false=>
  have lk:e=0:=Decidable.not_not.1 (of_decide_eq_false eu);subst lk;obtain⟨Eb,Hr⟩:=hOn rfl;have hkt:=nz Eb;have hkw:=nz Hr;simp only[aR,cA,List.length_map]at hkt hkw;obtain⟨t,ht⟩:=aI (xs:=dT) (i:=dr (aR dT name)) hkt;obtain⟨w,hw⟩:=aI (xs:=dW) (i:=dr (cA dW s)) hkw;cbv;refine(zo IB name).mono (fun v h3 hR=>?_);obtain⟨l3,zt,tt,rfl,hbt2⟩:=hR;obtain⟨DO,-⟩:=hbt2.at_;have DO:aS zt (dr (aR dT name)):=DO;cbv;refine(CV (IB.mono l3) s).mono (fun v h4 hR=>?_);obtain⟨l4,zw,tw,rfl,hbw2⟩:=hR;obtain⟨OO,-⟩:=hbw2.at_;have OO:aS zw (dr (cA dW s)):=by have h1:aS zw (dr (dz (Wf dW) s)):=OO;rw[mN]at h1;exact h1
  have hktl:=(List.getElem?_eq_some_iff.1 ht).1;have hkwl:=(List.getElem?_eq_some_iff.1 hw).1;generalize hkte:dr (aR dT name)=kt at *;generalize hkwe:dr (cA dW s)=kw at *;have H9:=l3.trans l4;have Ty:=l2.trans H9;have cs4:=IB.mono H9;refine cs4.elim (fun m1 m2 x3 m3 k3 x4 m4 k4 o f0 f1 f2 f3 f4 f5 f6 f7 _=>?_);have tN:m2=dW.length:=by rw[f4];simp[Wf]
  have Xn:(Wf dW)[kw]? =some (w,true):=by unfold Wf;rw[List.getElem?_map,hw];rfl
  have Vp:(some (⟨wb,0,none⟩:Addr)).isSome=true/\0<=zw/\zw<(m2:Int):=⟨rfl,OO.ix (by omega)⟩;have Vq:(some (⟨tb,0,none⟩:Addr)).isSome=true/\0<=zt/\zt<(m1:Int):=⟨rfl,DO.ix (by omega)⟩;cbv;rw[ai A];rw[ai A];refine av f0 rfl rfl ?_;cbv;refine⟨Vp,?_⟩;cbv;rw[ai A];rw[ai A];refine av f0 rfl rfl ?_;cbv;refine⟨Vq,?_⟩;cbv;obtain⟨⟨nm,cols,key,only⟩,rows⟩:=t;refine zQ (f3.sl f2) ht DO.eq (fun y1 y2 y3 y4 y5 y6 r1 r2=>?_);have Hd:y5<=2^37:=by have h1:=hRw _ (List.mem_of_getElem? ht);have h2:=r2.len;have h1:rows.length<=2^36:=h1;have h2:y5=rows.length:=h2;omega
  cbv;refine S1 (nm:=nm) (key:=key) (only:=only) r1 r2 (Ty _ _ gr) (qr.mono (Ty.t _)) Hd (fun h5 z1 z2 z3 z4 z5 z6 z7 z8 z9 e1 T1 C1 l5 r3 r4 r5 r6=>?_);have yz:=Ty.trans l5;have FH:=cs4.mono l5;have iZ:D=(if decide (e1≠19)&&decide ((w.log.length:Int)>=60)then(⟨dT,dW,dH,nq⟩,4)
   else if decide (e1=0)=true then(⟨dT.set kt ⟨⟨nm,cols,key,only⟩,T1⟩,dW.set kw ⟨w.s,w.log++[⟨name,C1.op,C1.row⟩],w.marks⟩,dH,nq⟩,0)else(⟨dT,dW,dH,nq⟩,e1)):=by
   rw[<-hD];simp only[Bool.false_eq_true,if_false];rw[ht,hw];simp only;rw[<-r6]
  have fin:∀(e:Int) (hh:ad) (v:Value),Le h hh->gj hh v ⟨dT,dW,dH,nq⟩->D=(⟨dT,dW,dH,nq⟩,e)->∃v1 e1 d',Value.tuple #[v,.int .i64 e]=.tuple #[v1,.int .i64 e1]/\Le h hh/\gj hh v1 d'/\(d',e1)=D:=
   fun e hh v l r hE=>⟨v,e,_,rfl,l,r,hE.symm⟩
  refine FH.elim (fun p1 p2 p3 p4 p5 p6 p7 p8 p9 g0 i1 i2 i3 i4 i5 i6 i7 sW=>?_);rw[hWf]at sW;generalize XN:A .aG .neq e1 19=u19;have f19:=XN;rw[aB A]at XN;generalize e00:A .aG .eql e1 0=u0;have HA:=e00;rw[aw A]at e00;rw[XN,e00]at iZ;cbv;rw[f19];cases u19 with
  |false=>
   have h19:e1=19:=Decidable.not_not.1 (of_decide_eq_false XN);have hu0:u0=false:=by rw[<-e00,h19];rfl
   subst hu0;have iZ:D=(⟨dT,dW,dH,nq⟩,e1):=iZ;cbv;rw[HA];cbv;rw[ai A];refine av g0 rfl rfl ?_;cbv;refine gK sW (fun h6 b1 n1 c1 b2 n2 c2 b3 n3 c3 b4 n4 c4 l6 kV=>?_);cbv;exact fin e1 _ _ (yz.trans l6) kV iZ
  |true=>
   have CQ:=OO.eq;cbv;refine zR (i5.sl i4) Xn OO.eq (fun y1 y2 y3 r7 r9 _=>?_);generalize Wl:A .aG .geq (A .nat y2) 60=u60;have f60:=Wl;rw[bS A,hA.nat]at Wl;simp only[Int.ofNat_eq_natCast]at Wl;have KE:y2=w.log.length:=r7.len;have ZH:u60=false->y2<60:=fun e=>by rw[e]at Wl;have:=of_decide_eq_false Wl;omega
   rw[KE]at Wl;rw[Wl]at iZ;cbv;rw[f60];cases u60 with
   |true=>
    have iZ:D=(⟨dT,dW,dH,nq⟩,4):=iZ;have B2:A .aG .eql 4 0=false:=by rw[aw A];rfl
    cbv;rw[B2];cbv;rw[ai A];refine av g0 rfl rfl ?_;cbv;refine gK sW (fun h6 b1 n1 c1 b2 n2 c2 b3 n3 c3 b4 n4 c4 l6 kV=>?_);cbv;exact fin 4 _ _ (yz.trans l6) kV iZ
   |false=>
    have aK:=ZH rfl;have hlog:w.log.length<60:=by omega
    cbv;rw[HA];cases u0 with
    |false=>have iZ:D=(⟨dT,dW,dH,nq⟩,e1):=iZ;cbv;rw[ai A];refine av g0 rfl rfl ?_;cbv;refine gK sW (fun h6 b1 n1 c1 b2 n2 c2 b3 n3 c3 b4 n4 c4 l6 kV=>?_);cbv;exact fin e1 _ _ (yz.trans l6) kV iZ
    |true=>
     have kx:e1=0:=of_decide_eq_true e00;have iZ:D=(⟨dT.set kt ⟨⟨nm,cols,key,only⟩,T1⟩,dW.set kw ⟨w.s,w.log++[⟨name,C1.op,C1.row⟩],w.marks⟩,dH,nq⟩,0):=iZ;subst kx;have Z0:(some (⟨tb,0,none⟩:Addr)).isSome=true/\0<=zt/\zt<(p1:Int):=⟨rfl,DO.ix (by omega)⟩;cbv;rw[ai A];rw[ai A];refine av g0 rfl rfl ?_;cbv;refine⟨Z0,?_⟩;cbv;have rT:cY.R h5 [.string nm,.slice z1 z2 z3,.int .i64 key,.bool only,.slice z4 z5 z6] ⟨⟨nm,cols,key,only⟩,T1⟩:=⟨_,_,_,_,_,_,rfl,r3,r4⟩;refine i3.setAt (by decide) (i:=kt) (by omega) DO.eq rfl rT (fun h6 k6 t6 o6=>?_);have hctb:c≠tb:=tR;have g6:=k6 _ _ g0 (by simpa using hctb);have i56:=i5.mono (t6 _ (by decide));have r56:=r5.mono (t6 _ (by decide));cbv;refine zR (i56.sl i4) Xn OO.eq (fun y1 y2 y3 r7 r9 ag=>?_);have hy3:=r9 rfl;subst hy3;cbv;intro nb7 h7 hnb7 e7;have l7:Le h6 h7:=by rw[e7];exact Le.set hnb7
     have g7:=(congrFun e7 nb7).trans af;have qx:=bU (s:=gM) g7 (x:=⟨name,C1.op,C1.row⟩) ⟨_,_,_,rfl,r56.mono (l7.t _)⟩;cbv;refine ag _ _ l7 ?_;cbv;refine⟨⟨_,rfl,rfl⟩,?_⟩;cbv;have KE:=r7.len;refine lM (r7.mono (l7.t _)) qx (by omega) rfl (by decide) (by simp only at KE;omega) (fun nb8 c8 h8 hnb8 l8 hc8 o8=>?_);have Xh:=l7.trans l8;have i58:=i56.mono (Xh.t _);have s8:=o8.sl (n:=y3+1) (by simp only[List.length_append,List.length_singleton];simp only at KE;omega);cbv;refine i58.Jk (by decide) (i:=kw) Xn OO.eq rfl (off:=1) (by simp[cf]) (x':=(⟨w.s,w.log++[⟨name,C1.op,C1.row⟩],w.marks⟩,false)) (fun cs aC=>?_) (fun h9 k9 t9 o9=>?_)
     ·obtain⟨y1,y2,y3,y4,y5,y6,rfl,q1,q2,q3⟩:=aC;exact⟨_,_,_,y4,y5,y6,rfl,s8,q2,fun e=>by cases e⟩
     have g8:=Xh _ _ g6;have hcwb:c≠wb:=rH;have g9:=k9 _ _ g8 (by simpa using hcwb);have lh9:Le h h9:=by have h1:Le h h6:=yz.df (by simpa using su) k6;exact(h1.trans Xh).df (by simpa using vM) k9
     have Hq:gj h9 (.agg #[.slice (some ⟨tb,0,none⟩) p1 ct,.slice (some ⟨wb,0,none⟩) p2 cw,.slice p3 p4 p5,.slice p6 p7 p8]) ⟨dT.set kt ⟨⟨nm,cols,key,only⟩,T1⟩,dW.set kw ⟨w.s,w.log++[⟨name,C1.op,C1.row⟩],w.marks⟩,dH,nq⟩:=by refine⟨_,_,_,_,_,_,_,_,_,_,_,_,_,rfl,((o6.mono (Xh.t _)).mono (t9 _ (by decide))).sl (by rw[List.length_set];exact i2),o9.sl (by rw[List.length_set];exact i4),((i6.mono (t6 _ (by decide))).mono (Xh.t _)).mono (t9 _ (by decide)),((i7.mono (t6 _ (by decide))).mono (Xh.t _)).mono (t9 _ (by decide)),?_⟩;rw[List.map_set,hWf]
     cbv;rw[ai A];refine av g9 rfl rfl ?_;cbv;refine gK Hq (fun kx b1 n1 c1 b2 n2 c2 b3 n3 c3 b4 n4 c4 mZ kV=>?_);cbv;exact⟨_,0,_,rfl,lh9.trans mZ,kV,iZ.symm⟩
theorem change58T{d:DB}{h:ad}{v:Value}(q:gj h v d){n:Nat}(ok:wX n d)(gP:n<2^18)(s:Int)(iQ:-2^63<=s/\s<2^63)(name:ByteArray){rb:Nat}{kv:dg}(gr:h rb=some (.cells #[.int .i64 kv.k,.int .i64 kv.n,.string kv.s] 61 (0,0))):
 Ct 165 [v,.int .i64 s,.string name,.func (.func 249) #[] #[.pointer (some ⟨rb,0,none⟩)]] h (fun v' h'=>∃v1 e d',v'=.tuple #[v1,.int .i64 e]/\Le h h'/\gj h' v1 d'/\(d',e)=eT d ⟨s,name,true⟩ (LG kv)):=by
 obtain⟨A,hA⟩:=Ar.ex;obtain⟨b1,n1,c1,b2,n2,c2,b3,n3,c3,b4,n4,c4,rfl⟩:=q.form;have hH:=ok.holds;have hWt:=ok.waits;generalize hD:eT d ⟨s,name,true⟩ (LG kv)=D;have hHk:=rA ok ⟨s,name,true⟩ iQ;have hOn:=BO ok (hd:=⟨s,name,true⟩) iQ;unfold eT at hD;obtain⟨D0,hHD⟩:∃D0,ay d ⟨s,name,true⟩=D0:=⟨_,rfl⟩;rw[hHD]at hD hHk hOn;obtain⟨⟨dT,dW,dH,nq⟩,e⟩:=D0;refine ah A (ar T165.aA T165.bm) Tryz.func165 rfl (by kernel_rfl) ?_;cbv;refine sg q (fun h1 c tb wb ct cw W l1 hc su vM tR rH hW RO Lz cs=>?_);have cs:jh h1 c tb wb ct cw d.aE (Wf d.au) d.holds d.waits 0:=by rw[hW]at cs;exact cs
 cbv;refine Fm cs ⟨s,name,true⟩ tR rH ok.rows (by omega) (by omega) hHD (fun h2 k2 LO=>?_);have IB:jh h2 c tb wb ct cw dT (Wf dW) dH nq 0:=LO;clear LO;have hD:(if decide (e≠0)=true then((⟨dT,dW,dH,nq⟩,e):DB×Int)
  else match dT[dr (aR dT name)]?,dW[dr (cA dW s)]? with
  |some t,some w=>
   if decide (((LG kv) t).2.2≠19)&&decide ((w.log.length:Int)>=60)then(⟨dT,dW,dH,nq⟩,4)
   else if decide (((LG kv) t).2.2=0)=true then
    (⟨dT.set (dr (aR dT name)) ((LG kv) t).1,dW.set (dr (cA dW s)) ⟨w.s,w.log++[⟨name,((LG kv) t).2.1.op,((LG kv) t).2.1.row⟩],w.marks⟩,dH,nq⟩,0)
   else(⟨dT,dW,dH,nq⟩,((LG kv) t).2.2)
  |_,_=>(⟨dT,dW,dH,nq⟩,e))=D:=hD
 have hOn:e=0->lK (aR dT name)=true/\lK (cA dW s)=true:=hOn;have hRw:jg dT:=hHk.ok.rows;clear hHk;have l2:Le h h2:=l1.df (by simp[hc,su,vM]) k2;have hWf:(Wf dW).map (·.1)=dW:=by unfold Wf;rw[List.map_map];simp[Function.comp_def]
 generalize eu:A .aG .neq e 0=u;have fu:=eu;rw[aB A]at eu;rw[eu]at hD;cbv;rw[fu];cases u with
 |true=>
  have iZ:D=(⟨dT,dW,dH,nq⟩,e):=by rw[<-hD];rfl
  refine IB.elim (fun m1 m2 x3 m3 k3 x4 m4 k4 o g0 _ _ _ _ _ _ _ sW=>?_);rw[hWf]at sW;cbv;rw[ai A];refine av g0 rfl rfl ?_;cbv;refine gK sW (fun h3 b1 n1 c1 b2 n2 c2 b3 n3 c3 b4 n4 c4 l3 kV=>?_);cbv;exact⟨_,e,_,rfl,l2.trans l3,kV,iZ.symm⟩
 |false=>
  have lk:e=0:=Decidable.not_not.1 (of_decide_eq_false eu);subst lk;obtain⟨Eb,Hr⟩:=hOn rfl;have hkt:=nz Eb;have hkw:=nz Hr;simp only[aR,cA,List.length_map]at hkt hkw;obtain⟨t,ht⟩:=aI (xs:=dT) (i:=dr (aR dT name)) hkt;obtain⟨w,hw⟩:=aI (xs:=dW) (i:=dr (cA dW s)) hkw;cbv;refine(zo IB name).mono (fun v h3 hR=>?_);obtain⟨l3,zt,tt,rfl,hbt2⟩:=hR;obtain⟨DO,-⟩:=hbt2.at_;have DO:aS zt (dr (aR dT name)):=DO;cbv;refine(CV (IB.mono l3) s).mono (fun v h4 hR=>?_);obtain⟨l4,zw,tw,rfl,hbw2⟩:=hR;obtain⟨OO,-⟩:=hbw2.at_;have OO:aS zw (dr (cA dW s)):=by have h1:aS zw (dr (dz (Wf dW) s)):=OO;rw[mN]at h1;exact h1
  have hktl:=(List.getElem?_eq_some_iff.1 ht).1;have hkwl:=(List.getElem?_eq_some_iff.1 hw).1;generalize hkte:dr (aR dT name)=kt at *;generalize hkwe:dr (cA dW s)=kw at *;have H9:=l3.trans l4;have Ty:=l2.trans H9;have cs4:=IB.mono H9;refine cs4.elim (fun m1 m2 x3 m3 k3 x4 m4 k4 o f0 f1 f2 f3 f4 f5 f6 f7 _=>?_);have tN:m2=dW.length:=by rw[f4];simp[Wf]
  have Xn:(Wf dW)[kw]? =some (w,true):=by unfold Wf;rw[List.getElem?_map,hw];rfl
  have Vp:(some (⟨wb,0,none⟩:Addr)).isSome=true/\0<=zw/\zw<(m2:Int):=⟨rfl,OO.ix (by omega)⟩;have Vq:(some (⟨tb,0,none⟩:Addr)).isSome=true/\0<=zt/\zt<(m1:Int):=⟨rfl,DO.ix (by omega)⟩;cbv;rw[ai A];rw[ai A];refine av f0 rfl rfl ?_;cbv;refine⟨Vp,?_⟩;cbv;rw[ai A];rw[ai A];refine av f0 rfl rfl ?_;cbv;refine⟨Vq,?_⟩;cbv;obtain⟨⟨nm,cols,key,only⟩,rows⟩:=t;refine zQ (f3.sl f2) ht DO.eq (fun y1 y2 y3 y4 y5 y6 r1 r2=>?_);have Hd:y5<=2^37:=by have h1:=hRw _ (List.mem_of_getElem? ht);have h2:=r2.len;have h1:rows.length<=2^36:=h1;have h2:y5=rows.length:=h2;omega
  cbv;refine take59e (nm:=nm) (key:=key) (only:=only) r1 r2 (kv:=kv) (Ty _ _ gr) Hd (fun h5 z1 z2 z3 z4 z5 z6 z7 z8 z9 e1 T1 C1 l5 r3 r4 r5 r6=>?_);have yz:=Ty.trans l5;have FH:=cs4.mono l5;have iZ:D=(if decide (e1≠19)&&decide ((w.log.length:Int)>=60)then(⟨dT,dW,dH,nq⟩,4)
   else if decide (e1=0)=true then(⟨dT.set kt ⟨⟨nm,cols,key,only⟩,T1⟩,dW.set kw ⟨w.s,w.log++[⟨name,C1.op,C1.row⟩],w.marks⟩,dH,nq⟩,0)else(⟨dT,dW,dH,nq⟩,e1)):=by
   rw[<-hD];simp only[Bool.false_eq_true,if_false];rw[ht,hw];simp only;rw[<-r6]
  have fin:∀(e:Int) (hh:ad) (v:Value),Le h hh->gj hh v ⟨dT,dW,dH,nq⟩->D=(⟨dT,dW,dH,nq⟩,e)->∃v1 e1 d',Value.tuple #[v,.int .i64 e]=.tuple #[v1,.int .i64 e1]/\Le h hh/\gj hh v1 d'/\(d',e1)=D:=
   fun e hh v l r hE=>⟨v,e,_,rfl,l,r,hE.symm⟩
  refine FH.elim (fun p1 p2 p3 p4 p5 p6 p7 p8 p9 g0 i1 i2 i3 i4 i5 i6 i7 sW=>?_);rw[hWf]at sW;generalize XN:A .aG .neq e1 19=u19;have f19:=XN;rw[aB A]at XN;generalize e00:A .aG .eql e1 0=u0;have HA:=e00;rw[aw A]at e00;rw[XN,e00]at iZ;cbv;rw[f19];cases u19 with
  |false=>
   have h19:e1=19:=Decidable.not_not.1 (of_decide_eq_false XN);have hu0:u0=false:=by rw[<-e00,h19];rfl
   subst hu0;have iZ:D=(⟨dT,dW,dH,nq⟩,e1):=iZ;cbv;rw[HA];cbv;rw[ai A];refine av g0 rfl rfl ?_;cbv;refine gK sW (fun h6 b1 n1 c1 b2 n2 c2 b3 n3 c3 b4 n4 c4 l6 kV=>?_);cbv;exact fin e1 _ _ (yz.trans l6) kV iZ
  |true=>
   have CQ:=OO.eq;cbv;refine zR (i5.sl i4) Xn OO.eq (fun y1 y2 y3 r7 r9 _=>?_);generalize Wl:A .aG .geq (A .nat y2) 60=u60;have f60:=Wl;rw[bS A,hA.nat]at Wl;simp only[Int.ofNat_eq_natCast]at Wl;have KE:y2=w.log.length:=r7.len;have ZH:u60=false->y2<60:=fun e=>by rw[e]at Wl;have:=of_decide_eq_false Wl;omega
   rw[KE]at Wl;rw[Wl]at iZ;cbv;rw[f60];cases u60 with
   |true=>
    have iZ:D=(⟨dT,dW,dH,nq⟩,4):=iZ;have B2:A .aG .eql 4 0=false:=by rw[aw A];rfl
    cbv;rw[B2];cbv;rw[ai A];refine av g0 rfl rfl ?_;cbv;refine gK sW (fun h6 b1 n1 c1 b2 n2 c2 b3 n3 c3 b4 n4 c4 l6 kV=>?_);cbv;exact fin 4 _ _ (yz.trans l6) kV iZ
   |false=>
    have aK:=ZH rfl;have hlog:w.log.length<60:=by omega
    cbv;rw[HA];cases u0 with
    |false=>have iZ:D=(⟨dT,dW,dH,nq⟩,e1):=iZ;cbv;rw[ai A];refine av g0 rfl rfl ?_;cbv;refine gK sW (fun h6 b1 n1 c1 b2 n2 c2 b3 n3 c3 b4 n4 c4 l6 kV=>?_);cbv;exact fin e1 _ _ (yz.trans l6) kV iZ
    |true=>
     have kx:e1=0:=of_decide_eq_true e00;have iZ:D=(⟨dT.set kt ⟨⟨nm,cols,key,only⟩,T1⟩,dW.set kw ⟨w.s,w.log++[⟨name,C1.op,C1.row⟩],w.marks⟩,dH,nq⟩,0):=iZ;subst kx;have Z0:(some (⟨tb,0,none⟩:Addr)).isSome=true/\0<=zt/\zt<(p1:Int):=⟨rfl,DO.ix (by omega)⟩;cbv;rw[ai A];rw[ai A];refine av g0 rfl rfl ?_;cbv;refine⟨Z0,?_⟩;cbv;have rT:cY.R h5 [.string nm,.slice z1 z2 z3,.int .i64 key,.bool only,.slice z4 z5 z6] ⟨⟨nm,cols,key,only⟩,T1⟩:=⟨_,_,_,_,_,_,rfl,r3,r4⟩;refine i3.setAt (by decide) (i:=kt) (by omega) DO.eq rfl rT (fun h6 k6 t6 o6=>?_);have hctb:c≠tb:=tR;have g6:=k6 _ _ g0 (by simpa using hctb);have i56:=i5.mono (t6 _ (by decide));have r56:=r5.mono (t6 _ (by decide));cbv;refine zR (i56.sl i4) Xn OO.eq (fun y1 y2 y3 r7 r9 ag=>?_);have hy3:=r9 rfl;subst hy3;cbv;intro nb7 h7 hnb7 e7;have l7:Le h6 h7:=by rw[e7];exact Le.set hnb7
     have g7:=(congrFun e7 nb7).trans af;have qx:=bU (s:=gM) g7 (x:=⟨name,C1.op,C1.row⟩) ⟨_,_,_,rfl,r56.mono (l7.t _)⟩;cbv;refine ag _ _ l7 ?_;cbv;refine⟨⟨_,rfl,rfl⟩,?_⟩;cbv;have KE:=r7.len;refine lM (r7.mono (l7.t _)) qx (by omega) rfl (by decide) (by simp only at KE;omega) (fun nb8 c8 h8 hnb8 l8 hc8 o8=>?_);have Xh:=l7.trans l8;have i58:=i56.mono (Xh.t _);have s8:=o8.sl (n:=y3+1) (by simp only[List.length_append,List.length_singleton];simp only at KE;omega);cbv;refine i58.Jk (by decide) (i:=kw) Xn OO.eq rfl (off:=1) (by simp[cf]) (x':=(⟨w.s,w.log++[⟨name,C1.op,C1.row⟩],w.marks⟩,false)) (fun cs aC=>?_) (fun h9 k9 t9 o9=>?_)
     ·obtain⟨y1,y2,y3,y4,y5,y6,rfl,q1,q2,q3⟩:=aC;exact⟨_,_,_,y4,y5,y6,rfl,s8,q2,fun e=>by cases e⟩
     have g8:=Xh _ _ g6;have hcwb:c≠wb:=rH;have g9:=k9 _ _ g8 (by simpa using hcwb);have lh9:Le h h9:=by have h1:Le h h6:=yz.df (by simpa using su) k6;exact(h1.trans Xh).df (by simpa using vM) k9
     have Hq:gj h9 (.agg #[.slice (some ⟨tb,0,none⟩) p1 ct,.slice (some ⟨wb,0,none⟩) p2 cw,.slice p3 p4 p5,.slice p6 p7 p8]) ⟨dT.set kt ⟨⟨nm,cols,key,only⟩,T1⟩,dW.set kw ⟨w.s,w.log++[⟨name,C1.op,C1.row⟩],w.marks⟩,dH,nq⟩:=by refine⟨_,_,_,_,_,_,_,_,_,_,_,_,_,rfl,((o6.mono (Xh.t _)).mono (t9 _ (by decide))).sl (by rw[List.length_set];exact i2),o9.sl (by rw[List.length_set];exact i4),((i6.mono (t6 _ (by decide))).mono (Xh.t _)).mono (t9 _ (by decide)),((i7.mono (t6 _ (by decide))).mono (Xh.t _)).mono (t9 _ (by decide)),?_⟩;rw[List.map_set,hWf]
     cbv;rw[ai A];refine av g9 rfl rfl ?_;cbv;refine gK Hq (fun kx b1 n1 c1 b2 n2 c2 b3 n3 c3 b4 n4 c4 mZ kV=>?_);cbv;exact⟨_,0,_,rfl,lh9.trans mZ,kV,iZ.symm⟩
def fv(d:DB)(s:Int)(name:ByteArray)(r:Row):DB×Int:=eT d ⟨s,name,true⟩ (cJ r)
def X2(d:DB)(s:Int)(name:ByteArray)(k:dg):DB×Int:=eT d ⟨s,name,true⟩ (LG k)
def ir(d:DB)(s:Int):DB×Int:=if lK (cA d.au s)=true then(kZ d s,0)else(d,2)
def commitD(d:DB)(s:Int):DB×List iX×Int:=
 if lK (cA d.au s)=true then(⟨d.aE,wC d.au s,bQ d.holds s,bQ d.waits s⟩,match d.au[dr (cA d.au s)]? with
  |some w=>w.log
  |none=>[],0)
 else(d,[],2)
def dropD(d:DB)(name:ByteArray):DB×Int:=
 if lK (aR d.aE name)=true then if decide ((d.au.length:Int)>0)=true then(d,18)else(⟨d.aE.eraseIdx (dr (aR d.aE name)),d.au,d.holds,d.waits⟩,0)
 else(d,2)
def rowsD(d:DB)(s:Int)(name:ByteArray):DB×List Row×Int:=
 if decide ((ay d ⟨s,name,false⟩).2≠0)=true then((ay d ⟨s,name,false⟩).1,[],(ay d ⟨s,name,false⟩).2)
 else((ay d ⟨s,name,false⟩).1,match (ay d ⟨s,name,false⟩).1.aE[dr (aR (ay d ⟨s,name,false⟩).1.aE name)]? with
  |some t=>t.rows
  |none=>[],0)
theorem AE(ws:List dO):(Wf ws).map (·.1)=ws:=by unfold Wf;rw[List.map_map];simp[Function.comp_def]
theorem S3{d:DB}{h:ad}{v:Value}(q:gj h v d){n:Nat}(ok:wX n d)(gP:n<2^18)(s:Int)(iQ:-2^63<=s/\s<2^63)(name:ByteArray){r:Row}{vb:Option Addr}{vn vc:Nat}(qr:Sl 61 bq h (.slice vb vn vc) r){D:DB×Int}(hD:fv d s name r=D){k:Value->ad->Prop}
 (hk:W4 h D.1 D.2 k):Ct 83 [v,.int .i64 s,.string name,.slice vb vn vc] h k:=by
 obtain⟨A,hA⟩:=Ar.ex;obtain⟨b1,n1,c1,b2,n2,c2,b3,n3,c3,b4,n4,c4,rfl⟩:=q.form;refine ah A (ar T83.aA T83.bm) Tryz.func83 rfl (by kernel_rfl) ?_;cbv;intro rb h1 Fk e1;have l1:Le h h1:=by rw[e1];exact Le.set Fk
 have g1:=(congrFun e1 rb).trans af;cbv;refine(HQ (q.mono l1) ok gP s iQ name g1 (qr.mono (l1.t _))).mono (fun v h2 hR=>?_);obtain⟨v1,e,d',hv,l2,hd,hE⟩:=hR;have hE2:(d',e)=D:=hE.trans hD;subst hE2;obtain⟨b1,n1,c1,b2,n2,c2,b3,n3,c3,b4,n4,c4,hf⟩:=hd.form;rw[hv,hf];have ae:=hk h2 b1 n1 c1 b2 n2 c2 b3 n3 c3 b4 n4 c4 (l1.trans l2) (by rw[<-hf];exact hd);cbv;exact ae
theorem take24F{d:DB}{h:ad}{v:Value}(q:gj h v d){n:Nat}(ok:wX n d)(gP:n<2^18)(s:Int)(iQ:-2^63<=s/\s<2^63)(name:ByteArray)(kv:dg){D:DB×Int}(hD:X2 d s name kv=D){k:Value->ad->Prop}
 (hk:W4 h D.1 D.2 k):Ct 174 [v,.int .i64 s,.string name,.agg #[.int .i64 kv.k,.int .i64 kv.n,.string kv.s]] h k:=by
 obtain⟨A,hA⟩:=Ar.ex;obtain⟨b1,n1,c1,b2,n2,c2,b3,n3,c3,b4,n4,c4,rfl⟩:=q.form;refine ah A (ar T174.aA T174.bm) Tryz.func174 rfl (by kernel_rfl) ?_;cbv;intro rb h1 Fk e1;have l1:Le h h1:=by rw[e1];exact Le.set Fk
 have g1:=(congrFun e1 rb).trans af;cbv;refine(change58T (q.mono l1) ok gP s iQ name (kv:=kv) g1).mono (fun v h2 hR=>?_);obtain⟨v1,e,d',hv,l2,hd,hE⟩:=hR;have hE2:(d',e)=D:=hE.trans hD;subst hE2;obtain⟨b1,n1,c1,b2,n2,c2,b3,n3,c3,b4,n4,c4,hf⟩:=hd.form;rw[hv,hf];have ae:=hk h2 b1 n1 c1 b2 n2 c2 b3 n3 c3 b4 n4 c4 (l1.trans l2) (by rw[<-hf];exact hd);cbv;exact ae
theorem jh.new{d:DB}{h1:ad}{c tb wb ct cw:Nat}{W:List (dO×Bool)}(cs:jh h1 c tb wb ct cw d.aE W d.holds d.waits 0)(hW:W=d.au.map fun w=>(w,true)):jh h1 c tb wb ct cw d.aE (Wf d.au) d.holds d.waits 0:=by rw[hW]at cs;exact cs
theorem OV{d:DB}{h:ad}{v:Value}(q:gj h v d){n:Nat}(ok:wX n d)(gP:n<2^18)(s:Int)(name:ByteArray)(x:Bool){D:DB×Int}(hD:ay d ⟨s,name,x⟩=D){k:Value->ad->Prop}
 (hk:W4 h D.1 D.2 k):Ct 159 [v,.int .i64 s,.string name,.bool x] h k:=by
 obtain⟨A,hA⟩:=Ar.ex;obtain⟨b1,n1,c1,b2,n2,c2,b3,n3,c3,b4,n4,c4,rfl⟩:=q.form;have hH:=ok.holds;have hWt:=ok.waits;obtain⟨⟨dT,dW,dH,nq⟩,e⟩:=D;refine ah A (ar T159.aA T159.bm) Tryz.func159 rfl (by kernel_rfl) ?_;cbv;refine sg q (fun h1 c tb wb ct cw W l1 hc su vM tR rH hW RO Lz cs=>?_);cbv;refine Fm (cs.new hW) ⟨s,name,x⟩ tR rH ok.rows (by omega) (by omega) hD (fun h2 k2 LO=>?_);have IB:jh h2 c tb wb ct cw dT (Wf dW) dH nq 0:=LO;clear LO;have l2:Le h h2:=l1.df (by simp[hc,su,vM]) k2;refine IB.elim (fun m1 m2 x3 m3 k3 x4 m4 k4 o g0 _ _ _ _ _ _ _ sW=>?_);rw[AE]at sW;cbv;rw[ai A];refine av g0 rfl rfl ?_;cbv;refine gK sW (fun h3 b1 n1 c1 b2 n2 c2 b3 n3 c3 b4 n4 c4 l3 kV=>?_);have ae:=hk h3 b1 n1 c1 b2 n2 c2 b3 n3 c3 b4 n4 c4 (l2.trans l3) kV;cbv;exact ae
theorem Bi{d:DB}{h:ad}{v:Value}(q:gj h v d){n:Nat}(ok:wX n d)(gP:n<2^18)(s:Int){D:DB×Int}(hD:ir d s=D){k:Value->ad->Prop}
 (hk:W4 h D.1 D.2 k):Ct 38 [v,.int .i64 s] h k:=by
 obtain⟨A,hA⟩:=Ar.ex;obtain⟨b1,n1,c1,b2,n2,c2,b3,n3,c3,b4,n4,c4,rfl⟩:=q.form;have hH:=ok.holds;have hWt:=ok.waits;refine ah A (ar T38.aA T38.bm) Tryz.func38 rfl (by kernel_rfl) ?_;cbv;refine sg q (fun h1 c tb wb ct cw W l1 hc su vM tR rH hW RO Lz cs=>?_);have cs:=cs.new hW;cbv;refine oY cs s (fun h2 z t l2 hz ht=>?_);rw[mN]at ht;have gh:=l1.trans l2;have q2:=q.mono gh;cases t with
 |false=>
  have iZ:D=(d,2):=by rw[<-hD];unfold ir;rw[<-ht];rfl
  subst iZ;cbv;rw[show A .not false=true by rw[hA.not];rfl];cbv;refine gK q2 (fun h3 b1 n1 c1 b2 n2 c2 b3 n3 c3 b4 n4 c4 l3 kV=>?_);have ae:=hk h3 b1 n1 c1 b2 n2 c2 b3 n3 c3 b4 n4 c4 (gh.trans l3) kV;cbv;exact ae
 |true=>
  have iZ:D=(kZ d s,0):=by rw[<-hD];unfold ir;rw[<-ht];rfl
  subst iZ;cbv;rw[show A .not true=false by rw[hA.not];rfl];cbv;refine Mh (cs.mono l2) tR rH ok.rows s (by omega) (by omega) (fun h3 k3 LN=>?_);rw[Cz,FD]at LN;have l3:Le h h3:=gh.df (by simp[hc,su,vM]) k3;refine LN.elim (fun m1 m2 x3 m3 k3 x4 m4 k4 o g0 _ _ _ _ _ _ _ sW=>?_);rw[AE]at sW;cbv;rw[ai A];refine av g0 rfl rfl ?_;cbv;refine gK sW (fun h4 b1 n1 c1 b2 n2 c2 b3 n3 c3 b4 n4 c4 l4 kV=>?_);have ae:=hk h4 b1 n1 c1 b2 n2 c2 b3 n3 c3 b4 n4 c4 (l3.trans l4) kV;cbv;exact ae
def DC(l:List Ns)(nm:ByteArray):Nat->Option Nat
 |0=>none
 |i+1=>match l[i]? with
  |some m=>if decide (m.name=nm)=true then some i else DC l nm i
  |none=>DC l nm i
def tZ(d:DB)(s:Int)(nm:ByteArray):DB×Int:=
 if lK (cA d.au s)=true then match d.au[dr (cA d.au s)]? with
  |some w=>match DC w.marks nm w.marks.length with
   |some k=>(⟨fS d.aE (w.log.drop (eY (((w.marks[k]?).map (·.at_)).getD 0) w.log.length)),d.au.set (dr (cA d.au s)) ⟨w.s,w.log.take (eY (((w.marks[k]?).map (·.at_)).getD 0) w.log.length),w.marks.take (k+1)⟩,d.holds,d.waits⟩,0)
   |none=>(d,2)
  |none=>(d,2)
 else(d,2)
theorem _root_.Go.Sx.Kp.Tz{h h':ad}{n1 n2 e1 e2:Nat}{c1 c2:Array Value}{f1 f2:Nat×Nat}(k:Kp [n1,n2] h h')(g1:h n1=some (.cells c1 e1 f1))(g2:h n2=some (.cells c2 e2 f2)){tys:List Nat}(h1:e1∉tys)(h2:e2∉tys):cF tys h h':=fun b d e' Iz hm hb=>
 k b _ hb (by
  intro jS;simp at jS;rcases jS with rfl|rfl
  ·rw[g1]at hb;cases hb;exact h1 hm
  ·rw[g2]at hb;cases hb;exact h2 hm)
theorem Qa{d:DB}{h:ad}{v:Value}(q:gj h v d){n:Nat}(ok:wX n d)(s:Int)(nm:ByteArray){D:DB×Int}(hD:tZ d s nm=D){k:Value->ad->Prop}
 (hk:W4 h D.1 D.2 k):Ct 40 [v,.int .i64 s,.string nm] h k:=by
 obtain⟨A,hA⟩:=Ar.ex;obtain⟨b1,n1,c1,b2,n2,c2,b3,n3,c3,b4,n4,c4,rfl⟩:=q.form;refine ah A (ar T40.aA T40.bm) Tryz.func40 rfl (by kernel_rfl) ?_;cbv;refine sg q (fun h1 c tb wb ct cw W l1 hc su vM tR rH hW RO Lz cs=>?_);have cs:=cs.new hW;cbv;refine oY cs s (fun h2 z t l2 hz ht=>?_);rw[mN]at ht hz;have gh:=l1.trans l2;have q2:=q.mono gh;cases t with
 |false=>
  have iZ:D=(d,2):=by rw[<-hD];unfold tZ;rw[<-ht];rfl
  subst iZ;cbv;rw[show A .not false=true by rw[hA.not];rfl];cbv;refine gK q2 (fun h3 b1 n1 c1 b2 n2 c2 b3 n3 c3 b4 n4 c4 l3 kV=>?_);have ae:=hk h3 b1 n1 c1 b2 n2 c2 b3 n3 c3 b4 n4 c4 (gh.trans l3) kV;cbv;exact ae
 |true=>
  have aK:dr (cA d.au s)<d.au.length:=by have:=nz ht.symm;simpa[cA]using this
  obtain⟨w,hw⟩:=aI aK;have iZ:(match DC w.marks nm w.marks.length with
   |some k=>((⟨fS d.aE (w.log.drop (eY (((w.marks[k]?).map (·.at_)).getD 0) w.log.length)),d.au.set (dr (cA d.au s)) ⟨w.s,w.log.take (eY (((w.marks[k]?).map (·.at_)).getD 0) w.log.length),w.marks.take (k+1)⟩,d.holds,d.waits⟩,0):DB×Int)
   |none=>(d,2))=D:=by rw[<-hD];unfold tZ;rw[<-ht,hw];rfl
  clear hD;obtain⟨i,hi⟩:∃i,i=dr (cA d.au s):=⟨_,rfl⟩;rw[<-hi]at iZ hw hz;clear hi aK;have IB:=cs.mono l2;have Xn:(Wf d.au)[i]? =some (w,true):=by unfold Wf;rw[List.getElem?_map,hw];rfl
  refine IB.elim (fun m1 m2 x3 m3 k3 x4 m4 k4 o g0 _ _ f2 f3 f4 _ _ _=>?_);have tN:m2=d.au.length:=by rw[f3];simp[Wf]
  have kh:=(List.getElem?_eq_some_iff.1 hw).1;have cU:(some (⟨wb,0,none⟩:Addr)).isSome=true/\0<=z/\z<(m2:Int):=⟨rfl,hz.ix (by omega)⟩;obtain⟨ws,wl,wm⟩:=w;have iZ:(match DC wm nm wm.length with
   |some k=>((⟨fS d.aE (wl.drop (eY (((wm[k]?).map (·.at_)).getD 0) wl.length)),d.au.set i ⟨ws,wl.take (eY (((wm[k]?).map (·.at_)).getD 0) wl.length),wm.take (k+1)⟩,d.holds,d.waits⟩,0):DB×Int)
   |none=>(d,2))=D:=iZ
  cbv;rw[show A .not true=false by rw[hA.not];rfl];cbv;rw[ai A];rw[ai A];refine av g0 rfl rfl ?_;cbv;refine⟨cU,?_⟩;cbv;refine BC (f4.sl f3) Xn hz.eq (fun y1 y2 y3 qm _=>?_);have qm:Sl 161 gF h2 (.slice y1 y2 y3) wm:=qm;have uq:=qm.len;have hmb:=qm.bound;have Ff:Nu (A .bA .sub .i64 (A .nat y2) 1) y2:=(aS.nat y2).pred (by omega);obtain⟨I,bl⟩:∃I:Int->Nat->ad->Prop,∀g m h',I g m h'=∃j:Nat,Nu g j/\m=j/\j<=y2/\h'=h2/\DC wm nm wm.length=DC wm nm j:=⟨_,fun _ _ _=>rfl⟩;cbv;refine aX.go (G:=Int) (fun g=>[(12,.v (.int .i64 g))]) (fun _=>[(3,[.slice b1 n1 c1,.slice b2 n2 c2,.slice b3 n3 c3,.slice b4 n4 c4]),(6,[.slice none 0 0,.slice none 0 0,.slice none 0 0,.slice none 0 0])]) (fun m g h'=>I g m h') y2 (A .bA .sub .i64 (A .nat y2) 1) ⟨?_,?_,?_⟩ (by rw[bl];exact⟨y2,Ff,rfl,Nat.le_refl _,rfl,by rw[uq]⟩) ?_
  ·cbv
  ·cbv
  ·cbv
  ·intro m g h' hI;rw[bl]at hI;cbv;obtain⟨j,hg,hm,hj,rfl,hF⟩:=hI;rw[hg.ge (A:=A)];cases j with
   |zero=>have hF:DC wm nm wm.length=none:=hF;rw[hF]at iZ;have iZ:(d,2)=D:=iZ;subst iZ;rw[show decide (1<=0)=false from rfl];cbv;refine gK q2 (fun h3 b1 n1 c1 b2 n2 c2 b3 n3 c3 b4 n4 c4 l3 kV=>?_);have ae:=hk h3 b1 n1 c1 b2 n2 c2 b3 n3 c3 b4 n4 c4 (gh.trans l3) kV;cbv;exact ae
   |succ j=>
    have M3:aS g j:=hg.xy;obtain⟨⟨xn,xa⟩,hx⟩:=aI (xs:=wm) (i:=j) (by omega);have Z1:y1.isSome=true/\0<=g/\g<(y2:Int):=⟨qm.bu (by omega),M3.ix (by omega)⟩;have Fi:DC wm nm (j+1)=if decide (xn=nm)=true then some j else DC wm nm j:=by show(match wm[j]? with|some m=>if decide (m.name=nm)=true then some j else DC wm nm j|none=>DC wm nm j)=_;rw[hx]
    rw[Fi]at hF;have eu0:A .iY .eql xn nm=decide (xn=nm):=bR A ..;rw[show decide (1<=j+1)=true from decide_eq_true (by omega)];cbv;refine⟨Z1,?_⟩;cbv;refine qm.eE hx M3.eq (o:=0) (m:=1) (by decide) (fun cs aC=>?_);have aC:cs=[.string xn,.int .i64 xa]:=aC;subst aC;cbv;rw[eu0];generalize decide (xn=nm)=u at *;cases u with
    |false=>
     have hF:DC wm nm wm.length=DC wm nm j:=hF;have hn:=M3.pred (A:=A) (by omega);have di:I (A .bA .sub .i64 g 1) j h':=by rw[bl];exact⟨j,hn,rfl,by omega,rfl,hF⟩
     cbv;refine⟨j,_,by omega,⟨?_,?_,?_⟩,di⟩
     ·cbv
     ·cbv
     ·cbv
    |true=>
     have hF:DC wm nm wm.length=some j:=hF;rw[hF]at iZ;have iZ:((⟨fS d.aE (wl.drop (eY (((wm[j]?).map (·.at_)).getD 0) wl.length)),d.au.set i ⟨ws,wl.take (eY (((wm[j]?).map (·.at_)).getD 0) wl.length),wm.take (j+1)⟩,d.holds,d.waits⟩,0):DB×Int)=D:=iZ;rw[hx]at iZ;have iZ:((⟨fS d.aE (wl.drop (eY xa wl.length)),d.au.set i ⟨ws,wl.take (eY xa wl.length),wm.take (j+1)⟩,d.holds,d.waits⟩,0):DB×Int)=D:=iZ;have Iu:=M3.succ (A:=A) (by omega);have Xp:=qm.EL (A:=A) (i:=j+1) (by omega);have kV:=dM (A:=A) Iu;have hck6:0<=A .bA .add .i64 g 1/\A .bA .add .i64 g 1<=(y3:Int):=by have:=Iu.eq;omega
     cbv;refine⟨Z1,?_⟩;cbv;refine qm.eE hx M3.eq (o:=1) (m:=1) (by decide) (fun cs aC=>?_);have aC:cs=[.string xn,.int .i64 xa]:=aC;subst aC;cbv;refine IX IB tR rH ok.rows hz Xn xa (fun h3 k3' cs3'=>?_);have LN:jh h3 c tb wb ct cw (fS d.aE (wl.drop (eY xa wl.length))) ((Wf d.au).set i (⟨ws,wl.take (eY xa wl.length),wm⟩,false)) d.holds d.waits 0:=cs3';clear cs3';refine LN.elim (fun Tv m2' x3 m3 k3 x4 m4 k4 o VR ho F1 F2 F3 F4 F6 F7 _=>?_);have hm2':m2'=d.au.length:=by rw[F3];simp[Wf]
     have hck':(some (⟨wb,0,none⟩:Addr)).isSome=true/\0<=z/\z<(m2':Int):=⟨rfl,hz.ix (by omega)⟩;cbv;rw[ai A];rw[ai A];refine av VR rfl rfl ?_;cbv;refine⟨hck6,?_⟩;cbv;refine⟨hck',?_⟩;cbv;have Hc:Sl 161 gF h' (.slice (A .cut y1 0 (A .nat y3) 2) (j+1) y3) (wm.take (j+1)):=Xp;have htm3:Sl 161 gF h3 (.slice (A .cut y1 0 (A .nat y3) 2) (j+1) y3) (wm.take (j+1)):=by obtain⟨a1,Rz,-⟩:=f2.out;obtain⟨a2,Fu,-⟩:=f4.out;exact Hc.mono (k3'.Tz Rz Fu (by decide) (by decide))
     have hwW3:((Wf d.au).set i (⟨ws,wl.take (eY xa wl.length),wm⟩,false))[i]? =some (⟨ws,wl.take (eY xa wl.length),wm⟩,false):=by rw[List.getElem?_set_self (by simpa[Wf]using kh)]
     rw[kV];refine F4.Jk (by decide) hwW3 hz.eq rfl (off:=2) (by simp[cf]) (x':=(⟨ws,wl.take (eY xa wl.length),wm.take (j+1)⟩,false)) (fun cs aC=>?_) (fun h4 k4' t4 o4=>?_)
     ·obtain⟨x1,y1',z1,x2,y2',z2,rfl,j1,j2,j3⟩:=aC;exact⟨_,_,_,_,_,_,rfl,j1,htm3,fun hf=>by cases hf⟩
     have g04:=k4' _ _ VR (by simpa using rH);have Hq:gj h4 (.agg #[.slice (some ⟨tb,0,none⟩) Tv ct,.slice (some ⟨wb,0,none⟩) m2' cw,.slice x3 m3 k3,.slice x4 m4 k4]) ⟨fS d.aE (wl.drop (eY xa wl.length)),d.au.set i ⟨ws,wl.take (eY xa wl.length),wm.take (j+1)⟩,d.holds,d.waits⟩:=by refine⟨_,_,_,_,_,_,_,_,_,_,_,_,_,rfl,(F2.mono (t4 _ (by decide))).sl F1,o4.sl (by rw[List.length_set];exact F3),F6.mono (t4 _ (by decide)),F7.mono (t4 _ (by decide)),?_⟩;simp only[List.map_set,AE,List.set_set]
     have l4:Le h h4:=gh.df (bs:=[tb,wb]) (by simp[su,vM]) (k3'.trans (k4'.sub (by simp)));subst iZ;cbv;rw[ai A];refine av g04 rfl rfl ?_;cbv;refine gK Hq (fun h5 b1 n1 c1 b2 n2 c2 b3 n3 c3 b4 n4 c4 l5 kV=>?_);have ae:=hk h5 b1 n1 c1 b2 n2 c2 b3 n3 c3 b4 n4 c4 (l4.trans l5) kV;cbv;exact ae
end Go.S
