import Derived.Test.YtekoaiendgjkdaaGreatGA
set_option linter.unusedVariables false
set_option linter.unusedSimpArgs false
set_option linter.unusedSectionVars false
set_option maxRecDepth 100000
set_option maxHeartbeats 8000000
namespace Go.S
open Go.Sx Go.Proofs
def dh(d:DB)(hd:bP)(act:cg->cg×lG×Int):DB×Int:=
 if decide ((aO d hd).2≠0)=true then aO d hd
 else match (aO d hd).1.aK[dC (aR (aO d hd).1.aK hd.table)]?,(aO d hd).1.au[dC (cu (aO d hd).1.au hd.s)]? with
  |some t,some w=>
   if decide ((act t).2.2≠19)&&decide ((w.log.length:Int)>=60)then((aO d hd).1,4)
   else if decide ((act t).2.2=0)=true then
    (⟨(aO d hd).1.aK.set (dC (aR (aO d hd).1.aK hd.table)) (act t).1,(aO d hd).1.au.set (dC (cu (aO d hd).1.au hd.s)) ⟨w.s,w.log++[⟨hd.table,(act t).2.1.op,(act t).2.1.row⟩],w.marks⟩,(aO d hd).1.holds,(aO d hd).1.waits⟩,0)
   else((aO d hd).1,(act t).2.2)
  |_,_=>aO d hd
theorem FP{d:DB}{h:ad}{v:Value}(q:fP h v d){n:Nat}(ok:sK n d)(iq:n<2^18)(s:Int)(gu:-2^63<=s/\s<2^63)(name:ByteArray){rb:Nat}{r:Row}{vb:Option Addr}{vn vc:Nat}(gr:h rb=some (.cells #[.slice vb vn vc] 59 (0,0)))(qr:Sl 61 aQ h (.slice vb vn vc) r):
 Ct 165 [v,.int .i64 s,.string name,.func (.func 164) #[] #[.pointer (some ⟨rb,0,none⟩)]] h (fun v' h'=>∃v1 e d',v'=.tuple #[v1,.int .i64 e]/\Le h h'/\fP h' v1 d'/\(d',e)=dh d ⟨s,name,true⟩ (jX r)):=by
 obtain⟨A,hA⟩:=Ar.ex;obtain⟨b1,n1,c1,b2,n2,c2,b3,n3,c3,b4,n4,c4,rfl⟩:=q.form;have hH:=ok.holds;have Um:=ok.waits;generalize hD:dh d ⟨s,name,true⟩ (jX r)=D;have Sf:=nQ ok ⟨s,name,true⟩ gu;have Nc:=vd ok (hd:=⟨s,name,true⟩) gu;unfold dh at hD;obtain⟨D0,W6⟩:∃D0,aO d ⟨s,name,true⟩=D0:=⟨_,rfl⟩;rw[W6]at hD Sf Nc;obtain⟨⟨dT,dW,dH,iK⟩,e⟩:=D0;refine ah A (aq Om.ax Om.bm) Tryz.func165 rfl (by kernel_rfl) ?_;cbv;refine oq q (fun h1 c tb wb ct cw W l1 hc pJ sY rf pf hW NK GI cs=>?_);have cs:iG h1 c tb wb ct cw d.aK (Wf d.au) d.holds d.waits 0:=by rw[hW]at cs;exact cs
 cbv;refine yQ cs ⟨s,name,true⟩ rf pf ok.rows (by omega) (by omega) W6 (fun h2 k2 AW=>?_);have AX:iG h2 c tb wb ct cw dT (Wf dW) dH iK 0:=AW;clear AW;have hD:(if decide (e≠0)=true then((⟨dT,dW,dH,iK⟩,e):DB×Int)
  else match dT[dC (aR dT name)]?,dW[dC (cu dW s)]? with
  |some t,some w=>
   if decide (((jX r) t).2.2≠19)&&decide ((w.log.length:Int)>=60)then(⟨dT,dW,dH,iK⟩,4)
   else if decide (((jX r) t).2.2=0)=true then
    (⟨dT.set (dC (aR dT name)) ((jX r) t).1,dW.set (dC (cu dW s)) ⟨w.s,w.log++[⟨name,((jX r) t).2.1.op,((jX r) t).2.1.row⟩],w.marks⟩,dH,iK⟩,0)
   else(⟨dT,dW,dH,iK⟩,((jX r) t).2.2)
  |_,_=>(⟨dT,dW,dH,iK⟩,e))=D:=hD
 have Nc:e=0->lq (aR dT name)=true/\lq (cu dW s)=true:=Nc;have hRw:iC dT:=Sf.ok.rows;clear Sf;have l2:Le h h2:=l1.cm (by simp[hc,pJ,sY]) k2;have Sa:(Wf dW).map (·.1)=dW:=by unfold Wf;rw[List.map_map];simp[Function.comp_def]
 generalize eu:A .aF .neq e 0=u;have fu:=eu;rw[ay A]at eu;rw[eu]at hD;cbv;rw[fu];cases u with
 |true=>
  have eY:D=(⟨dT,dW,dH,iK⟩,e):=by rw[<-hD];rfl
  refine AX.elim (fun m1 m2 x3 m3 k3 x4 m4 k4 o g0 _ _ _ _ _ _ _ lD=>?_);rw[Sa]at lD;cbv;rw[ai A];refine ar g0 rfl rfl ?_;cbv;refine ef lD (fun h3 b1 n1 c1 b2 n2 c2 b3 n3 c3 b4 n4 c4 l3 iJ=>?_);cbv;exact⟨_,e,_,rfl,l2.trans l3,iJ,eY.symm⟩
 |false=>
  have gU:e=0:=Decidable.not_not.1 (of_decide_eq_false eu);subst gU;obtain⟨AD,CE⟩:=Nc rfl;have WD:=kJ AD;have WC:=kJ CE;simp only[aR,cu,List.length_map]at WD WC;obtain⟨t,ht⟩:=aD (xs:=dT) (i:=dC (aR dT name)) WD;obtain⟨w,hw⟩:=aD (xs:=dW) (i:=dC (cu dW s)) WC;cbv;refine(tS AX name).mono (fun v h3 hR=>?_);obtain⟨l3,zt,tt,rfl,R7⟩:=hR;obtain⟨wa,-⟩:=R7.at_;have wa:aP zt (dC (aR dT name)):=wa;cbv;refine(x9 (AX.mono l3) s).mono (fun v h4 hR=>?_);obtain⟨l4,zw,tw,rfl,R6⟩:=hR;obtain⟨Am,-⟩:=R6.at_;have Am:aP zw (dC (cu dW s)):=by have h1:aP zw (dC (cX (Wf dW) s)):=Am;rw[kX]at h1;exact h1
  have hktl:=(List.getElem?_eq_some_iff.1 ht).1;have hkwl:=(List.getElem?_eq_some_iff.1 hw).1;generalize hkte:dC (aR dT name)=kt at *;generalize hkwe:dC (cu dW s)=kw at *;have B8:=l3.trans l4;have KJ:=l2.trans B8;have PD:=AX.mono B8;refine PD.elim (fun m1 m2 x3 m3 k3 x4 m4 k4 o f0 f1 f2 f3 f4 f5 f6 f7 _=>?_);have tK:m2=dW.length:=by rw[f4];simp[Wf]
  have KP:(Wf dW)[kw]? =some (w,true):=by unfold Wf;rw[List.getElem?_map,hw];rfl
  have Jl:(some (⟨wb,0,none⟩:Addr)).isSome=true/\0<=zw/\zw<(m2:Int):=⟨rfl,Am.ix (by omega)⟩;have Jn:(some (⟨tb,0,none⟩:Addr)).isSome=true/\0<=zt/\zt<(m1:Int):=⟨rfl,wa.ix (by omega)⟩;cbv;rw[ai A];rw[ai A];refine ar f0 rfl rfl ?_;cbv;refine⟨Jl,?_⟩;cbv;rw[ai A];rw[ai A];refine ar f0 rfl rfl ?_;cbv;refine⟨Jn,?_⟩;cbv;obtain⟨⟨nm,cols,key,only⟩,rows⟩:=t;refine uV (f3.sl f2) ht wa.eq (fun y1 y2 y3 y4 y5 y6 r1 r2=>?_);have Bp:y5<=2^37:=by have h1:=hRw _ (List.mem_of_getElem? ht);have h2:=r2.len;have h1:rows.length<=2^36:=h1;have h2:y5=rows.length:=h2;omega
  cbv;refine Qr (nm:=nm) (key:=key) (only:=only) r1 r2 (KJ _ _ gr) (qr.mono (KJ.t _)) Bp (fun h5 z1 z2 z3 z4 z5 z6 z7 z8 z9 e1 T1 C1 l5 r3 r4 r5 r6=>?_);have tG:=KJ.trans l5;have Bw:=PD.mono l5;have eY:D=(if decide (e1≠19)&&decide ((w.log.length:Int)>=60)then(⟨dT,dW,dH,iK⟩,4)
   else if decide (e1=0)=true then(⟨dT.set kt ⟨⟨nm,cols,key,only⟩,T1⟩,dW.set kw ⟨w.s,w.log++[⟨name,C1.op,C1.row⟩],w.marks⟩,dH,iK⟩,0)else(⟨dT,dW,dH,iK⟩,e1)):=by
   rw[<-hD];simp only[Bool.false_eq_true,if_false];rw[ht,hw];simp only;rw[<-r6]
  have fin:∀(e:Int) (hh:ad) (v:Value),Le h hh->fP hh v ⟨dT,dW,dH,iK⟩->D=(⟨dT,dW,dH,iK⟩,e)->∃v1 e1 d',Value.tuple #[v,.int .i64 e]=.tuple #[v1,.int .i64 e1]/\Le h hh/\fP hh v1 d'/\(d',e1)=D:=
   fun e hh v l r hE=>⟨v,e,_,rfl,l,r,hE.symm⟩
  refine Bw.elim (fun p1 p2 p3 p4 p5 p6 p7 p8 p9 g0 i1 i2 i3 i4 i5 i6 i7 lD=>?_);rw[Sa]at lD;generalize JO:A .aF .neq e1 19=u19;have f19:=JO;rw[ay A]at JO;generalize JP:A .aF .eql e1 0=u0;have JF:=JP;rw[aw A]at JP;rw[JO,JP]at eY;cbv;rw[f19];cases u19 with
  |false=>
   have h19:e1=19:=Decidable.not_not.1 (of_decide_eq_false JO);have hu0:u0=false:=by rw[<-JP,h19];rfl
   subst hu0;have eY:D=(⟨dT,dW,dH,iK⟩,e1):=eY;cbv;rw[JF];cbv;rw[ai A];refine ar g0 rfl rfl ?_;cbv;refine ef lD (fun h6 b1 n1 c1 b2 n2 c2 b3 n3 c3 b4 n4 c4 l6 iJ=>?_);cbv;exact fin e1 _ _ (tG.trans l6) iJ eY
  |true=>
   have Fj:=Am.eq;cbv;refine sq (i5.sl i4) KP Am.eq (fun y1 y2 y3 r7 r9 _=>?_);generalize CS:A .aF .geq (A .nat y2) 60=UJ;have f60:=CS;rw[bO A,hA.nat]at CS;simp only[Int.ofNat_eq_natCast]at CS;have Bn:y2=w.log.length:=r7.len;have I9:UJ=false->y2<60:=fun e=>by rw[e]at CS;have:=of_decide_eq_false CS;omega
   rw[Bn]at CS;rw[CS]at eY;cbv;rw[f60];cases UJ with
   |true=>
    have eY:D=(⟨dT,dW,dH,iK⟩,4):=eY;have yY:A .aF .eql 4 0=false:=by rw[aw A];rfl
    cbv;rw[yY];cbv;rw[ai A];refine ar g0 rfl rfl ?_;cbv;refine ef lD (fun h6 b1 n1 c1 b2 n2 c2 b3 n3 c3 b4 n4 c4 l6 iJ=>?_);cbv;exact fin 4 _ _ (tG.trans l6) iJ eY
   |false=>
    have aI:=I9 rfl;have hlog:w.log.length<60:=by omega
    cbv;rw[JF];cases u0 with
    |false=>have eY:D=(⟨dT,dW,dH,iK⟩,e1):=eY;cbv;rw[ai A];refine ar g0 rfl rfl ?_;cbv;refine ef lD (fun h6 b1 n1 c1 b2 n2 c2 b3 n3 c3 b4 n4 c4 l6 iJ=>?_);cbv;exact fin e1 _ _ (tG.trans l6) iJ eY
    |true=>
     have fh:e1=0:=of_decide_eq_true JP;have eY:D=(⟨dT.set kt ⟨⟨nm,cols,key,only⟩,T1⟩,dW.set kw ⟨w.s,w.log++[⟨name,C1.op,C1.row⟩],w.marks⟩,dH,iK⟩,0):=eY;subst fh;have Jm:(some (⟨tb,0,none⟩:Addr)).isSome=true/\0<=zt/\zt<(p1:Int):=⟨rfl,wa.ix (by omega)⟩;cbv;rw[ai A];rw[ai A];refine ar g0 rfl rfl ?_;cbv;refine⟨Jm,?_⟩;cbv;have rT:cL.R h5 [.string nm,.slice z1 z2 z3,.int .i64 key,.bool only,.slice z4 z5 z6] ⟨⟨nm,cols,key,only⟩,T1⟩:=⟨_,_,_,_,_,_,rfl,r3,r4⟩;refine i3.setAt (by decide) (i:=kt) (by omega) wa.eq rfl rT (fun h6 k6 t6 o6=>?_);have R1:c≠tb:=rf;have g6:=k6 _ _ g0 (by simpa using R1);have i56:=i5.mono (t6 _ (by decide));have r56:=r5.mono (t6 _ (by decide));cbv;refine sq (i56.sl i4) KP Am.eq (fun y1 y2 y3 r7 r9 ag=>?_);have hy3:=r9 rfl;subst hy3;cbv;intro TL h7 RE e7;have l7:Le h6 h7:=by rw[e7];exact Le.set RE
     have g7:=(congrFun e7 TL).trans ae;have qx:=bp (s:=fO) g7 (x:=⟨name,C1.op,C1.row⟩) ⟨_,_,_,rfl,r56.mono (l7.t _)⟩;cbv;refine ag _ _ l7 ?_;cbv;refine⟨⟨_,rfl,rfl⟩,?_⟩;cbv;have Bn:=r7.len;refine jA (r7.mono (l7.t _)) qx (by omega) rfl (by decide) (by simp only at Bn;omega) (fun nb8 c8 h8 hnb8 l8 hc8 o8=>?_);have E1:=l7.trans l8;have i58:=i56.mono (E1.t _);have s8:=o8.sl (n:=y3+1) (by simp only[List.length_append,List.length_singleton];simp only at Bn;omega);cbv;refine i58.Ev (by decide) (i:=kw) KP Am.eq rfl (off:=1) (by simp[bQ]) (x':=(⟨w.s,w.log++[⟨name,C1.op,C1.row⟩],w.marks⟩,false)) (fun cs aJ=>?_) (fun h9 k9 t9 o9=>?_)
     ·obtain⟨y1,y2,y3,y4,y5,y6,rfl,q1,q2,q3⟩:=aJ;exact⟨_,_,_,y4,y5,y6,rfl,s8,q2,fun e=>by cases e⟩
     have g8:=E1 _ _ g6;have RZ:c≠wb:=pf;have g9:=k9 _ _ g8 (by simpa using RZ);have VG:Le h h9:=by have h1:Le h h6:=tG.cm (by simpa using pJ) k6;exact(h1.trans E1).cm (by simpa using sY) k9
     have Cy:fP h9 (.agg #[.slice (some ⟨tb,0,none⟩) p1 ct,.slice (some ⟨wb,0,none⟩) p2 cw,.slice p3 p4 p5,.slice p6 p7 p8]) ⟨dT.set kt ⟨⟨nm,cols,key,only⟩,T1⟩,dW.set kw ⟨w.s,w.log++[⟨name,C1.op,C1.row⟩],w.marks⟩,dH,iK⟩:=by refine⟨_,_,_,_,_,_,_,_,_,_,_,_,_,rfl,((o6.mono (E1.t _)).mono (t9 _ (by decide))).sl (by rw[List.length_set];exact i2),o9.sl (by rw[List.length_set];exact i4),((i6.mono (t6 _ (by decide))).mono (E1.t _)).mono (t9 _ (by decide)),((i7.mono (t6 _ (by decide))).mono (E1.t _)).mono (t9 _ (by decide)),?_⟩;rw[List.map_set,Sa]
     cbv;rw[ai A];refine ar g9 rfl rfl ?_;cbv;refine ef Cy (fun fh b1 n1 c1 b2 n2 c2 b3 n3 c3 b4 n4 c4 mE iJ=>?_);cbv;exact⟨_,0,_,rfl,VG.trans mE,iJ,eY.symm⟩
theorem FO{d:DB}{h:ad}{v:Value}(q:fP h v d){n:Nat}(ok:sK n d)(iq:n<2^18)(s:Int)(gu:-2^63<=s/\s<2^63)(name:ByteArray){rb:Nat}{kv:dc}(gr:h rb=some (.cells #[.int .i64 kv.k,.int .i64 kv.n,.string kv.s] 61 (0,0))):
 Ct 165 [v,.int .i64 s,.string name,.func (.func 249) #[] #[.pointer (some ⟨rb,0,none⟩)]] h (fun v' h'=>∃v1 e d',v'=.tuple #[v1,.int .i64 e]/\Le h h'/\fP h' v1 d'/\(d',e)=dh d ⟨s,name,true⟩ (eC kv)):=by
 obtain⟨A,hA⟩:=Ar.ex;obtain⟨b1,n1,c1,b2,n2,c2,b3,n3,c3,b4,n4,c4,rfl⟩:=q.form;have hH:=ok.holds;have Um:=ok.waits;generalize hD:dh d ⟨s,name,true⟩ (eC kv)=D;have Sf:=nQ ok ⟨s,name,true⟩ gu;have Nc:=vd ok (hd:=⟨s,name,true⟩) gu;unfold dh at hD;obtain⟨D0,W6⟩:∃D0,aO d ⟨s,name,true⟩=D0:=⟨_,rfl⟩;rw[W6]at hD Sf Nc;obtain⟨⟨dT,dW,dH,iK⟩,e⟩:=D0;refine ah A (aq Om.ax Om.bm) Tryz.func165 rfl (by kernel_rfl) ?_;cbv;refine oq q (fun h1 c tb wb ct cw W l1 hc pJ sY rf pf hW NK GI cs=>?_);have cs:iG h1 c tb wb ct cw d.aK (Wf d.au) d.holds d.waits 0:=by rw[hW]at cs;exact cs
 cbv;refine yQ cs ⟨s,name,true⟩ rf pf ok.rows (by omega) (by omega) W6 (fun h2 k2 AW=>?_);have AX:iG h2 c tb wb ct cw dT (Wf dW) dH iK 0:=AW;clear AW;have hD:(if decide (e≠0)=true then((⟨dT,dW,dH,iK⟩,e):DB×Int)
  else match dT[dC (aR dT name)]?,dW[dC (cu dW s)]? with
  |some t,some w=>
   if decide (((eC kv) t).2.2≠19)&&decide ((w.log.length:Int)>=60)then(⟨dT,dW,dH,iK⟩,4)
   else if decide (((eC kv) t).2.2=0)=true then
    (⟨dT.set (dC (aR dT name)) ((eC kv) t).1,dW.set (dC (cu dW s)) ⟨w.s,w.log++[⟨name,((eC kv) t).2.1.op,((eC kv) t).2.1.row⟩],w.marks⟩,dH,iK⟩,0)
   else(⟨dT,dW,dH,iK⟩,((eC kv) t).2.2)
  |_,_=>(⟨dT,dW,dH,iK⟩,e))=D:=hD
 have Nc:e=0->lq (aR dT name)=true/\lq (cu dW s)=true:=Nc;have hRw:iC dT:=Sf.ok.rows;clear Sf;have l2:Le h h2:=l1.cm (by simp[hc,pJ,sY]) k2;have Sa:(Wf dW).map (·.1)=dW:=by unfold Wf;rw[List.map_map];simp[Function.comp_def]
 generalize eu:A .aF .neq e 0=u;have fu:=eu;rw[ay A]at eu;rw[eu]at hD;cbv;rw[fu];cases u with
 |true=>
  have eY:D=(⟨dT,dW,dH,iK⟩,e):=by rw[<-hD];rfl
  refine AX.elim (fun m1 m2 x3 m3 k3 x4 m4 k4 o g0 _ _ _ _ _ _ _ lD=>?_);rw[Sa]at lD;cbv;rw[ai A];refine ar g0 rfl rfl ?_;cbv;refine ef lD (fun h3 b1 n1 c1 b2 n2 c2 b3 n3 c3 b4 n4 c4 l3 iJ=>?_);cbv;exact⟨_,e,_,rfl,l2.trans l3,iJ,eY.symm⟩
 |false=>
  have gU:e=0:=Decidable.not_not.1 (of_decide_eq_false eu);subst gU;obtain⟨AD,CE⟩:=Nc rfl;have WD:=kJ AD;have WC:=kJ CE;simp only[aR,cu,List.length_map]at WD WC;obtain⟨t,ht⟩:=aD (xs:=dT) (i:=dC (aR dT name)) WD;obtain⟨w,hw⟩:=aD (xs:=dW) (i:=dC (cu dW s)) WC;cbv;refine(tS AX name).mono (fun v h3 hR=>?_);obtain⟨l3,zt,tt,rfl,R7⟩:=hR;obtain⟨wa,-⟩:=R7.at_;have wa:aP zt (dC (aR dT name)):=wa;cbv;refine(x9 (AX.mono l3) s).mono (fun v h4 hR=>?_);obtain⟨l4,zw,tw,rfl,R6⟩:=hR;obtain⟨Am,-⟩:=R6.at_;have Am:aP zw (dC (cu dW s)):=by have h1:aP zw (dC (cX (Wf dW) s)):=Am;rw[kX]at h1;exact h1
  have hktl:=(List.getElem?_eq_some_iff.1 ht).1;have hkwl:=(List.getElem?_eq_some_iff.1 hw).1;generalize hkte:dC (aR dT name)=kt at *;generalize hkwe:dC (cu dW s)=kw at *;have B8:=l3.trans l4;have KJ:=l2.trans B8;have PD:=AX.mono B8;refine PD.elim (fun m1 m2 x3 m3 k3 x4 m4 k4 o f0 f1 f2 f3 f4 f5 f6 f7 _=>?_);have tK:m2=dW.length:=by rw[f4];simp[Wf]
  have KP:(Wf dW)[kw]? =some (w,true):=by unfold Wf;rw[List.getElem?_map,hw];rfl
  have Jl:(some (⟨wb,0,none⟩:Addr)).isSome=true/\0<=zw/\zw<(m2:Int):=⟨rfl,Am.ix (by omega)⟩;have Jn:(some (⟨tb,0,none⟩:Addr)).isSome=true/\0<=zt/\zt<(m1:Int):=⟨rfl,wa.ix (by omega)⟩;cbv;rw[ai A];rw[ai A];refine ar f0 rfl rfl ?_;cbv;refine⟨Jl,?_⟩;cbv;rw[ai A];rw[ai A];refine ar f0 rfl rfl ?_;cbv;refine⟨Jn,?_⟩;cbv;obtain⟨⟨nm,cols,key,only⟩,rows⟩:=t;refine uV (f3.sl f2) ht wa.eq (fun y1 y2 y3 y4 y5 y6 r1 r2=>?_);have Bp:y5<=2^37:=by have h1:=hRw _ (List.mem_of_getElem? ht);have h2:=r2.len;have h1:rows.length<=2^36:=h1;have h2:y5=rows.length:=h2;omega
  cbv;refine LG (nm:=nm) (key:=key) (only:=only) r1 r2 (kv:=kv) (KJ _ _ gr) Bp (fun h5 z1 z2 z3 z4 z5 z6 z7 z8 z9 e1 T1 C1 l5 r3 r4 r5 r6=>?_);have tG:=KJ.trans l5;have Bw:=PD.mono l5;have eY:D=(if decide (e1≠19)&&decide ((w.log.length:Int)>=60)then(⟨dT,dW,dH,iK⟩,4)
   else if decide (e1=0)=true then(⟨dT.set kt ⟨⟨nm,cols,key,only⟩,T1⟩,dW.set kw ⟨w.s,w.log++[⟨name,C1.op,C1.row⟩],w.marks⟩,dH,iK⟩,0)else(⟨dT,dW,dH,iK⟩,e1)):=by
   rw[<-hD];simp only[Bool.false_eq_true,if_false];rw[ht,hw];simp only;rw[<-r6]
  have fin:∀(e:Int) (hh:ad) (v:Value),Le h hh->fP hh v ⟨dT,dW,dH,iK⟩->D=(⟨dT,dW,dH,iK⟩,e)->∃v1 e1 d',Value.tuple #[v,.int .i64 e]=.tuple #[v1,.int .i64 e1]/\Le h hh/\fP hh v1 d'/\(d',e1)=D:=
   fun e hh v l r hE=>⟨v,e,_,rfl,l,r,hE.symm⟩
  refine Bw.elim (fun p1 p2 p3 p4 p5 p6 p7 p8 p9 g0 i1 i2 i3 i4 i5 i6 i7 lD=>?_);rw[Sa]at lD;generalize JO:A .aF .neq e1 19=u19;have f19:=JO;rw[ay A]at JO;generalize JP:A .aF .eql e1 0=u0;have JF:=JP;rw[aw A]at JP;rw[JO,JP]at eY;cbv;rw[f19];cases u19 with
  |false=>
   have h19:e1=19:=Decidable.not_not.1 (of_decide_eq_false JO);have hu0:u0=false:=by rw[<-JP,h19];rfl
   subst hu0;have eY:D=(⟨dT,dW,dH,iK⟩,e1):=eY;cbv;rw[JF];cbv;rw[ai A];refine ar g0 rfl rfl ?_;cbv;refine ef lD (fun h6 b1 n1 c1 b2 n2 c2 b3 n3 c3 b4 n4 c4 l6 iJ=>?_);cbv;exact fin e1 _ _ (tG.trans l6) iJ eY
  |true=>
   have Fj:=Am.eq;cbv;refine sq (i5.sl i4) KP Am.eq (fun y1 y2 y3 r7 r9 _=>?_);generalize CS:A .aF .geq (A .nat y2) 60=UJ;have f60:=CS;rw[bO A,hA.nat]at CS;simp only[Int.ofNat_eq_natCast]at CS;have Bn:y2=w.log.length:=r7.len;have I9:UJ=false->y2<60:=fun e=>by rw[e]at CS;have:=of_decide_eq_false CS;omega
   rw[Bn]at CS;rw[CS]at eY;cbv;rw[f60];cases UJ with
   |true=>
    have eY:D=(⟨dT,dW,dH,iK⟩,4):=eY;have yY:A .aF .eql 4 0=false:=by rw[aw A];rfl
    cbv;rw[yY];cbv;rw[ai A];refine ar g0 rfl rfl ?_;cbv;refine ef lD (fun h6 b1 n1 c1 b2 n2 c2 b3 n3 c3 b4 n4 c4 l6 iJ=>?_);cbv;exact fin 4 _ _ (tG.trans l6) iJ eY
   |false=>
    have aI:=I9 rfl;have hlog:w.log.length<60:=by omega
    cbv;rw[JF];cases u0 with
    |false=>have eY:D=(⟨dT,dW,dH,iK⟩,e1):=eY;cbv;rw[ai A];refine ar g0 rfl rfl ?_;cbv;refine ef lD (fun h6 b1 n1 c1 b2 n2 c2 b3 n3 c3 b4 n4 c4 l6 iJ=>?_);cbv;exact fin e1 _ _ (tG.trans l6) iJ eY
    |true=>
     have fh:e1=0:=of_decide_eq_true JP;have eY:D=(⟨dT.set kt ⟨⟨nm,cols,key,only⟩,T1⟩,dW.set kw ⟨w.s,w.log++[⟨name,C1.op,C1.row⟩],w.marks⟩,dH,iK⟩,0):=eY;subst fh;have Jm:(some (⟨tb,0,none⟩:Addr)).isSome=true/\0<=zt/\zt<(p1:Int):=⟨rfl,wa.ix (by omega)⟩;cbv;rw[ai A];rw[ai A];refine ar g0 rfl rfl ?_;cbv;refine⟨Jm,?_⟩;cbv;have rT:cL.R h5 [.string nm,.slice z1 z2 z3,.int .i64 key,.bool only,.slice z4 z5 z6] ⟨⟨nm,cols,key,only⟩,T1⟩:=⟨_,_,_,_,_,_,rfl,r3,r4⟩;refine i3.setAt (by decide) (i:=kt) (by omega) wa.eq rfl rT (fun h6 k6 t6 o6=>?_);have R1:c≠tb:=rf;have g6:=k6 _ _ g0 (by simpa using R1);have i56:=i5.mono (t6 _ (by decide));have r56:=r5.mono (t6 _ (by decide));cbv;refine sq (i56.sl i4) KP Am.eq (fun y1 y2 y3 r7 r9 ag=>?_);have hy3:=r9 rfl;subst hy3;cbv;intro TL h7 RE e7;have l7:Le h6 h7:=by rw[e7];exact Le.set RE
     have g7:=(congrFun e7 TL).trans ae;have qx:=bp (s:=fO) g7 (x:=⟨name,C1.op,C1.row⟩) ⟨_,_,_,rfl,r56.mono (l7.t _)⟩;cbv;refine ag _ _ l7 ?_;cbv;refine⟨⟨_,rfl,rfl⟩,?_⟩;cbv;have Bn:=r7.len;refine jA (r7.mono (l7.t _)) qx (by omega) rfl (by decide) (by simp only at Bn;omega) (fun nb8 c8 h8 hnb8 l8 hc8 o8=>?_);have E1:=l7.trans l8;have i58:=i56.mono (E1.t _);have s8:=o8.sl (n:=y3+1) (by simp only[List.length_append,List.length_singleton];simp only at Bn;omega);cbv;refine i58.Ev (by decide) (i:=kw) KP Am.eq rfl (off:=1) (by simp[bQ]) (x':=(⟨w.s,w.log++[⟨name,C1.op,C1.row⟩],w.marks⟩,false)) (fun cs aJ=>?_) (fun h9 k9 t9 o9=>?_)
     ·obtain⟨y1,y2,y3,y4,y5,y6,rfl,q1,q2,q3⟩:=aJ;exact⟨_,_,_,y4,y5,y6,rfl,s8,q2,fun e=>by cases e⟩
     have g8:=E1 _ _ g6;have RZ:c≠wb:=pf;have g9:=k9 _ _ g8 (by simpa using RZ);have VG:Le h h9:=by have h1:Le h h6:=tG.cm (by simpa using pJ) k6;exact(h1.trans E1).cm (by simpa using sY) k9
     have Cy:fP h9 (.agg #[.slice (some ⟨tb,0,none⟩) p1 ct,.slice (some ⟨wb,0,none⟩) p2 cw,.slice p3 p4 p5,.slice p6 p7 p8]) ⟨dT.set kt ⟨⟨nm,cols,key,only⟩,T1⟩,dW.set kw ⟨w.s,w.log++[⟨name,C1.op,C1.row⟩],w.marks⟩,dH,iK⟩:=by refine⟨_,_,_,_,_,_,_,_,_,_,_,_,_,rfl,((o6.mono (E1.t _)).mono (t9 _ (by decide))).sl (by rw[List.length_set];exact i2),o9.sl (by rw[List.length_set];exact i4),((i6.mono (t6 _ (by decide))).mono (E1.t _)).mono (t9 _ (by decide)),((i7.mono (t6 _ (by decide))).mono (E1.t _)).mono (t9 _ (by decide)),?_⟩;rw[List.map_set,Sa]
     cbv;rw[ai A];refine ar g9 rfl rfl ?_;cbv;refine ef Cy (fun fh b1 n1 c1 b2 n2 c2 b3 n3 c3 b4 n4 c4 mE iJ=>?_);cbv;exact⟨_,0,_,rfl,VG.trans mE,iJ,eY.symm⟩
def jJ(d:DB)(s:Int)(name:ByteArray)(r:Row):DB×Int:=dh d ⟨s,name,true⟩ (jX r)
def jq(d:DB)(s:Int)(name:ByteArray)(k:dc):DB×Int:=dh d ⟨s,name,true⟩ (eC k)
def gO(d:DB)(s:Int):DB×Int:=if lq (cu d.au s)=true then(kL d s,0)else(d,2)
def commitD(d:DB)(s:Int):DB×List lG×Int:=
 if lq (cu d.au s)=true then(⟨d.aK,vG d.au s,bL d.holds s,bL d.waits s⟩,match d.au[dC (cu d.au s)]? with
  |some w=>w.log
  |none=>[],0)
 else(d,[],2)
def dropD(d:DB)(name:ByteArray):DB×Int:=
 if lq (aR d.aK name)=true then if decide ((d.au.length:Int)>0)=true then(d,18)else(⟨d.aK.eraseIdx (dC (aR d.aK name)),d.au,d.holds,d.waits⟩,0)
 else(d,2)
def rowsD(d:DB)(s:Int)(name:ByteArray):DB×List Row×Int:=
 if decide ((aO d ⟨s,name,false⟩).2≠0)=true then((aO d ⟨s,name,false⟩).1,[],(aO d ⟨s,name,false⟩).2)
 else((aO d ⟨s,name,false⟩).1,match (aO d ⟨s,name,false⟩).1.aK[dC (aR (aO d ⟨s,name,false⟩).1.aK name)]? with
  |some t=>t.rows
  |none=>[],0)
theorem zq(ws:List dw):(Wf ws).map (·.1)=ws:=by unfold Wf;rw[List.map_map];simp[Function.comp_def]
theorem HL{d:DB}{h:ad}{v:Value}(q:fP h v d){n:Nat}(ok:sK n d)(iq:n<2^18)(s:Int)(gu:-2^63<=s/\s<2^63)(name:ByteArray){r:Row}{vb:Option Addr}{vn vc:Nat}(qr:Sl 61 aQ h (.slice vb vn vc) r){D:DB×Int}(hD:jJ d s name r=D){k:Value->ad->Prop}
 (hk:PM h D.1 D.2 k):Ct 83 [v,.int .i64 s,.string name,.slice vb vn vc] h k:=by
 obtain⟨A,hA⟩:=Ar.ex;obtain⟨b1,n1,c1,b2,n2,c2,b3,n3,c3,b4,n4,c4,rfl⟩:=q.form;refine ah A (aq T83.ax T83.bm) Tryz.func83 rfl (by kernel_rfl) ?_;cbv;intro rb h1 Bq e1;have l1:Le h h1:=by rw[e1];exact Le.set Bq
 have g1:=(congrFun e1 rb).trans ae;cbv;refine(FP (q.mono l1) ok iq s gu name g1 (qr.mono (l1.t _))).mono (fun v h2 hR=>?_);obtain⟨v1,e,d',hv,l2,hd,hE⟩:=hR;have hE2:(d',e)=D:=hE.trans hD;subst hE2;obtain⟨b1,n1,c1,b2,n2,c2,b3,n3,c3,b4,n4,c4,hf⟩:=hd.form;rw[hv,hf];have af:=hk h2 b1 n1 c1 b2 n2 c2 b3 n3 c3 b4 n4 c4 (l1.trans l2) (by rw[<-hf];exact hd);cbv;exact af
theorem LH{d:DB}{h:ad}{v:Value}(q:fP h v d){n:Nat}(ok:sK n d)(iq:n<2^18)(s:Int)(gu:-2^63<=s/\s<2^63)(name:ByteArray)(kv:dc){D:DB×Int}(hD:jq d s name kv=D){k:Value->ad->Prop}
 (hk:PM h D.1 D.2 k):Ct 174 [v,.int .i64 s,.string name,.agg #[.int .i64 kv.k,.int .i64 kv.n,.string kv.s]] h k:=by
 obtain⟨A,hA⟩:=Ar.ex;obtain⟨b1,n1,c1,b2,n2,c2,b3,n3,c3,b4,n4,c4,rfl⟩:=q.form;refine ah A (aq Zw.ax Zw.bm) Tryz.func174 rfl (by kernel_rfl) ?_;cbv;intro rb h1 Bq e1;have l1:Le h h1:=by rw[e1];exact Le.set Bq
 have g1:=(congrFun e1 rb).trans ae;cbv;refine(FO (q.mono l1) ok iq s gu name (kv:=kv) g1).mono (fun v h2 hR=>?_);obtain⟨v1,e,d',hv,l2,hd,hE⟩:=hR;have hE2:(d',e)=D:=hE.trans hD;subst hE2;obtain⟨b1,n1,c1,b2,n2,c2,b3,n3,c3,b4,n4,c4,hf⟩:=hd.form;rw[hv,hf];have af:=hk h2 b1 n1 c1 b2 n2 c2 b3 n3 c3 b4 n4 c4 (l1.trans l2) (by rw[<-hf];exact hd);cbv;exact af
theorem iG.new{d:DB}{h1:ad}{c tb wb ct cw:Nat}{W:List (dw×Bool)}(cs:iG h1 c tb wb ct cw d.aK W d.holds d.waits 0)(hW:W=d.au.map fun w=>(w,true)):iG h1 c tb wb ct cw d.aK (Wf d.au) d.holds d.waits 0:=by rw[hW]at cs;exact cs
theorem MP{d:DB}{h:ad}{v:Value}(q:fP h v d){n:Nat}(ok:sK n d)(iq:n<2^18)(s:Int)(name:ByteArray)(x:Bool){D:DB×Int}(hD:aO d ⟨s,name,x⟩=D){k:Value->ad->Prop}
 (hk:PM h D.1 D.2 k):Ct 159 [v,.int .i64 s,.string name,.bool x] h k:=by
 obtain⟨A,hA⟩:=Ar.ex;obtain⟨b1,n1,c1,b2,n2,c2,b3,n3,c3,b4,n4,c4,rfl⟩:=q.form;have hH:=ok.holds;have Um:=ok.waits;obtain⟨⟨dT,dW,dH,iK⟩,e⟩:=D;refine ah A (aq ZI.ax ZI.bm) Tryz.func159 rfl (by kernel_rfl) ?_;cbv;refine oq q (fun h1 c tb wb ct cw W l1 hc pJ sY rf pf hW NK GI cs=>?_);cbv;refine yQ (cs.new hW) ⟨s,name,x⟩ rf pf ok.rows (by omega) (by omega) hD (fun h2 k2 AW=>?_);have AX:iG h2 c tb wb ct cw dT (Wf dW) dH iK 0:=AW;clear AW;have l2:Le h h2:=l1.cm (by simp[hc,pJ,sY]) k2;refine AX.elim (fun m1 m2 x3 m3 k3 x4 m4 k4 o g0 _ _ _ _ _ _ _ lD=>?_);rw[zq]at lD;cbv;rw[ai A];refine ar g0 rfl rfl ?_;cbv;refine ef lD (fun h3 b1 n1 c1 b2 n2 c2 b3 n3 c3 b4 n4 c4 l3 iJ=>?_);have af:=hk h3 b1 n1 c1 b2 n2 c2 b3 n3 c3 b4 n4 c4 (l2.trans l3) iJ;cbv;exact af
theorem zU{d:DB}{h:ad}{v:Value}(q:fP h v d){n:Nat}(ok:sK n d)(iq:n<2^18)(s:Int){D:DB×Int}(hD:gO d s=D){k:Value->ad->Prop}
 (hk:PM h D.1 D.2 k):Ct 38 [v,.int .i64 s] h k:=by
 obtain⟨A,hA⟩:=Ar.ex;obtain⟨b1,n1,c1,b2,n2,c2,b3,n3,c3,b4,n4,c4,rfl⟩:=q.form;have hH:=ok.holds;have Um:=ok.waits;refine ah A (aq T38.ax T38.bm) Tryz.func38 rfl (by kernel_rfl) ?_;cbv;refine oq q (fun h1 c tb wb ct cw W l1 hc pJ sY rf pf hW NK GI cs=>?_);have cs:=cs.new hW;cbv;refine oz cs s (fun h2 z t l2 hz ht=>?_);rw[kX]at ht;have fH:=l1.trans l2;have q2:=q.mono fH;cases t with
 |false=>
  have eY:D=(d,2):=by rw[<-hD];unfold gO;rw[<-ht];rfl
  subst eY;cbv;rw[show A .not false=true by rw[hA.not];rfl];cbv;refine ef q2 (fun h3 b1 n1 c1 b2 n2 c2 b3 n3 c3 b4 n4 c4 l3 iJ=>?_);have af:=hk h3 b1 n1 c1 b2 n2 c2 b3 n3 c3 b4 n4 c4 (fH.trans l3) iJ;cbv;exact af
 |true=>
  have eY:D=(kL d s,0):=by rw[<-hD];unfold gO;rw[<-ht];rfl
  subst eY;cbv;rw[show A .not true=false by rw[hA.not];rfl];cbv;refine Kl (cs.mono l2) rf pf ok.rows s (by omega) (by omega) (fun h3 k3 JW=>?_);rw[Ba,DZ]at JW;have l3:Le h h3:=fH.cm (by simp[hc,pJ,sY]) k3;refine JW.elim (fun m1 m2 x3 m3 k3 x4 m4 k4 o g0 _ _ _ _ _ _ _ lD=>?_);rw[zq]at lD;cbv;rw[ai A];refine ar g0 rfl rfl ?_;cbv;refine ef lD (fun h4 b1 n1 c1 b2 n2 c2 b3 n3 c3 b4 n4 c4 l4 iJ=>?_);have af:=hk h4 b1 n1 c1 b2 n2 c2 b3 n3 c3 b4 n4 c4 (l3.trans l4) iJ;cbv;exact af
def B3(l:List Ll)(nm:ByteArray):Nat->Option Nat
 |0=>none
 |i+1=>match l[i]? with
  |some m=>if decide (m.name=nm)=true then some i else B3 l nm i
  |none=>B3 l nm i
def tz(d:DB)(s:Int)(nm:ByteArray):DB×Int:=
 if lq (cu d.au s)=true then match d.au[dC (cu d.au s)]? with
  |some w=>match B3 w.marks nm w.marks.length with
   |some k=>(⟨fx d.aK (w.log.drop (eF (((w.marks[k]?).map (·.at_)).getD 0) w.log.length)),d.au.set (dC (cu d.au s)) ⟨w.s,w.log.take (eF (((w.marks[k]?).map (·.at_)).getD 0) w.log.length),w.marks.take (k+1)⟩,d.holds,d.waits⟩,0)
   |none=>(d,2)
  |none=>(d,2)
 else(d,2)
theorem _root_.Go.Sx.Kp.QT{h h':ad}{n1 n2 e1 e2:Nat}{c1 c2:Array Value}{f1 f2:Nat×Nat}(k:Kp [n1,n2] h h')(g1:h n1=some (.cells c1 e1 f1))(g2:h n2=some (.cells c2 e2 f2)){tys:List Nat}(h1:e1∉tys)(h2:e2∉tys):bE tys h h':=fun b d e' Fu hm hb=>
 k b _ hb (by
  intro iu;simp at iu;rcases iu with rfl|rfl
  ·rw[g1]at hb;cases hb;exact h1 hm
  ·rw[g2]at hb;cases hb;exact h2 hm)
theorem N5{d:DB}{h:ad}{v:Value}(q:fP h v d){n:Nat}(ok:sK n d)(s:Int)(nm:ByteArray){D:DB×Int}(hD:tz d s nm=D){k:Value->ad->Prop}
 (hk:PM h D.1 D.2 k):Ct 40 [v,.int .i64 s,.string nm] h k:=by
 obtain⟨A,hA⟩:=Ar.ex;obtain⟨b1,n1,c1,b2,n2,c2,b3,n3,c3,b4,n4,c4,rfl⟩:=q.form;refine ah A (aq T40.ax T40.bm) Tryz.func40 rfl (by kernel_rfl) ?_;cbv;refine oq q (fun h1 c tb wb ct cw W l1 hc pJ sY rf pf hW NK GI cs=>?_);have cs:=cs.new hW;cbv;refine oz cs s (fun h2 z t l2 hz ht=>?_);rw[kX]at ht hz;have fH:=l1.trans l2;have q2:=q.mono fH;cases t with
 |false=>
  have eY:D=(d,2):=by rw[<-hD];unfold tz;rw[<-ht];rfl
  subst eY;cbv;rw[show A .not false=true by rw[hA.not];rfl];cbv;refine ef q2 (fun h3 b1 n1 c1 b2 n2 c2 b3 n3 c3 b4 n4 c4 l3 iJ=>?_);have af:=hk h3 b1 n1 c1 b2 n2 c2 b3 n3 c3 b4 n4 c4 (fH.trans l3) iJ;cbv;exact af
 |true=>
  have aI:dC (cu d.au s)<d.au.length:=by have:=kJ ht.symm;simpa[cu]using this
  obtain⟨w,hw⟩:=aD aI;have eY:(match B3 w.marks nm w.marks.length with
   |some k=>((⟨fx d.aK (w.log.drop (eF (((w.marks[k]?).map (·.at_)).getD 0) w.log.length)),d.au.set (dC (cu d.au s)) ⟨w.s,w.log.take (eF (((w.marks[k]?).map (·.at_)).getD 0) w.log.length),w.marks.take (k+1)⟩,d.holds,d.waits⟩,0):DB×Int)
   |none=>(d,2))=D:=by rw[<-hD];unfold tz;rw[<-ht,hw];rfl
  clear hD;obtain⟨i,hi⟩:∃i,i=dC (cu d.au s):=⟨_,rfl⟩;rw[<-hi]at eY hw hz;clear hi aI;have AX:=cs.mono l2;have KP:(Wf d.au)[i]? =some (w,true):=by unfold Wf;rw[List.getElem?_map,hw];rfl
  refine AX.elim (fun m1 m2 x3 m3 k3 x4 m4 k4 o g0 _ _ f2 f3 f4 _ _ _=>?_);have tK:m2=d.au.length:=by rw[f3];simp[Wf]
  have jV:=(List.getElem?_eq_some_iff.1 hw).1;have cy:(some (⟨wb,0,none⟩:Addr)).isSome=true/\0<=z/\z<(m2:Int):=⟨rfl,hz.ix (by omega)⟩;obtain⟨ws,wl,wm⟩:=w;have eY:(match B3 wm nm wm.length with
   |some k=>((⟨fx d.aK (wl.drop (eF (((wm[k]?).map (·.at_)).getD 0) wl.length)),d.au.set i ⟨ws,wl.take (eF (((wm[k]?).map (·.at_)).getD 0) wl.length),wm.take (k+1)⟩,d.holds,d.waits⟩,0):DB×Int)
   |none=>(d,2))=D:=eY
  cbv;rw[show A .not true=false by rw[hA.not];rfl];cbv;rw[ai A];rw[ai A];refine ar g0 rfl rfl ?_;cbv;refine⟨cy,?_⟩;cbv;refine Ai (f4.sl f3) KP hz.eq (fun y1 y2 y3 qm _=>?_);have qm:Sl 161 fN h2 (.slice y1 y2 y3) wm:=qm;have tJ:=qm.len;have hmb:=qm.bound;have E6:Ln (A .bA .sub .i64 (A .nat y2) 1) y2:=(aP.nat y2).pred (by omega);obtain⟨I,bh⟩:∃I:Int->Nat->ad->Prop,∀g m h',I g m h'=∃j:Nat,Ln g j/\m=j/\j<=y2/\h'=h2/\B3 wm nm wm.length=B3 wm nm j:=⟨_,fun _ _ _=>rfl⟩;cbv;refine aZ.go (G:=Int) (fun g=>[(12,.v (.int .i64 g))]) (fun _=>[(3,[.slice b1 n1 c1,.slice b2 n2 c2,.slice b3 n3 c3,.slice b4 n4 c4]),(6,[.slice none 0 0,.slice none 0 0,.slice none 0 0,.slice none 0 0])]) (fun m g h'=>I g m h') y2 (A .bA .sub .i64 (A .nat y2) 1) ⟨?_,?_,?_⟩ (by rw[bh];exact⟨y2,E6,rfl,Nat.le_refl _,rfl,by rw[tJ]⟩) ?_
  ·cbv
  ·cbv
  ·cbv
  ·intro m g h' hI;rw[bh]at hI;cbv;obtain⟨j,hg,hm,hj,rfl,hF⟩:=hI;rw[hg.ge (A:=A)];cases j with
   |zero=>have hF:B3 wm nm wm.length=none:=hF;rw[hF]at eY;have eY:(d,2)=D:=eY;subst eY;rw[show decide (1<=0)=false from rfl];cbv;refine ef q2 (fun h3 b1 n1 c1 b2 n2 c2 b3 n3 c3 b4 n4 c4 l3 iJ=>?_);have af:=hk h3 b1 n1 c1 b2 n2 c2 b3 n3 c3 b4 n4 c4 (fH.trans l3) iJ;cbv;exact af
   |succ j=>
    have KV:aP g j:=hg.wF;obtain⟨⟨xn,xa⟩,hx⟩:=aD (xs:=wm) (i:=j) (by omega);have WV:y1.isSome=true/\0<=g/\g<(y2:Int):=⟨qm.bF (by omega),KV.ix (by omega)⟩;have DF:B3 wm nm (j+1)=if decide (xn=nm)=true then some j else B3 wm nm j:=by show(match wm[j]? with|some m=>if decide (m.name=nm)=true then some j else B3 wm nm j|none=>B3 wm nm j)=_;rw[hx]
    rw[DF]at hF;have eu0:A .je .eql xn nm=decide (xn=nm):=bN A ..;rw[show decide (1<=j+1)=true from decide_eq_true (by omega)];cbv;refine⟨WV,?_⟩;cbv;refine qm.js hx KV.eq (o:=0) (m:=1) (by decide) (fun cs aJ=>?_);have aJ:cs=[.string xn,.int .i64 xa]:=aJ;subst aJ;cbv;rw[eu0];generalize decide (xn=nm)=u at *;cases u with
    |false=>
     have hF:B3 wm nm wm.length=B3 wm nm j:=hF;have hn:=KV.pred (A:=A) (by omega);have cU:I (A .bA .sub .i64 g 1) j h':=by rw[bh];exact⟨j,hn,rfl,by omega,rfl,hF⟩
     cbv;refine⟨j,_,by omega,⟨?_,?_,?_⟩,cU⟩
     ·cbv
     ·cbv
     ·cbv
    |true=>
     have hF:B3 wm nm wm.length=some j:=hF;rw[hF]at eY;have eY:((⟨fx d.aK (wl.drop (eF (((wm[j]?).map (·.at_)).getD 0) wl.length)),d.au.set i ⟨ws,wl.take (eF (((wm[j]?).map (·.at_)).getD 0) wl.length),wm.take (j+1)⟩,d.holds,d.waits⟩,0):DB×Int)=D:=eY;rw[hx]at eY;have eY:((⟨fx d.aK (wl.drop (eF xa wl.length)),d.au.set i ⟨ws,wl.take (eF xa wl.length),wm.take (j+1)⟩,d.holds,d.waits⟩,0):DB×Int)=D:=eY;have GF:=KV.succ (A:=A) (by omega);have TY:=qm.Dc (A:=A) (i:=j+1) (by omega);have iJ:=dv (A:=A) GF;have hck6:0<=A .bA .add .i64 g 1/\A .bA .add .i64 g 1<=(y3:Int):=by have:=GF.eq;omega
     cbv;refine⟨WV,?_⟩;cbv;refine qm.js hx KV.eq (o:=1) (m:=1) (by decide) (fun cs aJ=>?_);have aJ:cs=[.string xn,.int .i64 xa]:=aJ;subst aJ;cbv;refine G5 AX rf pf ok.rows hz KP xa (fun h3 k3' XB=>?_);have JW:iG h3 c tb wb ct cw (fx d.aK (wl.drop (eF xa wl.length))) ((Wf d.au).set i (⟨ws,wl.take (eF xa wl.length),wm⟩,false)) d.holds d.waits 0:=XB;clear XB;refine JW.elim (fun QQ m2' x3 m3 k3 x4 m4 k4 o Sy ho F1 F2 F3 F4 F6 F7 _=>?_);have hm2':m2'=d.au.length:=by rw[F3];simp[Wf]
     have hck':(some (⟨wb,0,none⟩:Addr)).isSome=true/\0<=z/\z<(m2':Int):=⟨rfl,hz.ix (by omega)⟩;cbv;rw[ai A];rw[ai A];refine ar Sy rfl rfl ?_;cbv;refine⟨hck6,?_⟩;cbv;refine⟨hck',?_⟩;cbv;have Fb:Sl 161 fN h' (.slice (A .cut y1 0 (A .nat y3) 2) (j+1) y3) (wm.take (j+1)):=TY;have htm3:Sl 161 fN h3 (.slice (A .cut y1 0 (A .nat y3) 2) (j+1) y3) (wm.take (j+1)):=by obtain⟨a1,Pl,-⟩:=f2.out;obtain⟨a2,ha2,-⟩:=f4.out;exact Fb.mono (k3'.QT Pl ha2 (by decide) (by decide))
     have hwW3:((Wf d.au).set i (⟨ws,wl.take (eF xa wl.length),wm⟩,false))[i]? =some (⟨ws,wl.take (eF xa wl.length),wm⟩,false):=by rw[List.getElem?_set_self (by simpa[Wf]using jV)]
     rw[iJ];refine F4.Ev (by decide) hwW3 hz.eq rfl (off:=2) (by simp[bQ]) (x':=(⟨ws,wl.take (eF xa wl.length),wm.take (j+1)⟩,false)) (fun cs aJ=>?_) (fun h4 k4' t4 o4=>?_)
     ·obtain⟨x1,y1',z1,x2,y2',z2,rfl,j1,j2,j3⟩:=aJ;exact⟨_,_,_,_,_,_,rfl,j1,htm3,fun hf=>by cases hf⟩
     have g04:=k4' _ _ Sy (by simpa using pf);have Cy:fP h4 (.agg #[.slice (some ⟨tb,0,none⟩) QQ ct,.slice (some ⟨wb,0,none⟩) m2' cw,.slice x3 m3 k3,.slice x4 m4 k4]) ⟨fx d.aK (wl.drop (eF xa wl.length)),d.au.set i ⟨ws,wl.take (eF xa wl.length),wm.take (j+1)⟩,d.holds,d.waits⟩:=by refine⟨_,_,_,_,_,_,_,_,_,_,_,_,_,rfl,(F2.mono (t4 _ (by decide))).sl F1,o4.sl (by rw[List.length_set];exact F3),F6.mono (t4 _ (by decide)),F7.mono (t4 _ (by decide)),?_⟩;simp only[List.map_set,zq,List.set_set]
     have l4:Le h h4:=fH.cm (bs:=[tb,wb]) (by simp[pJ,sY]) (k3'.trans (k4'.sub (by simp)));subst eY;cbv;rw[ai A];refine ar g04 rfl rfl ?_;cbv;refine ef Cy (fun h5 b1 n1 c1 b2 n2 c2 b3 n3 c3 b4 n4 c4 l5 iJ=>?_);have af:=hk h5 b1 n1 c1 b2 n2 c2 b3 n3 c3 b4 n4 c4 (l4.trans l5) iJ;cbv;exact af
end Go.S
