import Derived.Test.YtekoaiendgjkdaaGreatGA
set_option linter.unusedVariables false
set_option linter.unusedSimpArgs false
set_option linter.unusedSectionVars false
set_option maxRecDepth 100000
set_option maxHeartbeats 8000000
namespace Go.S
open Go.Sx Go.Proofs
def ep(d:DB)(hd:bK)(act:cA->cA×lD×Int):DB×Int:=
 if decide ((ax d hd).2≠0)=true then ax d hd
 else match (ax d hd).1.aB[dm (aM (ax d hd).1.aB hd.table)]?,(ax d hd).1.aq[dm (cm (ax d hd).1.aq hd.s)]? with
  |some t,some w=>
   if decide ((act t).2.2≠19)&&decide ((w.log.length:Int)>=60)then((ax d hd).1,4)
   else if decide ((act t).2.2=0)=true then
    (⟨(ax d hd).1.aB.set (dm (aM (ax d hd).1.aB hd.table)) (act t).1,(ax d hd).1.aq.set (dm (cm (ax d hd).1.aq hd.s)) ⟨w.s,w.log++[⟨hd.table,(act t).2.1.op,(act t).2.1.row⟩],w.marks⟩,(ax d hd).1.holds,(ax d hd).1.waits⟩,0)
   else((ax d hd).1,(act t).2.2)
  |_,_=>ax d hd
theorem Ev{d:DB}{h:ad}{v:Value}(q:gA h v d){n:Nat}(ok:uR n d)(kT:n<2^18)(s:Int)(nN:-2^63<=s/\s<2^63)(name:ByteArray){rb:Nat}{r:Row}{vb:Option Addr}{vn vc:Nat}(gr:h rb=some (.cells #[.slice vb vn vc] 59 (0,0)))(qr:Sl 61 aY h (.slice vb vn vc) r):
 Ct 165 [v,.int .i64 s,.string name,.func (.func 164) #[] #[.pointer (some ⟨rb,0,none⟩)]] h (fun v' h'=>∃v1 e d',v'=.tuple #[v1,.int .i64 e]/\Le h h'/\gA h' v1 d'/\(d',e)=ep d ⟨s,name,true⟩ (cU r)):=by
 obtain⟨A,hA⟩:=Ar.ex;obtain⟨b1,n1,c1,b2,n2,c2,b3,n3,c3,b4,n4,c4,rfl⟩:=q.form;have hH:=ok.holds;have UE:=ok.waits;generalize hD:ep d ⟨s,name,true⟩ (cU r)=D;have hHk:=pK ok ⟨s,name,true⟩ nN;have YO:=zy ok (hd:=⟨s,name,true⟩) nN;unfold ep at hD;obtain⟨D0,hHD⟩:∃D0,ax d ⟨s,name,true⟩=D0:=⟨_,rfl⟩;rw[hHD]at hD hHk YO;obtain⟨⟨dT,dW,dH,ma⟩,e⟩:=D0;refine af A (ar Xm.aw Xm.aZ) Tryz.func165 rfl (by kernel_rfl) ?_;cbv;refine qB q (fun h1 c tb wb ct cw W l1 hc qG tQ rI pQ hW NO H5 cs=>?_);have cs:iG h1 c tb wb ct cw d.aB (Wf d.aq) d.holds d.waits 0:=by rw[hW]at cs;exact cs
 cbv;refine Cq cs ⟨s,name,true⟩ rI pQ ok.rows (by omega) (by omega) hHD (fun h2 k2 Io=>?_);have E2:iG h2 c tb wb ct cw dT (Wf dW) dH ma 0:=Io;clear Io;have hD:(if decide (e≠0)=true then((⟨dT,dW,dH,ma⟩,e):DB×Int)
  else match dT[dm (aM dT name)]?,dW[dm (cm dW s)]? with
  |some t,some w=>
   if decide (((cU r) t).2.2≠19)&&decide ((w.log.length:Int)>=60)then(⟨dT,dW,dH,ma⟩,4)
   else if decide (((cU r) t).2.2=0)=true then
    (⟨dT.set (dm (aM dT name)) ((cU r) t).1,dW.set (dm (cm dW s)) ⟨w.s,w.log++[⟨name,((cU r) t).2.1.op,((cU r) t).2.1.row⟩],w.marks⟩,dH,ma⟩,0)
   else(⟨dT,dW,dH,ma⟩,((cU r) t).2.2)
  |_,_=>(⟨dT,dW,dH,ma⟩,e))=D:=hD
 have YO:e=0->kE (aM dT name)=true/\kE (cm dW s)=true:=YO;have hRw:iE dT:=hHk.ok.rows;clear hHk;have l2:Le h h2:=l1.cO (by simp[hc,qG,tQ]) k2;have hWf:(Wf dW).map (·.1)=dW:=by unfold Wf;rw[List.map_map];simp[Function.comp_def]
 generalize eu:A .aD .neq e 0=u;have fu:=eu;rw[aC A]at eu;rw[eu]at hD;cbv;rw[fu];cases u with
 |true=>
  have iy:D=(⟨dT,dW,dH,ma⟩,e):=by rw[<-hD];rfl
  refine E2.elim (fun m1 m2 x3 m3 k3 x4 m4 k4 o g0 _ _ _ _ _ _ _ qZ=>?_);rw[hWf]at qZ;cbv;rw[aj A];refine ay g0 rfl rfl ?_;cbv;refine fB qZ (fun h3 b1 n1 c1 b2 n2 c2 b3 n3 c3 b4 n4 c4 l3 jY=>?_);cbv;exact⟨_,e,_,rfl,l2.trans l3,jY,iy.symm⟩
 |false=>
  have kZ:e=0:=Decidable.not_not.1 (of_decide_eq_false eu);subst kZ;obtain⟨HK,Ea⟩:=YO rfl;have hkt:=me HK;have hkw:=me Ea;simp only[aM,cm,List.length_map]at hkt hkw;obtain⟨t,ht⟩:=aE (xs:=dT) (i:=dm (aM dT name)) hkt;obtain⟨w,hw⟩:=aE (xs:=dW) (i:=dm (cm dW s)) hkw;cbv;refine(wZ E2 name).mono (fun v h3 hR=>?_);obtain⟨l3,zt,tt,rfl,hbt2⟩:=hR;obtain⟨Bb,-⟩:=hbt2.at_;have Bb:aO zt (dm (aM dT name)):=Bb;cbv;refine(AA (E2.mono l3) s).mono (fun v h4 hR=>?_);obtain⟨l4,zw,tw,rfl,hbw2⟩:=hR;obtain⟨KR,-⟩:=hbw2.at_;have KR:aO zw (dm (cm dW s)):=by have h1:aO zw (dm (dg (Wf dW) s)):=KR;rw[lH]at h1;exact h1
  have hktl:=(List.getElem?_eq_some_iff.1 ht).1;have hkwl:=(List.getElem?_eq_some_iff.1 hw).1;generalize hkte:dm (aM dT name)=kt at *;generalize hkwe:dm (cm dW s)=kw at *;have l34:=l3.trans l4;have O2:=l2.trans l34;have Vi:=E2.mono l34;refine Vi.elim (fun m1 m2 x3 m3 k3 x4 m4 k4 o f0 f1 f2 f3 f4 f5 f6 f7 _=>?_);have vj:m2=dW.length:=by rw[f4];simp[Wf]
  have RL:(Wf dW)[kw]? =some (w,true):=by unfold Wf;rw[List.getElem?_map,hw];rfl
  have Qc:(some (⟨wb,0,none⟩:Addr)).isSome=true/\0<=zw/\zw<(m2:Int):=⟨rfl,KR.ix (by omega)⟩;have Qd:(some (⟨tb,0,none⟩:Addr)).isSome=true/\0<=zt/\zt<(m1:Int):=⟨rfl,Bb.ix (by omega)⟩;cbv;rw[aj A];rw[aj A];refine ay f0 rfl rfl ?_;cbv;refine⟨Qc,?_⟩;cbv;rw[aj A];rw[aj A];refine ay f0 rfl rfl ?_;cbv;refine⟨Qd,?_⟩;cbv;obtain⟨⟨nm,cols,key,only⟩,rows⟩:=t;refine xE (f3.sl f2) ht Bb.eq (fun y1 y2 y3 y4 y5 y6 r1 r2=>?_);have Ni:y5<=2^37:=by have h1:=hRw _ (List.mem_of_getElem? ht);have h2:=r2.len;have h1:rows.length<=2^36:=h1;have h2:y5=rows.length:=h2;omega
  cbv;refine OE (nm:=nm) (key:=key) (only:=only) r1 r2 (O2 _ _ gr) (qr.mono (O2.t _)) Ni (fun h5 z1 z2 z3 z4 z5 z6 z7 z8 z9 e1 T1 C1 l5 r3 r4 r5 r6=>?_);have wa:=O2.trans l5;have CM:=Vi.mono l5;have iy:D=(if decide (e1≠19)&&decide ((w.log.length:Int)>=60)then(⟨dT,dW,dH,ma⟩,4)
   else if decide (e1=0)=true then(⟨dT.set kt ⟨⟨nm,cols,key,only⟩,T1⟩,dW.set kw ⟨w.s,w.log++[⟨name,C1.op,C1.row⟩],w.marks⟩,dH,ma⟩,0)else(⟨dT,dW,dH,ma⟩,e1)):=by
   rw[<-hD];simp only[Bool.false_eq_true,if_false];rw[ht,hw];simp only;rw[<-r6]
  have fin:∀(e:Int) (hh:ad) (v:Value),Le h hh->gA hh v ⟨dT,dW,dH,ma⟩->D=(⟨dT,dW,dH,ma⟩,e)->∃v1 e1 d',Value.tuple #[v,.int .i64 e]=.tuple #[v1,.int .i64 e1]/\Le h hh/\gA hh v1 d'/\(d',e1)=D:=
   fun e hh v l r hE=>⟨v,e,_,rfl,l,r,hE.symm⟩
  refine CM.elim (fun p1 p2 p3 p4 p5 p6 p7 p8 p9 g0 i1 i2 i3 i4 i5 i6 i7 qZ=>?_);rw[hWf]at qZ;generalize Sa:A .aD .neq e1 19=u19;have f19:=Sa;rw[aC A]at Sa;generalize Vg:A .aD .eql e1 0=u0;have R8:=Vg;rw[av A]at Vg;rw[Sa,Vg]at iy;cbv;rw[f19];cases u19 with
  |false=>
   have h19:e1=19:=Decidable.not_not.1 (of_decide_eq_false Sa);have hu0:u0=false:=by rw[<-Vg,h19];rfl
   subst hu0;have iy:D=(⟨dT,dW,dH,ma⟩,e1):=iy;cbv;rw[R8];cbv;rw[aj A];refine ay g0 rfl rfl ?_;cbv;refine fB qZ (fun h6 b1 n1 c1 b2 n2 c2 b3 n3 c3 b4 n4 c4 l6 jY=>?_);cbv;exact fin e1 _ _ (wa.trans l6) jY iy
  |true=>
   have Aw:=KR.eq;cbv;refine xF (i5.sl i4) RL KR.eq (fun y1 y2 y3 r7 r9 _=>?_);generalize QX:A .aD .geq (A .nat y2) 60=u60;have f60:=QX;rw[bQ A,hA.nat]at QX;simp only[Int.ofNat_eq_natCast]at QX;have Hh:y2=w.log.length:=r7.len;have TZ:u60=false->y2<60:=fun e=>by rw[e]at QX;have:=of_decide_eq_false QX;omega
   rw[Hh]at QX;rw[QX]at iy;cbv;rw[f60];cases u60 with
   |true=>
    have iy:D=(⟨dT,dW,dH,ma⟩,4):=iy;have zI:A .aD .eql 4 0=false:=by rw[av A];rfl
    cbv;rw[zI];cbv;rw[aj A];refine ay g0 rfl rfl ?_;cbv;refine fB qZ (fun h6 b1 n1 c1 b2 n2 c2 b3 n3 c3 b4 n4 c4 l6 jY=>?_);cbv;exact fin 4 _ _ (wa.trans l6) jY iy
   |false=>
    have aG:=TZ rfl;have hlog:w.log.length<60:=by omega
    cbv;rw[R8];cases u0 with
    |false=>have iy:D=(⟨dT,dW,dH,ma⟩,e1):=iy;cbv;rw[aj A];refine ay g0 rfl rfl ?_;cbv;refine fB qZ (fun h6 b1 n1 c1 b2 n2 c2 b3 n3 c3 b4 n4 c4 l6 jY=>?_);cbv;exact fin e1 _ _ (wa.trans l6) jY iy
    |true=>
     have lz:e1=0:=of_decide_eq_true Vg;have iy:D=(⟨dT.set kt ⟨⟨nm,cols,key,only⟩,T1⟩,dW.set kw ⟨w.s,w.log++[⟨name,C1.op,C1.row⟩],w.marks⟩,dH,ma⟩,0):=iy;subst lz;have Uu:(some (⟨tb,0,none⟩:Addr)).isSome=true/\0<=zt/\zt<(p1:Int):=⟨rfl,Bb.ix (by omega)⟩;cbv;rw[aj A];rw[aj A];refine ay g0 rfl rfl ?_;cbv;refine⟨Uu,?_⟩;cbv;have rT:cJ.R h5 [.string nm,.slice z1 z2 z3,.int .i64 key,.bool only,.slice z4 z5 z6] ⟨⟨nm,cols,key,only⟩,T1⟩:=⟨_,_,_,_,_,_,rfl,r3,r4⟩;refine i3.setAt (by decide) (i:=kt) (by omega) Bb.eq rfl rT (fun h6 k6 t6 o6=>?_);have hctb:c≠tb:=rI;have g6:=k6 _ _ g0 (by simpa using hctb);have i56:=i5.mono (t6 _ (by decide));have r56:=r5.mono (t6 _ (by decide));cbv;refine xF (i56.sl i4) RL KR.eq (fun y1 y2 y3 r7 r9 ag=>?_);have hy3:=r9 rfl;subst hy3;cbv;intro nb7 h7 hnb7 e7;have l7:Le h6 h7:=by rw[e7];exact Le.set hnb7
     have g7:=(congrFun e7 nb7).trans ah;have qx:=bX (s:=fE) g7 (x:=⟨name,C1.op,C1.row⟩) ⟨_,_,_,rfl,r56.mono (l7.t _)⟩;cbv;refine ag _ _ l7 ?_;cbv;refine⟨⟨_,rfl,rfl⟩,?_⟩;cbv;have Hh:=r7.len;refine kJ (r7.mono (l7.t _)) qx (by omega) rfl (by decide) (by simp only at Hh;omega) (fun nb8 c8 h8 hnb8 l8 hc8 o8=>?_);have RD:=l7.trans l8;have i58:=i56.mono (RD.t _);have s8:=o8.sl (n:=y3+1) (by simp only[List.length_append,List.length_singleton];simp only at Hh;omega);cbv;refine i58.FM (by decide) (i:=kw) RL KR.eq rfl (off:=1) (by simp[bO]) (x':=(⟨w.s,w.log++[⟨name,C1.op,C1.row⟩],w.marks⟩,false)) (fun cs aF=>?_) (fun h9 k9 t9 o9=>?_)
     ·obtain⟨y1,y2,y3,y4,y5,y6,rfl,q1,q2,q3⟩:=aF;exact⟨_,_,_,y4,y5,y6,rfl,s8,q2,fun e=>by cases e⟩
     have g8:=RD _ _ g6;have hcwb:c≠wb:=pQ;have g9:=k9 _ _ g8 (by simpa using hcwb);have lh9:Le h h9:=by have h1:Le h h6:=wa.cO (by simpa using qG) k6;exact(h1.trans RD).cO (by simpa using tQ) k9
     have D8:gA h9 (.agg #[.slice (some ⟨tb,0,none⟩) p1 ct,.slice (some ⟨wb,0,none⟩) p2 cw,.slice p3 p4 p5,.slice p6 p7 p8]) ⟨dT.set kt ⟨⟨nm,cols,key,only⟩,T1⟩,dW.set kw ⟨w.s,w.log++[⟨name,C1.op,C1.row⟩],w.marks⟩,dH,ma⟩:=by refine⟨_,_,_,_,_,_,_,_,_,_,_,_,_,rfl,((o6.mono (RD.t _)).mono (t9 _ (by decide))).sl (by rw[List.length_set];exact i2),o9.sl (by rw[List.length_set];exact i4),((i6.mono (t6 _ (by decide))).mono (RD.t _)).mono (t9 _ (by decide)),((i7.mono (t6 _ (by decide))).mono (RD.t _)).mono (t9 _ (by decide)),?_⟩;rw[List.map_set,hWf]
     cbv;rw[aj A];refine ay g9 rfl rfl ?_;cbv;refine fB D8 (fun lz b1 n1 c1 b2 n2 c2 b3 n3 c3 b4 n4 c4 lS jY=>?_);cbv;exact⟨_,0,_,rfl,lh9.trans lS,jY,iy.symm⟩
def ff(d:DB)(s:Int)(name:ByteArray)(r:Row):DB×Int:=ep d ⟨s,name,true⟩ (cU r)
def So(d:DB)(s:Int)(name:ByteArray)(k:cR):DB×Int:=ep d ⟨s,name,true⟩ (Ib k)
def gE(d:DB)(s:Int):DB×Int:=if kE (cm d.aq s)=true then(j0 d s,0)else(d,2)
def Y5(d:DB)(s:Int):DB×List lD×Int:=
 if kE (cm d.aq s)=true then(⟨d.aB,uy d.aq s,bH d.holds s,bH d.waits s⟩,match d.aq[dm (cm d.aq s)]? with
  |some w=>w.log
  |none=>[],0)
 else(d,[],2)
def dropD(d:DB)(name:ByteArray):DB×Int:=
 if kE (aM d.aB name)=true then if decide ((d.aq.length:Int)>0)=true then(d,18)else(⟨d.aB.eraseIdx (dm (aM d.aB name)),d.aq,d.holds,d.waits⟩,0)
 else(d,2)
def rowsD(d:DB)(s:Int)(name:ByteArray):DB×List Row×Int:=
 if decide ((ax d ⟨s,name,false⟩).2≠0)=true then((ax d ⟨s,name,false⟩).1,[],(ax d ⟨s,name,false⟩).2)
 else((ax d ⟨s,name,false⟩).1,match (ax d ⟨s,name,false⟩).1.aB[dm (aM (ax d ⟨s,name,false⟩).1.aB name)]? with
  |some t=>t.rows
  |none=>[],0)
theorem yh(ws:List dr):(Wf ws).map (·.1)=ws:=by unfold Wf;rw[List.map_map];simp[Function.comp_def]
theorem OG{d:DB}{h:ad}{v:Value}(q:gA h v d){n:Nat}(ok:uR n d)(kT:n<2^18)(s:Int)(nN:-2^63<=s/\s<2^63)(name:ByteArray){r:Row}{vb:Option Addr}{vn vc:Nat}(qr:Sl 61 aY h (.slice vb vn vc) r){D:DB×Int}(hD:ff d s name r=D){k:Value->ad->Prop}
 (hk:Rq h D.1 D.2 k):Ct 83 [v,.int .i64 s,.string name,.slice vb vn vc] h k:=by
 obtain⟨A,hA⟩:=Ar.ex;obtain⟨b1,n1,c1,b2,n2,c2,b3,n3,c3,b4,n4,c4,rfl⟩:=q.form;refine af A (ar T83.aw T83.aZ) Tryz.func83 rfl (by kernel_rfl) ?_;cbv;intro rb h1 Cn e1;have l1:Le h h1:=by rw[e1];exact Le.set Cn
 have g1:=(congrFun e1 rb).trans ah;cbv;refine(Ev (q.mono l1) ok kT s nN name g1 (qr.mono (l1.t _))).mono (fun v h2 hR=>?_);obtain⟨v1,e,d',hv,l2,hd,hE⟩:=hR;have hE2:(d',e)=D:=hE.trans hD;subst hE2;obtain⟨b1,n1,c1,b2,n2,c2,b3,n3,c3,b4,n4,c4,hf⟩:=hd.form;rw[hv,hf];have ae:=hk h2 b1 n1 c1 b2 n2 c2 b3 n3 c3 b4 n4 c4 (l1.trans l2) (by rw[<-hf];exact hd);cbv;exact ae
theorem iG.new{d:DB}{h1:ad}{c tb wb ct cw:Nat}{W:List (dr×Bool)}(cs:iG h1 c tb wb ct cw d.aB W d.holds d.waits 0)(hW:W=d.aq.map fun w=>(w,true)):iG h1 c tb wb ct cw d.aB (Wf d.aq) d.holds d.waits 0:=by rw[hW]at cs;exact cs
theorem KZ{d:DB}{h:ad}{v:Value}(q:gA h v d){n:Nat}(ok:uR n d)(kT:n<2^18)(s:Int)(name:ByteArray)(x:Bool){D:DB×Int}(hD:ax d ⟨s,name,x⟩=D){k:Value->ad->Prop}
 (hk:Rq h D.1 D.2 k):Ct 159 [v,.int .i64 s,.string name,.bool x] h k:=by
 obtain⟨A,hA⟩:=Ar.ex;obtain⟨b1,n1,c1,b2,n2,c2,b3,n3,c3,b4,n4,c4,rfl⟩:=q.form;have hH:=ok.holds;have UE:=ok.waits;obtain⟨⟨dT,dW,dH,ma⟩,e⟩:=D;refine af A (ar Xs.aw Xs.aZ) Tryz.func159 rfl (by kernel_rfl) ?_;cbv;refine qB q (fun h1 c tb wb ct cw W l1 hc qG tQ rI pQ hW NO H5 cs=>?_);cbv;refine Cq (cs.new hW) ⟨s,name,x⟩ rI pQ ok.rows (by omega) (by omega) hD (fun h2 k2 Io=>?_);have E2:iG h2 c tb wb ct cw dT (Wf dW) dH ma 0:=Io;clear Io;have l2:Le h h2:=l1.cO (by simp[hc,qG,tQ]) k2;refine E2.elim (fun m1 m2 x3 m3 k3 x4 m4 k4 o g0 _ _ _ _ _ _ _ qZ=>?_);rw[yh]at qZ;cbv;rw[aj A];refine ay g0 rfl rfl ?_;cbv;refine fB qZ (fun h3 b1 n1 c1 b2 n2 c2 b3 n3 c3 b4 n4 c4 l3 jY=>?_);have ae:=hk h3 b1 n1 c1 b2 n2 c2 b3 n3 c3 b4 n4 c4 (l2.trans l3) jY;cbv;exact ae
theorem yJ{d:DB}{h:ad}{v:Value}(q:gA h v d){n:Nat}(ok:uR n d)(kT:n<2^18)(s:Int){D:DB×Int}(hD:gE d s=D){k:Value->ad->Prop}
 (hk:Rq h D.1 D.2 k):Ct 38 [v,.int .i64 s] h k:=by
 obtain⟨A,hA⟩:=Ar.ex;obtain⟨b1,n1,c1,b2,n2,c2,b3,n3,c3,b4,n4,c4,rfl⟩:=q.form;have hH:=ok.holds;have UE:=ok.waits;refine af A (ar T38.aw T38.aZ) Tryz.func38 rfl (by kernel_rfl) ?_;cbv;refine qB q (fun h1 c tb wb ct cw W l1 hc qG tQ rI pQ hW NO H5 cs=>?_);have cs:=cs.new hW;cbv;refine nE cs s (fun h2 z t l2 hz ht=>?_);rw[lH]at ht;have fO:=l1.trans l2;have q2:=q.mono fO;cases t with
 |false=>
  have iy:D=(d,2):=by rw[<-hD];unfold gE;rw[<-ht];rfl
  subst iy;cbv;rw[show A .not false=true by rw[hA.not];rfl];cbv;refine fB q2 (fun h3 b1 n1 c1 b2 n2 c2 b3 n3 c3 b4 n4 c4 l3 jY=>?_);have ae:=hk h3 b1 n1 c1 b2 n2 c2 b3 n3 c3 b4 n4 c4 (fO.trans l3) jY;cbv;exact ae
 |true=>
  have iy:D=(j0 d s,0):=by rw[<-hD];unfold gE;rw[<-ht];rfl
  subst iy;cbv;rw[show A .not true=false by rw[hA.not];rfl];cbv;refine IP (cs.mono l2) rI pQ ok.rows s (by omega) (by omega) (fun h3 k3 Im=>?_);rw[Ah,CJ]at Im;have l3:Le h h3:=fO.cO (by simp[hc,qG,tQ]) k3;refine Im.elim (fun m1 m2 x3 m3 k3 x4 m4 k4 o g0 _ _ _ _ _ _ _ qZ=>?_);rw[yh]at qZ;cbv;rw[aj A];refine ay g0 rfl rfl ?_;cbv;refine fB qZ (fun h4 b1 n1 c1 b2 n2 c2 b3 n3 c3 b4 n4 c4 l4 jY=>?_);have ae:=hk h4 b1 n1 c1 b2 n2 c2 b3 n3 c3 b4 n4 c4 (l3.trans l4) jY;cbv;exact ae
def A3(l:List Jz)(nm:ByteArray):Nat->Option Nat
 |0=>none
 |i+1=>match l[i]? with
  |some m=>if decide (m.name=nm)=true then some i else A3 l nm i
  |none=>A3 l nm i
def rM(d:DB)(s:Int)(nm:ByteArray):DB×Int:=
 if kE (cm d.aq s)=true then match d.aq[dm (cm d.aq s)]? with
  |some w=>match A3 w.marks nm w.marks.length with
   |some k=>(⟨eU d.aB (w.log.drop (eB (((w.marks[k]?).map (·.at_)).getD 0) w.log.length)),d.aq.set (dm (cm d.aq s)) ⟨w.s,w.log.take (eB (((w.marks[k]?).map (·.at_)).getD 0) w.log.length),w.marks.take (k+1)⟩,d.holds,d.waits⟩,0)
   |none=>(d,2)
  |none=>(d,2)
 else(d,2)
theorem _root_.Go.Sx.Kp.O3{h h':ad}{n1 n2 e1 e2:Nat}{c1 c2:Array Value}{f1 f2:Nat×Nat}(k:Kp [n1,n2] h h')(g1:h n1=some (.cells c1 e1 f1))(g2:h n2=some (.cells c2 e2 f2)){tys:List Nat}(h1:e1∉tys)(h2:e2∉tys):cG tys h h':=fun b d e' HT hm hb=>
 k b _ hb (by
  intro jt;simp at jt;rcases jt with rfl|rfl
  ·rw[g1]at hb;cases hb;exact h1 hm
  ·rw[g2]at hb;cases hb;exact h2 hm)
theorem Mk{d:DB}{h:ad}{v:Value}(q:gA h v d){n:Nat}(ok:uR n d)(s:Int)(nm:ByteArray){D:DB×Int}(hD:rM d s nm=D){k:Value->ad->Prop}
 (hk:Rq h D.1 D.2 k):Ct 40 [v,.int .i64 s,.string nm] h k:=by
 obtain⟨A,hA⟩:=Ar.ex;obtain⟨b1,n1,c1,b2,n2,c2,b3,n3,c3,b4,n4,c4,rfl⟩:=q.form;refine af A (ar T40.aw T40.aZ) Tryz.func40 rfl (by kernel_rfl) ?_;cbv;refine qB q (fun h1 c tb wb ct cw W l1 hc qG tQ rI pQ hW NO H5 cs=>?_);have cs:=cs.new hW;cbv;refine nE cs s (fun h2 z t l2 hz ht=>?_);rw[lH]at ht hz;have fO:=l1.trans l2;have q2:=q.mono fO;cases t with
 |false=>
  have iy:D=(d,2):=by rw[<-hD];unfold rM;rw[<-ht];rfl
  subst iy;cbv;rw[show A .not false=true by rw[hA.not];rfl];cbv;refine fB q2 (fun h3 b1 n1 c1 b2 n2 c2 b3 n3 c3 b4 n4 c4 l3 jY=>?_);have ae:=hk h3 b1 n1 c1 b2 n2 c2 b3 n3 c3 b4 n4 c4 (fO.trans l3) jY;cbv;exact ae
 |true=>
  have aG:dm (cm d.aq s)<d.aq.length:=by have:=me ht.symm;simpa[cm]using this
  obtain⟨w,hw⟩:=aE aG;have iy:(match A3 w.marks nm w.marks.length with
   |some k=>((⟨eU d.aB (w.log.drop (eB (((w.marks[k]?).map (·.at_)).getD 0) w.log.length)),d.aq.set (dm (cm d.aq s)) ⟨w.s,w.log.take (eB (((w.marks[k]?).map (·.at_)).getD 0) w.log.length),w.marks.take (k+1)⟩,d.holds,d.waits⟩,0):DB×Int)
   |none=>(d,2))=D:=by rw[<-hD];unfold rM;rw[<-ht,hw];rfl
  clear hD;obtain⟨i,hi⟩:∃i,i=dm (cm d.aq s):=⟨_,rfl⟩;rw[<-hi]at iy hw hz;clear hi aG;have E2:=cs.mono l2;have RL:(Wf d.aq)[i]? =some (w,true):=by unfold Wf;rw[List.getElem?_map,hw];rfl
  refine E2.elim (fun m1 m2 x3 m3 k3 x4 m4 k4 o g0 _ _ f2 f3 f4 _ _ _=>?_);have vj:m2=d.aq.length:=by rw[f3];simp[Wf]
  have jG:=(List.getElem?_eq_some_iff.1 hw).1;have cT:(some (⟨wb,0,none⟩:Addr)).isSome=true/\0<=z/\z<(m2:Int):=⟨rfl,hz.ix (by omega)⟩;obtain⟨ws,wl,wm⟩:=w;have iy:(match A3 wm nm wm.length with
   |some k=>((⟨eU d.aB (wl.drop (eB (((wm[k]?).map (·.at_)).getD 0) wl.length)),d.aq.set i ⟨ws,wl.take (eB (((wm[k]?).map (·.at_)).getD 0) wl.length),wm.take (k+1)⟩,d.holds,d.waits⟩,0):DB×Int)
   |none=>(d,2))=D:=iy
  cbv;rw[show A .not true=false by rw[hA.not];rfl];cbv;rw[aj A];rw[aj A];refine ay g0 rfl rfl ?_;cbv;refine⟨cT,?_⟩;cbv;refine za (f4.sl f3) RL hz.eq (fun y1 y2 y3 qm _=>?_);have qm:Sl 161 fv h2 (.slice y1 y2 y3) wm:=qm;have rZ:=qm.len;have hmb:=qm.bound;have DW:JB (A .bu .sub .i64 (A .nat y2) 1) y2:=(aO.nat y2).pred (by omega);obtain⟨I,bm⟩:∃I:Int->Nat->ad->Prop,∀g m h',I g m h'=∃j:Nat,JB g j/\m=j/\j<=y2/\h'=h2/\A3 wm nm wm.length=A3 wm nm j:=⟨_,fun _ _ _=>rfl⟩;cbv;refine aX.go (G:=Int) (fun g=>[(12,.v (.int .i64 g))]) (fun _=>[(3,[.slice b1 n1 c1,.slice b2 n2 c2,.slice b3 n3 c3,.slice b4 n4 c4]),(6,[.slice none 0 0,.slice none 0 0,.slice none 0 0,.slice none 0 0])]) (fun m g h'=>I g m h') y2 (A .bu .sub .i64 (A .nat y2) 1) ⟨?_,?_,?_⟩ (by rw[bm];exact⟨y2,DW,rfl,Nat.le_refl _,rfl,by rw[rZ]⟩) ?_
  ·cbv
  ·cbv
  ·cbv
  ·intro m g h' hI;rw[bm]at hI;cbv;obtain⟨j,hg,hm,hj,rfl,hF⟩:=hI;rw[hg.ge (A:=A)];cases j with
   |zero=>have hF:A3 wm nm wm.length=none:=hF;rw[hF]at iy;have iy:(d,2)=D:=iy;subst iy;rw[show decide (1<=0)=false from rfl];cbv;refine fB q2 (fun h3 b1 n1 c1 b2 n2 c2 b3 n3 c3 b4 n4 c4 l3 jY=>?_);have ae:=hk h3 b1 n1 c1 b2 n2 c2 b3 n3 c3 b4 n4 c4 (fO.trans l3) jY;cbv;exact ae
   |succ j=>
    have Jn:aO g j:=hg.vf;obtain⟨⟨xn,xa⟩,hx⟩:=aE (xs:=wm) (i:=j) (by omega);have Uv:y1.isSome=true/\0<=g/\g<(y2:Int):=⟨qm.bF (by omega),Jn.ix (by omega)⟩;have Cm:A3 wm nm (j+1)=if decide (xn=nm)=true then some j else A3 wm nm j:=by show(match wm[j]? with|some m=>if decide (m.name=nm)=true then some j else A3 wm nm j|none=>A3 wm nm j)=_;rw[hx]
    rw[Cm]at hF;have eu0:A .jm .eql xn nm=decide (xn=nm):=bL A ..;rw[show decide (1<=j+1)=true from decide_eq_true (by omega)];cbv;refine⟨Uv,?_⟩;cbv;refine qm.fF hx Jn.eq (o:=0) (m:=1) (by decide) (fun cs aF=>?_);have aF:cs=[.string xn,.int .i64 xa]:=aF;subst aF;cbv;rw[eu0];generalize decide (xn=nm)=u at *;cases u with
    |false=>
     have hF:A3 wm nm wm.length=A3 wm nm j:=hF;have hn:=Jn.pred (A:=A) (by omega);have dc:I (A .bu .sub .i64 g 1) j h':=by rw[bm];exact⟨j,hn,rfl,by omega,rfl,hF⟩
     cbv;refine⟨j,_,by omega,⟨?_,?_,?_⟩,dc⟩
     ·cbv
     ·cbv
     ·cbv
    |true=>
     have hF:A3 wm nm wm.length=some j:=hF;rw[hF]at iy;have iy:((⟨eU d.aB (wl.drop (eB (((wm[j]?).map (·.at_)).getD 0) wl.length)),d.aq.set i ⟨ws,wl.take (eB (((wm[j]?).map (·.at_)).getD 0) wl.length),wm.take (j+1)⟩,d.holds,d.waits⟩,0):DB×Int)=D:=iy;rw[hx]at iy;have iy:((⟨eU d.aB (wl.drop (eB xa wl.length)),d.aq.set i ⟨ws,wl.take (eB xa wl.length),wm.take (j+1)⟩,d.holds,d.waits⟩,0):DB×Int)=D:=iy;have EY:=Jn.succ (A:=A) (by omega);have RM:=qm.BU (A:=A) (i:=j+1) (by omega);have jY:=dI (A:=A) EY;have hck6:0<=A .bu .add .i64 g 1/\A .bu .add .i64 g 1<=(y3:Int):=by have:=EY.eq;omega
     cbv;refine⟨Uv,?_⟩;cbv;refine qm.fF hx Jn.eq (o:=1) (m:=1) (by decide) (fun cs aF=>?_);have aF:cs=[.string xn,.int .i64 xa]:=aF;subst aF;cbv;refine Fo E2 rI pQ ok.rows hz RL xa (fun h3 k3' Vj=>?_);have Im:iG h3 c tb wb ct cw (eU d.aB (wl.drop (eB xa wl.length))) ((Wf d.aq).set i (⟨ws,wl.take (eB xa wl.length),wm⟩,false)) d.holds d.waits 0:=Vj;clear Vj;refine Im.elim (fun O0 m2' x3 m3 k3 x4 m4 k4 o Qw ho F1 F2 F3 F4 F6 F7 _=>?_);have hm2':m2'=d.aq.length:=by rw[F3];simp[Wf]
     have hck':(some (⟨wb,0,none⟩:Addr)).isSome=true/\0<=z/\z<(m2':Int):=⟨rfl,hz.ix (by omega)⟩;cbv;rw[aj A];rw[aj A];refine ay Qw rfl rfl ?_;cbv;refine⟨hck6,?_⟩;cbv;refine⟨hck',?_⟩;cbv;have DZ:Sl 161 fv h' (.slice (A .cut y1 0 (A .nat y3) 2) (j+1) y3) (wm.take (j+1)):=RM;have htm3:Sl 161 fv h3 (.slice (A .cut y1 0 (A .nat y3) 2) (j+1) y3) (wm.take (j+1)):=by obtain⟨a1,NH,-⟩:=f2.out;obtain⟨a2,YL,-⟩:=f4.out;exact DZ.mono (k3'.O3 NH YL (by decide) (by decide))
     have hwW3:((Wf d.aq).set i (⟨ws,wl.take (eB xa wl.length),wm⟩,false))[i]? =some (⟨ws,wl.take (eB xa wl.length),wm⟩,false):=by rw[List.getElem?_set_self (by simpa[Wf]using jG)]
     rw[jY];refine F4.FM (by decide) hwW3 hz.eq rfl (off:=2) (by simp[bO]) (x':=(⟨ws,wl.take (eB xa wl.length),wm.take (j+1)⟩,false)) (fun cs aF=>?_) (fun h4 k4' t4 o4=>?_)
     ·obtain⟨x1,y1',z1,x2,y2',z2,rfl,j1,j2,j3⟩:=aF;exact⟨_,_,_,_,_,_,rfl,j1,htm3,fun hf=>by cases hf⟩
     have g04:=k4' _ _ Qw (by simpa using pQ);have D8:gA h4 (.agg #[.slice (some ⟨tb,0,none⟩) O0 ct,.slice (some ⟨wb,0,none⟩) m2' cw,.slice x3 m3 k3,.slice x4 m4 k4]) ⟨eU d.aB (wl.drop (eB xa wl.length)),d.aq.set i ⟨ws,wl.take (eB xa wl.length),wm.take (j+1)⟩,d.holds,d.waits⟩:=by refine⟨_,_,_,_,_,_,_,_,_,_,_,_,_,rfl,(F2.mono (t4 _ (by decide))).sl F1,o4.sl (by rw[List.length_set];exact F3),F6.mono (t4 _ (by decide)),F7.mono (t4 _ (by decide)),?_⟩;simp only[List.map_set,yh,List.set_set]
     have l4:Le h h4:=fO.cO (bs:=[tb,wb]) (by simp[qG,tQ]) (k3'.trans (k4'.sub (by simp)));subst iy;cbv;rw[aj A];refine ay g04 rfl rfl ?_;cbv;refine fB D8 (fun h5 b1 n1 c1 b2 n2 c2 b3 n3 c3 b4 n4 c4 l5 jY=>?_);have ae:=hk h5 b1 n1 c1 b2 n2 c2 b3 n3 c3 b4 n4 c4 (l4.trans l5) jY;cbv;exact ae
end Go.S
