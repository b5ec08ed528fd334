import Derived.Test.YtifjeceolckgaaaGreatGA
set_option linter.all false
set_option maxRecDepth 100000
set_option maxHeartbeats 8000000
namespace Go.S
open Go.Sx Go.Proofs
variable {d:DB}{D:DB×Int}{n rb:Nat}{r:Row}{k:Value->ad->Prop}{h:ad}
def dM(d:DB)(hd:cg)(act:cW->cW×dV×Int):DB×Int:=
 if decide ((aL d hd).2≠0)=true then aL d hd
 else match (aL d hd).1.az[di (aQ (aL d hd).1.az hd.table)]?,(aL d hd).1.aq[di (bQ (aL d hd).1.aq hd.s)]? with
  |some t,some w=>
   if decide ((act t).2.2≠19)&&decide ((w.log.length:Int)>=60)then((aL d hd).1,4)
   else if decide ((act t).2.2=0)=true then
    (⟨(aL d hd).1.az.set (di (aQ (aL d hd).1.az hd.table)) (act t).1,(aL d hd).1.aq.set (di (bQ (aL d hd).1.aq hd.s)) ⟨w.s,w.log++[⟨hd.table,(act t).2.1.op,(act t).2.1.row⟩],w.marks⟩,(aL d hd).1.holds,(aL d hd).1.waits⟩,0)
   else((aL d hd).1,(act t).2.2)
  |_,_=>aL d hd
theorem ZM{v:Value}(q:ik h v d)(ok:ue n d)(jm:n<2^18)(s:Int)(jx:-2^63<=s/\s<2^63)(name:ByteArray){vb:Option Addr}{vn vc:Nat}(gr:h rb=some (.cells #[.slice vb vn vc] 84 (0,0)))(qr:Sl 86 bq h (.slice vb vn vc) r):
 Ct 151 [v,.int .i64 s,.string name,.func (.func 150) #[] #[.pointer (some ⟨rb,0,none⟩)]] h (λv' h'=>∃v1 e Y,v'=.tuple #[v1,.int .i64 e]/\Le h h'/\ik h' v1 Y/\(Y,e)=dM d ⟨s,name,true⟩ (dK r)):=by
 obtain⟨I,n1,O,J,n2,R,L,n3,S,M,n4,V,rfl⟩:=q.form;have hH:=ok.holds;have aY:=ok.waits;generalize m:dM d ⟨s,name,true⟩ (dK r)=D;have K:=xZ ok ⟨s,name,true⟩ jx;have Q:=HW ok (hd:=⟨s,name,true⟩) jx;unfold dM at m;obtain⟨D0,N⟩:∃D0,aL d ⟨s,name,true⟩=D0:=⟨_,rfl⟩;rw[N]at m K Q;obtain⟨⟨T,a,H,b⟩,e⟩:=D0;refine mQx lZq Tryz.func151 λA hA=>?_;cbv;refine pS q (λg c z wb ct cw W l1 hc wB Ai wF tZ hW aV Uw cs=>?_);have cs:lA g c z wb ct cw d.az (Wf d.aq) d.holds d.waits 0:=by rw[hW]at cs;exact cs
 cbv;refine MO cs ⟨s,name,true⟩ wF tZ ok.rows (by omega) (by omega) N (λZ k2 QM=>?_);have Bs:lA Z c z wb ct cw T (Wf a) H b 0:=QM;clear QM;have m:(if decide (e≠0)=true then((⟨T,a,H,b⟩,e):DB×Int)
  else match T[di (aQ T name)]?,a[di (bQ a s)]? with
  |some t,some w=>
   if decide (((dK r) t).2.2≠19)&&decide ((w.log.length:Int)>=60)then(⟨T,a,H,b⟩,4)
   else if decide (((dK r) t).2.2=0)=true then
    (⟨T.set (di (aQ T name)) ((dK r) t).1,a.set (di (bQ a s)) ⟨w.s,w.log++[⟨name,((dK r) t).2.1.op,((dK r) t).2.1.row⟩],w.marks⟩,H,b⟩,0)
   else(⟨T,a,H,b⟩,((dK r) t).2.2)
  |_,_=>(⟨T,a,H,b⟩,e))=D:=m
 have Q:e=0->jG (aQ T name)=true/\jG (bQ a s)=true:=Q;have az:mV T:=K.ok.rows;clear K;have l2:Le h Z:=l1.dJ (by simp[hc,wB,Ai]) k2;have Ue:(Wf a).map (·.1)=a:=by unfold Wf;rw[mXS];simp[Function.comp_def]
 generalize eu:A .aI .neq e 0=u;have fu:=eu;rw[aC A]at eu;rw[eu]at m;cbv;rw[fu];cases u with
 |true=>
  have U:D=(⟨T,a,H,b⟩,e):=by rw[<-m];rfl
  refine Bs.elim (λm1 m2 x3 m3 k3 x4 m4 k4 o k _ _ _ _ _ _ _ p=>?_);rw[Ue]at p;cbv;rw[ai A];refine mQw k ?_;cbv;refine fi p (λh3 I n1 O J n2 R L n3 S M n4 V l3 j=>?_);cbv;exact⟨_,e,_,rfl,l2.trans l3,j,U.symm⟩
 |false=>
  have lK:e=0:=mXc.1 (mQO eu);subst lK;obtain⟨JC,MW⟩:=Q rfl;have G:=lr JC;have YT:=lr MW;simp only[aQ,bQ,mQN]at G YT;obtain⟨t,ht⟩:=aE (xs:=T) (i:=di (aQ T name)) G;obtain⟨w,hw⟩:=aE (xs:=a) (i:=di (bQ a s)) YT;cbv;refine(vu Bs name).mono (λv h3 hR=>?_);obtain⟨l3,zt,tt,rfl,Ub⟩:=hR;obtain⟨E,-⟩:=Ub.at_;have E:aS zt (di (aQ T name)):=E;cbv;refine(Ay (Bs.mono l3) s).mono (λv h4 hR=>?_);obtain⟨l4,zw,tw,rfl,Ua⟩:=hR;obtain⟨y,-⟩:=Ua.at_;have y:aS zw (di (bQ a s)):=by have g:aS zw (di (dQ (Wf a) s)):=y;rw[qO]at g;exact g
  have bb:=(mQB.1 ht).1;have ba:=(mQB.1 hw).1;generalize aK:di (aQ T name)=kt at *;generalize aH:di (bQ a s)=kw at *;have AY:=l3.trans l4;have Ps:=l2.trans AY;have QL:=Bs.mono AY;refine QL.elim (λm1 m2 x3 m3 k3 x4 m4 k4 o f0 f1 f2 f3 f4 f5 f6 f7 _=>?_);have sH:m2=a.length:=by rw[f4];simp[Wf]
  have KD:(Wf a)[kw]? =some (w,true):=by unfold Wf;rw[mXe,hw];rfl
  have MU:(some (⟨wb,0,none⟩:Addr)).isSome=true/\0<=zw/\zw<(m2:Int):=⟨rfl,y.ix (by omega)⟩;have Ii:(some (⟨z,0,none⟩:Addr)).isSome=true/\0<=zt/\zt<(m1:Int):=⟨rfl,E.ix (by omega)⟩;cbv;rw[ai A];rw[ai A];refine mQw f0 ?_;cbv;refine⟨MU,?_⟩;cbv;rw[ai A];rw[ai A];refine mQw f0 ?_;cbv;refine⟨Ii,?_⟩;cbv;obtain⟨⟨nm,cols,key,only⟩,rows⟩:=t;refine xU (f3.sl f2) ht E.eq (λy1 y2 y3 y4 y5 y6 r1 r2=>?_);have mF:y5<=2^37:=by have g:=az _ (mQz ht);have Z:=r2.len;have g:rows.length<=2^36:=g;have Z:y5=rows.length:=Z;omega
  cbv;refine aZr (nm:=nm) (key:=key) (only:=only) r1 r2 (Ps _ _ gr) (qr.mono (Ps.t _)) mF (λh5 z1 z2 z3 z4 z5 z6 z7 z8 z9 f T1 C l5 r3 r4 r5 r6=>?_);have xS:=Ps.trans l5;have Lk:=QL.mono l5;have U:D=(if decide (f≠19)&&decide ((w.log.length:Int)>=60)then(⟨T,a,H,b⟩,4)
   else if decide (f=0)=true then(⟨T.set kt ⟨⟨nm,cols,key,only⟩,T1⟩,a.set kw ⟨w.s,w.log++[⟨name,C.op,C.row⟩],w.marks⟩,H,b⟩,0)else(⟨T,a,H,b⟩,f)):=by
   rw[<-m];simp only[mZe,if_false];rw[ht,hw];simp only;rw[<-r6]
  have fin:∀(e:Int) (hh:ad) (v:Value),Le h hh->ik hh v ⟨T,a,H,b⟩->D=(⟨T,a,H,b⟩,e)->∃v1 f Y,Value.tuple #[v,.int .i64 e]=.tuple #[v1,.int .i64 f]/\Le h hh/\ik hh v1 Y/\(Y,f)=D:=
   λe hh v l r hE=>⟨v,e,_,rfl,l,r,hE.symm⟩
  refine Lk.elim (λp1 p2 p3 p4 p5 p6 p7 p8 p9 k i1 i2 i3 i4 i5 i6 i7 p=>?_);rw[Ue]at p;generalize JG:A .aI .neq f 19=an;have ar:=JG;rw[aC A]at JG;generalize F:A .aI .eql f 0=u0;have um:=F;rw[aA A]at F;rw[JG,F]at U;cbv;rw[ar];cases an with
  |false=>
   have aj:f=19:=mXc.1 (mQO JG);have Wb:u0=false:=by rw[<-F,aj];rfl
   subst Wb;have U:D=(⟨T,a,H,b⟩,f):=U;cbv;rw[um];cbv;rw[ai A];refine mQw k ?_;cbv;refine fi p (λh6 I n1 O J n2 R L n3 S M n4 V l6 j=>?_);cbv;exact fin f _ _ (xS.trans l6) j U
  |true=>
   have Ia:=y.eq;cbv;refine qj (i5.sl i4) KD y.eq (λy1 y2 y3 r7 r9 _=>?_);generalize B:A .aI .geq (A .nat y2) 60=X;have au:=B;rw[cf A,hA.nat]at B;simp only[mQV]at B;have tD:y2=w.log.length:=r7.len;have HY:X=false->y2<60:=λe=>by rw[e]at B;have:=mQO B;omega
   rw[tD]at B;rw[B]at U;cbv;rw[au];cases X with
   |true=>
    have U:D=(⟨T,a,H,b⟩,4):=U;have Im:A .aI .eql 4 0=false:=by rw[aA A];rfl
    cbv;rw[Im];cbv;rw[ai A];refine mQw k ?_;cbv;refine fi p (λh6 I n1 O J n2 R L n3 S M n4 V l6 j=>?_);cbv;exact fin 4 _ _ (xS.trans l6) j U
   |false=>
    have aP:=HY rfl;have pN:w.log.length<60:=by omega
    cbv;rw[um];cases u0 with
    |false=>have U:D=(⟨T,a,H,b⟩,f):=U;cbv;rw[ai A];refine mQw k ?_;cbv;refine fi p (λh6 I n1 O J n2 R L n3 S M n4 V l6 j=>?_);cbv;exact fin f _ _ (xS.trans l6) j U
    |true=>
     have fL:f=0:=mQL F;have U:D=(⟨T.set kt ⟨⟨nm,cols,key,only⟩,T1⟩,a.set kw ⟨w.s,w.log++[⟨name,C.op,C.row⟩],w.marks⟩,H,b⟩,0):=U;subst fL;have Ih:(some (⟨z,0,none⟩:Addr)).isSome=true/\0<=zt/\zt<(p1:Int):=⟨rfl,E.ix (by omega)⟩;cbv;rw[ai A];rw[ai A];refine mQw k ?_;cbv;refine⟨Ih,?_⟩;cbv;have rT:ef.R h5 [.string nm,.slice z1 z2 z3,.int .i64 key,.bool only,.slice z4 z5 z6] ⟨⟨nm,cols,key,only⟩,T1⟩:=⟨_,_,_,_,_,_,rfl,r3,r4⟩;refine i3.setAt (by decide) (i:=kt) (by omega) E.eq rfl rT (λh6 k6 t6 o6=>?_);have TP:c≠z:=wF;have g6:=k6 _ _ k (by simpa using TP);have ab:=i5.mono (t6 _ (by decide));have al:=r5.mono (t6 _ (by decide));cbv;refine qj (ab.sl i4) KD y.eq (λy1 y2 y3 r7 r9 ag=>?_);have ak:=r9 rfl;subst ak;cbv;intro Yq h7 TA e7;have l7:Le h6 h7:=by rw[e7];exact Le.set TA
     have g7:=(congrFun e7 Yq).trans ae;have qx:=bA (s:=dI) g7 (x:=⟨name,C.op,C.row⟩) ⟨_,_,_,rfl,al.mono (l7.t _)⟩;cbv;refine ag _ _ l7 ?_;cbv;refine⟨⟨_,rfl,rfl⟩,?_⟩;cbv;have tD:=r7.len;refine lz (r7.mono (l7.t _)) qx (by omega) rfl (by decide) (by simp only at tD;omega) (λaW c8 h8 aZ l8 bc o8=>?_);have P:=l7.trans l8;have aw:=ab.mono (P.t _);have s8:=o8.sl (n:=y3+1) (by simp only[mQy,mQG];simp only at tD;omega);cbv;refine aw.LS (by decide) (i:=kw) KD y.eq rfl (off:=1) (by simp[cX]) (x':=(⟨w.s,w.log++[⟨name,C.op,C.row⟩],w.marks⟩,false)) (λcs ay=>?_) (λh9 k9 t9 o9=>?_)
     .obtain⟨y1,y2,y3,y4,y5,y6,rfl,q1,q2,q3⟩:=ay;exact⟨_,_,_,y4,y5,y6,rfl,s8,q2,λe=>by cases e⟩
     have g8:=P _ _ g6;have TO:c≠wb:=tZ;have g9:=k9 _ _ g8 (by simpa using TO);have af:Le h h9:=by have g:Le h h6:=xS.dJ (by simpa using wB) k6;exact(g.trans P).dJ (by simpa using Ai) k9
     have JB:ik h9 (.agg #[.slice (some ⟨z,0,none⟩) p1 ct,.slice (some ⟨wb,0,none⟩) p2 cw,.slice p3 p4 p5,.slice p6 p7 p8]) ⟨T.set kt ⟨⟨nm,cols,key,only⟩,T1⟩,a.set kw ⟨w.s,w.log++[⟨name,C.op,C.row⟩],w.marks⟩,H,b⟩:=by refine⟨_,_,_,_,_,_,_,_,_,_,_,_,_,rfl,((o6.mono (P.t _)).mono (t9 _ (by decide))).sl (by rw[mXv];exact i2),o9.sl (by rw[mXv];exact i4),((i6.mono (t6 _ (by decide))).mono (P.t _)).mono (t9 _ (by decide)),((i7.mono (t6 _ (by decide))).mono (P.t _)).mono (t9 _ (by decide)),?_⟩;rw[mZc,Ue]
     cbv;rw[ai A];refine mQw g9 ?_;cbv;refine fi JB (λfL I n1 O J n2 R L n3 S M n4 V fU j=>?_);cbv;exact⟨_,0,_,rfl,af.trans fU,j,U.symm⟩
theorem ZL{v:Value}(q:ik h v d)(ok:ue n d)(jm:n<2^18)(s:Int)(jx:-2^63<=s/\s<2^63)(name:ByteArray){kv:cO}(gr:h rb=some (.cells #[.int .i64 kv.k,.int .i64 kv.n,.string kv.s] 86 (0,0))):
 Ct 151 [v,.int .i64 s,.string name,.func (.func 236) #[] #[.pointer (some ⟨rb,0,none⟩)]] h (λv' h'=>∃v1 e Y,v'=.tuple #[v1,.int .i64 e]/\Le h h'/\ik h' v1 Y/\(Y,e)=dM d ⟨s,name,true⟩ (dR kv)):=by
 obtain⟨I,n1,O,J,n2,R,L,n3,S,M,n4,V,rfl⟩:=q.form;have hH:=ok.holds;have aY:=ok.waits;generalize m:dM d ⟨s,name,true⟩ (dR kv)=D;have K:=xZ ok ⟨s,name,true⟩ jx;have Q:=HW ok (hd:=⟨s,name,true⟩) jx;unfold dM at m;obtain⟨D0,N⟩:∃D0,aL d ⟨s,name,true⟩=D0:=⟨_,rfl⟩;rw[N]at m K Q;obtain⟨⟨T,a,H,b⟩,e⟩:=D0;refine mQx lZq Tryz.func151 λA hA=>?_;cbv;refine pS q (λg c z wb ct cw W l1 hc wB Ai wF tZ hW aV Uw cs=>?_);have cs:lA g c z wb ct cw d.az (Wf d.aq) d.holds d.waits 0:=by rw[hW]at cs;exact cs
 cbv;refine MO cs ⟨s,name,true⟩ wF tZ ok.rows (by omega) (by omega) N (λZ k2 QM=>?_);have Bs:lA Z c z wb ct cw T (Wf a) H b 0:=QM;clear QM;have m:(if decide (e≠0)=true then((⟨T,a,H,b⟩,e):DB×Int)
  else match T[di (aQ T name)]?,a[di (bQ a s)]? with
  |some t,some w=>
   if decide (((dR kv) t).2.2≠19)&&decide ((w.log.length:Int)>=60)then(⟨T,a,H,b⟩,4)
   else if decide (((dR kv) t).2.2=0)=true then
    (⟨T.set (di (aQ T name)) ((dR kv) t).1,a.set (di (bQ a s)) ⟨w.s,w.log++[⟨name,((dR kv) t).2.1.op,((dR kv) t).2.1.row⟩],w.marks⟩,H,b⟩,0)
   else(⟨T,a,H,b⟩,((dR kv) t).2.2)
  |_,_=>(⟨T,a,H,b⟩,e))=D:=m
 have Q:e=0->jG (aQ T name)=true/\jG (bQ a s)=true:=Q;have az:mV T:=K.ok.rows;clear K;have l2:Le h Z:=l1.dJ (by simp[hc,wB,Ai]) k2;have Ue:(Wf a).map (·.1)=a:=by unfold Wf;rw[mXS];simp[Function.comp_def]
 generalize eu:A .aI .neq e 0=u;have fu:=eu;rw[aC A]at eu;rw[eu]at m;cbv;rw[fu];cases u with
 |true=>
  have U:D=(⟨T,a,H,b⟩,e):=by rw[<-m];rfl
  refine Bs.elim (λm1 m2 x3 m3 k3 x4 m4 k4 o k _ _ _ _ _ _ _ p=>?_);rw[Ue]at p;cbv;rw[ai A];refine mQw k ?_;cbv;refine fi p (λh3 I n1 O J n2 R L n3 S M n4 V l3 j=>?_);cbv;exact⟨_,e,_,rfl,l2.trans l3,j,U.symm⟩
 |false=>
  have lK:e=0:=mXc.1 (mQO eu);subst lK;obtain⟨JC,MW⟩:=Q rfl;have G:=lr JC;have YT:=lr MW;simp only[aQ,bQ,mQN]at G YT;obtain⟨t,ht⟩:=aE (xs:=T) (i:=di (aQ T name)) G;obtain⟨w,hw⟩:=aE (xs:=a) (i:=di (bQ a s)) YT;cbv;refine(vu Bs name).mono (λv h3 hR=>?_);obtain⟨l3,zt,tt,rfl,Ub⟩:=hR;obtain⟨E,-⟩:=Ub.at_;have E:aS zt (di (aQ T name)):=E;cbv;refine(Ay (Bs.mono l3) s).mono (λv h4 hR=>?_);obtain⟨l4,zw,tw,rfl,Ua⟩:=hR;obtain⟨y,-⟩:=Ua.at_;have y:aS zw (di (bQ a s)):=by have g:aS zw (di (dQ (Wf a) s)):=y;rw[qO]at g;exact g
  have bb:=(mQB.1 ht).1;have ba:=(mQB.1 hw).1;generalize aK:di (aQ T name)=kt at *;generalize aH:di (bQ a s)=kw at *;have AY:=l3.trans l4;have Ps:=l2.trans AY;have QL:=Bs.mono AY;refine QL.elim (λm1 m2 x3 m3 k3 x4 m4 k4 o f0 f1 f2 f3 f4 f5 f6 f7 _=>?_);have sH:m2=a.length:=by rw[f4];simp[Wf]
  have KD:(Wf a)[kw]? =some (w,true):=by unfold Wf;rw[mXe,hw];rfl
  have MU:(some (⟨wb,0,none⟩:Addr)).isSome=true/\0<=zw/\zw<(m2:Int):=⟨rfl,y.ix (by omega)⟩;have Ii:(some (⟨z,0,none⟩:Addr)).isSome=true/\0<=zt/\zt<(m1:Int):=⟨rfl,E.ix (by omega)⟩;cbv;rw[ai A];rw[ai A];refine mQw f0 ?_;cbv;refine⟨MU,?_⟩;cbv;rw[ai A];rw[ai A];refine mQw f0 ?_;cbv;refine⟨Ii,?_⟩;cbv;obtain⟨⟨nm,cols,key,only⟩,rows⟩:=t;refine xU (f3.sl f2) ht E.eq (λy1 y2 y3 y4 y5 y6 r1 r2=>?_);have mF:y5<=2^37:=by have g:=az _ (mQz ht);have Z:=r2.len;have g:rows.length<=2^36:=g;have Z:y5=rows.length:=Z;omega
  cbv;refine UY (nm:=nm) (key:=key) (only:=only) r1 r2 (kv:=kv) (Ps _ _ gr) mF (λh5 z1 z2 z3 z4 z5 z6 z7 z8 z9 f T1 C l5 r3 r4 r5 r6=>?_);have xS:=Ps.trans l5;have Lk:=QL.mono l5;have U:D=(if decide (f≠19)&&decide ((w.log.length:Int)>=60)then(⟨T,a,H,b⟩,4)
   else if decide (f=0)=true then(⟨T.set kt ⟨⟨nm,cols,key,only⟩,T1⟩,a.set kw ⟨w.s,w.log++[⟨name,C.op,C.row⟩],w.marks⟩,H,b⟩,0)else(⟨T,a,H,b⟩,f)):=by
   rw[<-m];simp only[mZe,if_false];rw[ht,hw];simp only;rw[<-r6]
  have fin:∀(e:Int) (hh:ad) (v:Value),Le h hh->ik hh v ⟨T,a,H,b⟩->D=(⟨T,a,H,b⟩,e)->∃v1 f Y,Value.tuple #[v,.int .i64 e]=.tuple #[v1,.int .i64 f]/\Le h hh/\ik hh v1 Y/\(Y,f)=D:=
   λe hh v l r hE=>⟨v,e,_,rfl,l,r,hE.symm⟩
  refine Lk.elim (λp1 p2 p3 p4 p5 p6 p7 p8 p9 k i1 i2 i3 i4 i5 i6 i7 p=>?_);rw[Ue]at p;generalize JG:A .aI .neq f 19=an;have ar:=JG;rw[aC A]at JG;generalize F:A .aI .eql f 0=u0;have um:=F;rw[aA A]at F;rw[JG,F]at U;cbv;rw[ar];cases an with
  |false=>
   have aj:f=19:=mXc.1 (mQO JG);have Wb:u0=false:=by rw[<-F,aj];rfl
   subst Wb;have U:D=(⟨T,a,H,b⟩,f):=U;cbv;rw[um];cbv;rw[ai A];refine mQw k ?_;cbv;refine fi p (λh6 I n1 O J n2 R L n3 S M n4 V l6 j=>?_);cbv;exact fin f _ _ (xS.trans l6) j U
  |true=>
   have Ia:=y.eq;cbv;refine qj (i5.sl i4) KD y.eq (λy1 y2 y3 r7 r9 _=>?_);generalize B:A .aI .geq (A .nat y2) 60=X;have au:=B;rw[cf A,hA.nat]at B;simp only[mQV]at B;have tD:y2=w.log.length:=r7.len;have HY:X=false->y2<60:=λe=>by rw[e]at B;have:=mQO B;omega
   rw[tD]at B;rw[B]at U;cbv;rw[au];cases X with
   |true=>
    have U:D=(⟨T,a,H,b⟩,4):=U;have Im:A .aI .eql 4 0=false:=by rw[aA A];rfl
    cbv;rw[Im];cbv;rw[ai A];refine mQw k ?_;cbv;refine fi p (λh6 I n1 O J n2 R L n3 S M n4 V l6 j=>?_);cbv;exact fin 4 _ _ (xS.trans l6) j U
   |false=>
    have aP:=HY rfl;have pN:w.log.length<60:=by omega
    cbv;rw[um];cases u0 with
    |false=>have U:D=(⟨T,a,H,b⟩,f):=U;cbv;rw[ai A];refine mQw k ?_;cbv;refine fi p (λh6 I n1 O J n2 R L n3 S M n4 V l6 j=>?_);cbv;exact fin f _ _ (xS.trans l6) j U
    |true=>
     have fL:f=0:=mQL F;have U:D=(⟨T.set kt ⟨⟨nm,cols,key,only⟩,T1⟩,a.set kw ⟨w.s,w.log++[⟨name,C.op,C.row⟩],w.marks⟩,H,b⟩,0):=U;subst fL;have Ih:(some (⟨z,0,none⟩:Addr)).isSome=true/\0<=zt/\zt<(p1:Int):=⟨rfl,E.ix (by omega)⟩;cbv;rw[ai A];rw[ai A];refine mQw k ?_;cbv;refine⟨Ih,?_⟩;cbv;have rT:ef.R h5 [.string nm,.slice z1 z2 z3,.int .i64 key,.bool only,.slice z4 z5 z6] ⟨⟨nm,cols,key,only⟩,T1⟩:=⟨_,_,_,_,_,_,rfl,r3,r4⟩;refine i3.setAt (by decide) (i:=kt) (by omega) E.eq rfl rT (λh6 k6 t6 o6=>?_);have TP:c≠z:=wF;have g6:=k6 _ _ k (by simpa using TP);have ab:=i5.mono (t6 _ (by decide));have al:=r5.mono (t6 _ (by decide));cbv;refine qj (ab.sl i4) KD y.eq (λy1 y2 y3 r7 r9 ag=>?_);have ak:=r9 rfl;subst ak;cbv;intro Yq h7 TA e7;have l7:Le h6 h7:=by rw[e7];exact Le.set TA
     have g7:=(congrFun e7 Yq).trans ae;have qx:=bA (s:=dI) g7 (x:=⟨name,C.op,C.row⟩) ⟨_,_,_,rfl,al.mono (l7.t _)⟩;cbv;refine ag _ _ l7 ?_;cbv;refine⟨⟨_,rfl,rfl⟩,?_⟩;cbv;have tD:=r7.len;refine lz (r7.mono (l7.t _)) qx (by omega) rfl (by decide) (by simp only at tD;omega) (λaW c8 h8 aZ l8 bc o8=>?_);have P:=l7.trans l8;have aw:=ab.mono (P.t _);have s8:=o8.sl (n:=y3+1) (by simp only[mQy,mQG];simp only at tD;omega);cbv;refine aw.LS (by decide) (i:=kw) KD y.eq rfl (off:=1) (by simp[cX]) (x':=(⟨w.s,w.log++[⟨name,C.op,C.row⟩],w.marks⟩,false)) (λcs ay=>?_) (λh9 k9 t9 o9=>?_)
     .obtain⟨y1,y2,y3,y4,y5,y6,rfl,q1,q2,q3⟩:=ay;exact⟨_,_,_,y4,y5,y6,rfl,s8,q2,λe=>by cases e⟩
     have g8:=P _ _ g6;have TO:c≠wb:=tZ;have g9:=k9 _ _ g8 (by simpa using TO);have af:Le h h9:=by have g:Le h h6:=xS.dJ (by simpa using wB) k6;exact(g.trans P).dJ (by simpa using Ai) k9
     have JB:ik h9 (.agg #[.slice (some ⟨z,0,none⟩) p1 ct,.slice (some ⟨wb,0,none⟩) p2 cw,.slice p3 p4 p5,.slice p6 p7 p8]) ⟨T.set kt ⟨⟨nm,cols,key,only⟩,T1⟩,a.set kw ⟨w.s,w.log++[⟨name,C.op,C.row⟩],w.marks⟩,H,b⟩:=by refine⟨_,_,_,_,_,_,_,_,_,_,_,_,_,rfl,((o6.mono (P.t _)).mono (t9 _ (by decide))).sl (by rw[mXv];exact i2),o9.sl (by rw[mXv];exact i4),((i6.mono (t6 _ (by decide))).mono (P.t _)).mono (t9 _ (by decide)),((i7.mono (t6 _ (by decide))).mono (P.t _)).mono (t9 _ (by decide)),?_⟩;rw[mZc,Ue]
     cbv;rw[ai A];refine mQw g9 ?_;cbv;refine fi JB (λfL I n1 O J n2 R L n3 S M n4 V fU j=>?_);cbv;exact⟨_,0,_,rfl,af.trans fU,j,U.symm⟩
def fF(d:DB)(s:Int)(name:ByteArray)(r:Row):DB×Int:=dM d ⟨s,name,true⟩ (dK r)
def iz(d:DB)(s:Int)(name:ByteArray)(k:cO):DB×Int:=dM d ⟨s,name,true⟩ (dR k)
def dC(d:DB)(s:Int):DB×Int:=if jG (bQ d.aq s)=true then(kh d s,0)else(d,2)
theorem IY(w:List fJ):(Wf w).map (·.1)=w:=by unfold Wf;rw[mXS];simp[Function.comp_def]
theorem aZs{v:Value}(q:ik h v d)(R:ue n d)(O:n<2^18)(s:Int)(P:-2^63<=s/\s<2^63)(name:ByteArray){z:Option Addr}{C B:Nat}(S:Sl 86 bq h (.slice z C B) r)(J:fF d s name r=D)
 (M:bJg h D.1 D.2 k):Ct 68 [v,.int .i64 s,.string name,.slice z C B] h k:=by
 obtain⟨b,u,i,c,w,j,f,x,m,g,y,o,rfl⟩:=q.form;refine mQx lKT Tryz.func68 λA U=>?_;cbv;intro T H K p;have l:Le h H:=by rw[p];exact Le.set K
 have G:=(congrFun p T).trans ae;cbv;refine(ZM (q.mono l) R O s P name G (S.mono (l.t _))).mono (λv I hR=>?_);obtain⟨V,e,F,N,Q,hd,L⟩:=hR;have a:(F,e)=D:=L.trans J;subst a;obtain⟨b,u,i,c,w,j,f,x,m,g,y,o,t⟩:=hd.form;rw[N,t];have E:=M I b u i c w j f x m g y o (l.trans Q) (by rw[<-t];exact hd);cbv;exact E
theorem bJx{v:Value}(q:ik h v d)(N:ue n d)(J:n<2^18)(s:Int)(L:-2^63<=s/\s<2^63)(name:ByteArray)(kv:cO)(F:iz d s name kv=D)
 (H:bJg h D.1 D.2 k):Ct 160 [v,.int .i64 s,.string name,.agg #[.int .i64 kv.k,.int .i64 kv.n,.string kv.s]] h k:=by
 obtain⟨b,t,i,c,u,j,f,w,l,g,x,m,rfl⟩:=q.form;refine mQx gXz Tryz.func160 λA P=>?_;cbv;intro O C K o;have r:Le h C:=by rw[o];exact Le.set K
 have B:=(congrFun o O).trans ae;cbv;refine(ZL (q.mono r) N J s L name (kv:=kv) B).mono (λv E hR=>?_);obtain⟨Q,e,z,I,M,hd,G⟩:=hR;have a:(z,e)=D:=G.trans F;subst a;obtain⟨b,t,i,c,u,j,f,w,l,g,x,m,p⟩:=hd.form;rw[I,p];have y:=H E b t i c u j f w l g x m (r.trans M) (by rw[<-p];exact hd);cbv;exact y
theorem lA.new{c b e t a:Nat}{W:List (fJ×Bool)}(cs:lA h c b e t a d.az W d.holds d.waits 0)(f:W=d.aq.map λw=>(w,true)):lA h c b e t a d.az (Wf d.aq) d.holds d.waits 0:=by rw[f]at cs;exact cs
theorem cQD{v:Value}(q:ik h v d)(a:ue n d)(jm:n<2^18)(s:Int)(name:ByteArray)(x:Bool)(N:aL d ⟨s,name,x⟩=D)
 (R:bJg h D.1 D.2 k):Ct 145 [v,.int .i64 s,.string name,.bool x] h k:=by
 obtain⟨b,u,j,f,w,l,g,y,m,i,z,p,rfl⟩:=q.form;have hH:=a.holds;have K:=a.waits;obtain⟨⟨T,J,I,Z⟩,e⟩:=D;refine mQx lZt Tryz.func145 λA hA=>?_;cbv;refine pS q (λh1 c tb wb G H W U P wB B wF tZ O E Uw cs=>?_);cbv;refine MO (cs.new O) ⟨s,name,x⟩ wF tZ a.rows (by omega) (by omega) N (λr S Q=>?_);have C:lA r c tb wb G H T (Wf J) I Z 0:=Q;clear Q;have V:Le h r:=U.dJ (by simp[P,wB,B]) S;refine C.elim (λm1 m2 x3 m3 k3 x4 m4 k4 o L _ _ _ _ _ _ _ t=>?_);rw[IY]at t;cbv;rw[ai A];refine mQw L ?_;cbv;refine fi t (λM b u j f w l g y m i z p Y X=>?_);have F:=R M b u j f w l g y m i z p (V.trans Y) X;cbv;exact F
theorem OO{v:Value}(q:ik h v d)(E:ue n d)(jm:n<2^18)(s:Int)(G:dC d s=D)
 (H:bJg h D.1 D.2 k):Ct 23 [v,.int .i64 s] h k:=by
 obtain⟨b,m,g,a,p,i,e,r,j,f,u,l,rfl⟩:=q.form;have hH:=E.holds;have M:=E.waits;refine mQx jKW Tryz.func23 λA F=>?_;cbv;refine pS q (λh1 c tb wb ct cw W S R wB L wF Y P Q Uw cs=>?_);have cs:=cs.new P;cbv;refine sO cs s (λh2 z t K hz y=>?_);rw[qO]at y;have B:=S.trans K;have V:=q.mono B;cases t with
 |false=>
  have U:D=(d,2):=by rw[<-G];unfold dC;rw[<-y];rfl
  subst U;cbv;rw[show A .not false=true by rw[F.not];rfl];cbv;refine fi V (λx b m g a p i e r j f u l C X=>?_);have w:=H x b m g a p i e r j f u l (B.trans C) X;cbv;exact w
 |true=>
  have U:D=(kh d s,0):=by rw[<-G];unfold dC;rw[<-y];rfl
  subst U;cbv;rw[show A .not true=false by rw[F.not];rfl];cbv;refine bXB (cs.mono K) wF Y E.rows s (by omega) (by omega) (λx J Z=>?_);rw[Rb,Ni]at Z;have C:Le h x:=B.dJ (by simp[R,wB,L]) J;refine Z.elim (λm1 m2 x3 m3 J x4 m4 k4 o N _ _ _ _ _ _ _ I=>?_);rw[IY]at I;cbv;rw[ai A];refine mQw N ?_;cbv;refine fi I (λO b m g a p i e r j f u l T X=>?_);have w:=H O b m g a p i e r j f u l (C.trans T) X;cbv;exact w
def yL(l:List oy)(nm:ByteArray):Nat->Option Nat
 |0=>none
 |i+1=>match l[i]? with
  |some m=>if decide (m.name=nm)=true then some i else yL l nm i
  |none=>yL l nm i
def kg(d:DB)(s:Int)(nm:ByteArray):DB×Int:=
 if jG (bQ d.aq s)=true then match d.aq[di (bQ d.aq s)]? with
  |some w=>match yL w.marks nm w.marks.length with
   |some k=>(⟨eV d.az (w.log.drop (fN (((w.marks[k]?).map (·.at_)).getD 0) w.log.length)),d.aq.set (di (bQ d.aq s)) ⟨w.s,w.log.take (fN (((w.marks[k]?).map (·.at_)).getD 0) w.log.length),w.marks.take (k+1)⟩,d.holds,d.waits⟩,0)
   |none=>(d,2)
  |none=>(d,2)
 else(d,2)
theorem _root_.Go.Sx.Kp.dZW{h':ad}{f e c:Nat}{g i:Array Value}{l o:Nat×Nat}(k:Kp [n,f] h h')(p:h n=some (.cells g e l))(q:h f=some (.cells i c o)){tys:List Nat}(r:e∉tys)(s:c∉tys):bR tys h h':=λb d e' N m a=>
 k b _ a (by
  intro j;simp at j;rcases j with rfl|rfl
  .rw[p]at a;cases a;exact r m
  rw[q]at a;cases a;exact s m)
theorem cZv{v:Value}(q:ik h v d)(ok:ue n d)(s:Int)(nm:ByteArray)(hD:kg d s nm=D)
 (hk:bJg h D.1 D.2 k):Ct 25 [v,.int .i64 s,.string nm] h k:=by
 obtain⟨f,M,C,p,N,E,r,O,H,B,P,J,rfl⟩:=q.form;refine mQx jKU Tryz.func25 λA hA=>?_;cbv;refine pS q (λh1 c tb wb ct cw W l1 hc wB Ai wF tZ hW az Uw cs=>?_);have cs:=cs.new hW;cbv;refine sO cs s (λh2 z t l2 K ht=>?_);rw[qO]at ht K;have ko:=l1.trans l2;have q2:=q.mono ko;cases t with
 |false=>
  have U:D=(d,2):=by rw[<-hD];unfold kg;rw[<-ht];rfl
  subst U;cbv;rw[show A .not false=true by rw[hA.not];rfl];cbv;refine fi q2 (λQ f M C p N E r O H B P J l3 X=>?_);have T:=hk Q f M C p N E r O H B P J (ko.trans l3) X;cbv;exact T
 |true=>
  have aP:di (bQ d.aq s)<d.aq.length:=by have:=lr ht.symm;simpa[bQ]using this
  obtain⟨w,hw⟩:=aE aP;have U:(match yL w.marks nm w.marks.length with
   |some k=>((⟨eV d.az (w.log.drop (fN (((w.marks[k]?).map (·.at_)).getD 0) w.log.length)),d.aq.set (di (bQ d.aq s)) ⟨w.s,w.log.take (fN (((w.marks[k]?).map (·.at_)).getD 0) w.log.length),w.marks.take (k+1)⟩,d.holds,d.waits⟩,0):DB×Int)
   |none=>(d,2))=D:=by rw[<-hD];unfold kg;rw[<-ht,hw];rfl
  clear hD;obtain⟨i,hi⟩:∃i,i=di (bQ d.aq s):=⟨_,rfl⟩;rw[<-hi]at U hw K;clear hi aP;have Bs:=cs.mono l2;have KD:(Wf d.aq)[i]? =some (w,true):=by unfold Wf;rw[mXe,hw];rfl
  refine Bs.elim (λm1 m2 x3 m3 k3 x4 m4 k4 o g0 _ _ f2 f3 f4 _ _ _=>?_);have sH:m2=d.aq.length:=by rw[f3];simp[Wf]
  have ke:=(mQB.1 hw).1;have cJ:(some (⟨wb,0,none⟩:Addr)).isSome=true/\0<=z/\z<(m2:Int):=⟨rfl,K.ix (by omega)⟩;obtain⟨e,l,a⟩:=w;have U:(match yL a nm a.length with
   |some k=>((⟨eV d.az (l.drop (fN (((a[k]?).map (·.at_)).getD 0) l.length)),d.aq.set i ⟨e,l.take (fN (((a[k]?).map (·.at_)).getD 0) l.length),a.take (k+1)⟩,d.holds,d.waits⟩,0):DB×Int)
   |none=>(d,2))=D:=U
  cbv;rw[show A .not true=false by rw[hA.not];rfl];cbv;rw[ai A];rw[ai A];refine mQw g0 ?_;cbv;refine⟨cJ,?_⟩;cbv;refine HJ (f4.sl f3) KD K.eq (λy1 y2 y3 b _=>?_);have b:Sl 150 dN h2 (.slice y1 y2 y3) a:=b;have Am:=b.len;have aK:=b.bound;have nP:aQH (A .bB .sub .i64 (A .nat y2) 1) y2:=(aS.nat y2).pred (by omega);obtain⟨I,aY⟩:∃I:Int->Nat->ad->Prop,∀g m h',I g m h'=∃j:Nat,aQH g j/\m=j/\j<=y2/\h'=h2/\yL a nm a.length=yL a nm j:=⟨_,λ_ _ _=>rfl⟩;cbv;refine aX.go (G:=Int) (λg=>[(12,.v (.int .i64 g))]) (λ_=>[(3,[.slice f M C,.slice p N E,.slice r O H,.slice B P J]),(6,[.slice none 0 0,.slice none 0 0,.slice none 0 0,.slice none 0 0])]) (λm g h'=>I g m h') y2 (A .bB .sub .i64 (A .nat y2) 1) (by constructor<;>cbv) (by rw[aY];exact⟨y2,nP,rfl,mQD _,rfl,by rw[Am]⟩) ?_
  intro m g h' hI;rw[aY]at hI;cbv;obtain⟨j,hg,hm,hj,rfl,F⟩:=hI;rw[hg.ge (A:=A)];cases j with
  |zero=>have F:yL a nm a.length=none:=F;rw[F]at U;have U:(d,2)=D:=U;subst U;rw[show decide (1<=0)=false from rfl];cbv;refine fi q2 (λQ f M C p N E r O H B P J l3 X=>?_);have T:=hk Q f M C p N E r O H B P J (ko.trans l3) X;cbv;exact T
  |succ j=>
   have S:aS g j:=hg.HO;obtain⟨⟨R,x⟩,hx⟩:=mQA a j;have TU:y1.isSome=true/\0<=g/\g<(y2:Int):=⟨b.aT,S.ix (by omega)⟩;have tE:yL a nm (j+1)=if decide (R=nm)=true then some j else yL a nm j:=by show(match a[j]? with|some m=>if decide (m.name=nm)=true then some j else yL a nm j|none=>yL a nm j)=_;rw[hx]
   rw[tE]at F;have al:A .iQ .eql R nm=decide (R=nm):=cS A ..;rw[show decide (1<=j+1)=true from mQu (by omega)];cbv;refine⟨TU,?_⟩;cbv;refine b.cC hx S.eq (o:=0) (m:=1) (by decide) (λcs y=>?_);have y:cs=[.string R,.int .i64 x]:=y;subst y;cbv;rw[al];generalize decide (R=nm)=u at *;cases u with
   |false=>
    have F:yL a nm a.length=yL a nm j:=F;have hn:=S.pred (A:=A) (by omega);have cD:I (A .bB .sub .i64 g 1) j h':=by rw[aY];exact⟨j,hn,rfl,by omega,rfl,F⟩
    cbv;refine⟨j,_,by omega,by constructor<;>cbv,cD⟩
   |true=>
    have F:yL a nm a.length=some j:=F;rw[F]at U;have U:((⟨eV d.az (l.drop (fN (((a[j]?).map (·.at_)).getD 0) l.length)),d.aq.set i ⟨e,l.take (fN (((a[j]?).map (·.at_)).getD 0) l.length),a.take (j+1)⟩,d.holds,d.waits⟩,0):DB×Int)=D:=U;rw[hx]at U;have U:((⟨eV d.az (l.drop (fN x l.length)),d.aq.set i ⟨e,l.take (fN x l.length),a.take (j+1)⟩,d.holds,d.waits⟩,0):DB×Int)=D:=U;have KS:=S.succ (A:=A);have ND:=b.Om (A:=A) (i:=j+1) (by omega);have X:=fh (A:=A) KS;have aj:0<=A .bB .add .i64 g 1/\A .bB .add .i64 g 1<=(y3:Int):=by have:=KS.eq;omega
    cbv;refine⟨TU,?_⟩;cbv;refine b.cC hx S.eq (o:=1) (m:=1) (by decide) (λcs y=>?_);have y:cs=[.string R,.int .i64 x]:=y;subst y;cbv;refine aXg Bs wF tZ ok.rows K KD x (λQ ab Y=>?_);have Zx:lA Q c tb wb ct cw (eV d.az (l.drop (fN x l.length))) ((Wf d.aq).set i (⟨e,l.take (fN x l.length),a⟩,false)) d.holds d.waits 0:=Y;clear Y;refine Zx.elim (λak L x3 m3 k3 x4 m4 k4 o V ho F1 F2 F3 F4 F6 F7 _=>?_);have aH:L=d.aq.length:=by rw[F3];simp[Wf]
    have au:(some (⟨wb,0,none⟩:Addr)).isSome=true/\0<=z/\z<(L:Int):=⟨rfl,K.ix (by omega)⟩;cbv;rw[ai A];rw[ai A];refine mQw V ?_;cbv;refine⟨aj,?_⟩;cbv;refine⟨au,?_⟩;cbv;have YL:Sl 150 dN h' (.slice (A .cut y1 0 (A .nat y3) 2) (j+1) y3) (a.take (j+1)):=ND;have ar:Sl 150 dN Q (.slice (A .cut y1 0 (A .nat y3) 2) (j+1) y3) (a.take (j+1)):=by obtain⟨a1,Wr,-⟩:=f2.out;obtain⟨a2,ag,-⟩:=f4.out;exact YL.mono (ab.dZW Wr ag (by decide) (by decide))
    have an:((Wf d.aq).set i (⟨e,l.take (fN x l.length),a⟩,false))[i]? =some (⟨e,l.take (fN x l.length),a⟩,false):=by rw[mZi (by simpa[Wf]using ke)]
    rw[X];refine F4.LS (by decide) an K.eq rfl (off:=2) (by simp[cX]) (x':=(⟨e,l.take (fN x l.length),a.take (j+1)⟩,false)) (λcs y=>?_) (λh4 Z t4 o4=>?_)
    .obtain⟨x1,aW,z1,x2,aV,z2,rfl,j1,j2,j3⟩:=y;exact⟨_,_,_,_,_,_,rfl,j1,ar,λhf=>by cases hf⟩
    have aw:=Z _ _ V (by simpa using tZ);have JB:ik h4 (.agg #[.slice (some ⟨tb,0,none⟩) ak ct,.slice (some ⟨wb,0,none⟩) L cw,.slice x3 m3 k3,.slice x4 m4 k4]) ⟨eV d.az (l.drop (fN x l.length)),d.aq.set i ⟨e,l.take (fN x l.length),a.take (j+1)⟩,d.holds,d.waits⟩:=by refine⟨_,_,_,_,_,_,_,_,_,_,_,_,_,rfl,(F2.mono (t4 _ (by decide))).sl F1,o4.sl (by rw[mXv];exact F3),F6.mono (t4 _ (by decide)),F7.mono (t4 _ (by decide)),?_⟩;simp only[mZc,IY,List.set_set]
    have l4:Le h h4:=ko.dJ (bs:=[tb,wb]) (by simp[wB,Ai]) (ab.trans (Z.sub (by simp)));subst U;cbv;rw[ai A];refine mQw aw ?_;cbv;refine fi JB (λh5 f M C p N E r O H B P J l5 X=>?_);have T:=hk h5 f M C p N E r O H B P J (l4.trans l5) X;cbv;exact T
end Go.S
