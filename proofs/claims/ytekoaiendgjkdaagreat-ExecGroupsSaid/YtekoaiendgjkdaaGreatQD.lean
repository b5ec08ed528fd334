import Derived.Test.YtekoaiendgjkdaaGreatQC
import Derived.Test.YtekoaiendgjkdaaGreatEA
set_option linter.unusedVariables false
set_option linter.unusedSimpArgs false
set_option linter.unusedSectionVars false
set_option maxRecDepth 100000
set_option maxHeartbeats 8000000
namespace Go.S
open Go.Sx Go.Proofs
theorem eQs{h:ad}{qp qb:Nat}{x:aJ}{cols:List cK}{y:Qy}(q:oC h qp x cols y)(gb:h qb=some (.cells #[.pointer (some ⟨qp,0,none⟩)] 186 (0,0)))(hx:dr x)(hc:∀c∈cols,Nm c.name){k:Value->ad->Prop}
 (hk:∀h',Le h h'->k (.int .i64 (aU x.on cols)) h'):Ct 175 [.pointer (some ⟨qb,0,none⟩)] h k:=by
 obtain⟨A,hA⟩:=Ar.ex;refine q.elim (fun b5 n5 c5 b6 n6 c6 b7 n7 c7 b8 n8 c8 b9 n9 c9 gW jD gT cb cn cc g q1 q2 q3 q4 q5 q6 q7=>?_);refine ah A (ax gXo.aK gXo.bF) Tryz.func175 rfl (by kernel_rfl) ?_;cbv;repeat (first| ((try rw[ai A]);(try rw[ai A]);(first|refine aB gb rfl rfl ?_|refine aB g rfl rfl ?_);cbv) | (refine⟨⟨_,rfl,rfl⟩,?_⟩;cbv))
 refine rW hx.on hc q2 q7 (fun h1 e l1 he=>?_);rw[<-he]at hk;have af:=hk h1 l1;clear hk he;cbv;exact af
theorem eQr{h:ad}{qp qb:Nat}{x:aJ}{cols:List cK}{y:Qy}(q:oC h qp x cols y)(gb:h qb=some (.cells #[.pointer (some ⟨qp,0,none⟩)] 186 (0,0)))(hx:dr x)(hc:∀c∈cols,Nm c.name){k:Value->ad->Prop}
 (hk:∀h',Le h h'->k (.int .i64 (aU x.bV cols)) h'):Ct 176 [.pointer (some ⟨qb,0,none⟩)] h k:=by
 obtain⟨A,hA⟩:=Ar.ex;refine q.elim (fun b5 n5 c5 b6 n6 c6 b7 n7 c7 b8 n8 c8 b9 n9 c9 gW jD gT cb cn cc g q1 q2 q3 q4 q5 q6 q7=>?_);refine ah A (ax gXn.aK gXn.bF) Tryz.func176 rfl (by kernel_rfl) ?_;cbv;repeat (first| ((try rw[ai A]);(try rw[ai A]);(first|refine aB gb rfl rfl ?_|refine aB g rfl rfl ?_);cbv) | (refine⟨⟨_,rfl,rfl⟩,?_⟩;cbv))
 refine rW hx.bV hc q6 q7 (fun h1 e l1 he=>?_);rw[<-he]at hk;have af:=hk h1 l1;clear hk he;cbv;exact af
theorem eQp{h:ad}{qp qb:Nat}{x:aJ}{cols:List cK}{y:Qy}(q:oC h qp x cols y)(gb:h qb=some (.cells #[.pointer (some ⟨qp,0,none⟩)] 186 (0,0)))(hx:dr x)(hc:∀c∈cols,Nm c.name){k:Value->ad->Prop}
 (hk:∀h',Kp [qp] h h'->oC h' qp x cols ⟨(bN x.group cols).1,y.order,y.kK⟩->k (.int .i64 (bN x.group cols).2) h'):Ct 180 [.pointer (some ⟨qb,0,none⟩)] h k:=by
 obtain⟨A,hA⟩:=Ar.ex;refine q.elim (fun b5 n5 c5 b6 n6 c6 b7 n7 c7 b8 n8 c8 b9 n9 c9 gW jD gT cb cn cc g q1 q2 q3 q4 q5 q6 q7=>?_);refine ah A (ax gXk.aK gXk.bF) Tryz.func180 rfl (by kernel_rfl) ?_;cbv;repeat (first| ((try rw[ai A]);(try rw[ai A]);(first|refine aB gb rfl rfl ?_|refine aB g rfl rfl ?_);cbv) | (refine⟨⟨_,rfl,rfl⟩,?_⟩;cbv))
 refine WS q hc hx.group (fun h1 l1=>?_);have cXv:=l1 _ _ gb;have g1:=l1 _ _ g;have ji:bR uB h h1:=l1.t _;generalize bN x.group cols=E at *;obtain⟨e1,e2⟩:=E;cbv;repeat (first| ((try rw[ai A]);(try rw[ai A]);refine aB cXv rfl rfl ?_;cbv) | (refine⟨⟨_,rfl,rfl⟩,?_⟩;cbv))
 first|rw[ai A] |skip
 refine ja g1 (by simp) (fun h2 Jj=>?_);have iJ:bR uB h1 h2:=by rw[Jj];exact bR.set g1 (by decide)
 have lt:=ji.trans iJ;have af:=hk h2 (fun b o hb hn=>by rw[Jj,aO (by simpa using hn)];exact l1 _ _ hb) ⟨b5,n5,c5,b6,n6,c6,b7,n7,c7,b8,n8,c8,b9,n9,c9,gW,jD,gT,cb,cn,cc,(by rw[Jj,ae];rfl),q1.mono (lt.sub (by decide)),q2.mono (lt.sub (by decide)),q3.mono (lt.sub (by decide)),q4.mono (lt.sub (by decide)),q5.mono (lt.sub (by decide)),q6.mono (lt.sub (by decide)),q7.mono (lt.sub (by decide))⟩;clear hk Jj;cbv;exact af
theorem eQo{h:ad}{qp qb:Nat}{x:aJ}{cols:List cK}{y:Qy}(q:oC h qp x cols y)(gb:h qb=some (.cells #[.pointer (some ⟨qp,0,none⟩)] 186 (0,0)))(hx:dr x)(hc:∀c∈cols,Nm c.name){k:Value->ad->Prop}
 (hk:∀h',Kp [qp] h h'->oC h' qp x cols ⟨y.group,(bN x.order cols).1,y.kK⟩->k (.int .i64 (bN x.order cols).2) h'):Ct 182 [.pointer (some ⟨qb,0,none⟩)] h k:=by
 obtain⟨A,hA⟩:=Ar.ex;refine q.elim (fun b5 n5 c5 b6 n6 c6 b7 n7 c7 b8 n8 c8 b9 n9 c9 gW jD gT cb cn cc g q1 q2 q3 q4 q5 q6 q7=>?_);refine ah A (ax gXi.aK gXi.bF) Tryz.func182 rfl (by kernel_rfl) ?_;cbv;repeat (first| ((try rw[ai A]);(try rw[ai A]);(first|refine aB gb rfl rfl ?_|refine aB g rfl rfl ?_);cbv) | (refine⟨⟨_,rfl,rfl⟩,?_⟩;cbv))
 refine WS q hc hx.order (fun h1 l1=>?_);have cXv:=l1 _ _ gb;have g1:=l1 _ _ g;have ji:bR uB h h1:=l1.t _;generalize bN x.order cols=E at *;obtain⟨e1,e2⟩:=E;cbv;repeat (first| ((try rw[ai A]);(try rw[ai A]);refine aB cXv rfl rfl ?_;cbv) | (refine⟨⟨_,rfl,rfl⟩,?_⟩;cbv))
 first|rw[ai A] |skip
 refine ja g1 (by simp) (fun h2 Jj=>?_);have iJ:bR uB h1 h2:=by rw[Jj];exact bR.set g1 (by decide)
 have lt:=ji.trans iJ;have af:=hk h2 (fun b o hb hn=>by rw[Jj,aO (by simpa using hn)];exact l1 _ _ hb) ⟨b5,n5,c5,b6,n6,c6,b7,n7,c7,b8,n8,c8,b9,n9,c9,gW,jD,gT,cb,cn,cc,(by rw[Jj,ae];rfl),q1.mono (lt.sub (by decide)),q2.mono (lt.sub (by decide)),q3.mono (lt.sub (by decide)),q4.mono (lt.sub (by decide)),q5.mono (lt.sub (by decide)),q6.mono (lt.sub (by decide)),q7.mono (lt.sub (by decide))⟩;clear hk Jj;cbv;exact af
theorem pP{α:Type}(f:α->Int)(x:α)(r:List α):ey f (x::r)=if f x≠0 then f x else ey f r:=rfl
theorem eQq{h:ad}{qp qb:Nat}{x:aJ}{cols:List cK}{y:Qy}(q:oC h qp x cols y)(gb:h qb=some (.cells #[.pointer (some ⟨qp,0,none⟩)] 186 (0,0)))(hx:dr x)(hc:∀c∈cols,Nm c.name){k:Value->ad->Prop}
 (hk:∀h',Le h h'->k (.int .i64 (ey (lT cols) x.items)) h'):Ct 177 [.pointer (some ⟨qb,0,none⟩)] h k:=by
 obtain⟨A,hA⟩:=Ar.ex;refine q.elim (fun b5 n5 c5 b6 n6 c6 b7 n7 c7 b8 n8 c8 b9 n9 c9 gW jD gT cb cn cc g q1 q2 q3 q4 q5 q6 q7=>?_);clear q1 q2 q3 q4 q6 q7;obtain⟨R,hR⟩:∃R,ey (lT cols) x.items=R:=⟨_,rfl⟩;rw[hR]at hk;obtain⟨I,aY⟩:∃I:Nat->ad->Prop,∀i h',I i h'=(Le h h'/\ey (lT cols) (x.items.drop i)=R):=⟨_,fun _ _=>rfl⟩;have hJ:I 0 h:=by rw[aY];exact⟨Le.refl _,hR⟩
 refine ah A (ax gXm.aK gXm.bF) Tryz.func177 rfl (by kernel_rfl) ?_;cbv;repeat (first| ((try rw[ai A]);(try rw[ai A]);(first|refine aB gb rfl rfl ?_|refine aB g rfl rfl ?_);cbv) | (refine⟨⟨_,rfl,rfl⟩,?_⟩;cbv))
 refine Zo q5.len I hJ (fun i h' hI=>?_) (fun i it h' ib im ic hi uQ hI hv=>?_) (fun h' hI=>?_)
 ·rw[aY]at hI;exact q5.mono (hI.1.t _)
 ·rw[aY]at hI;obtain⟨l,he⟩:=hI;have hd:x.items.drop i=it::x.items.drop (i+1):=by obtain⟨h1,h2⟩:=HH.1 uQ;rw[mQy h1,h2]
  rw[hd,pP]at he;refine fQH (q.mono l) hc (hx.items it (GD uQ)) hv (fun h2 l2=>⟨_,rfl,fun h0=>?_,fun h0=>?_⟩)
  ·rw[if_neg (fun g=>g h0)]at he;rw[aY];exact⟨l.trans l2,he⟩
  ·rw[if_pos h0]at he;rw[he];have af:=hk h2 (l.trans l2);clear hk aY h0;cbv;exact af
 ·rw[aY]at hI;obtain⟨l,he⟩:=hI;rw[mQR (by rw[q5.len];exact mQt _)]at he;have he:(0:Int)=R:=he;subst he;have af:=hk h' l;clear hk aY;cbv;exact af
theorem eQn(fn:Int){h:ad}{ib:Option Addr}{im ic:Nat}{k:Value->ad->Prop}(hk:k (.bool (decide (fn≠0))) h):Ct 186 [.agg #[.int .i64 fn,.slice ib im ic]] h k:=by obtain⟨A,hA⟩:=Ar.ex;have f1:A .aI .neq fn 0=decide (fn≠0):=aC A ..;refine ah A (ax gXf.aK gXf.bF) Tryz.func186 rfl (by kernel_rfl) ?_;cbv;rw[f1];exact hk
theorem YJ{xs:List dO}{h:ad}{b:Option Addr}{n c:Nat}(q:Sl 276 eI h (.slice b n c) xs){k:Value->ad->Prop}
 (hk:∀z:Int,decide (z>=0)=xs.any (fun i=>decide (i.fn≠0))->k (.int .i64 z) h):Ct 251 [.slice b n c,.func (.func 186) #[] #[]] h k:=by
 obtain⟨A,hA⟩:=Ar.ex;have hn:=q.len;have hb:=q.bound;obtain⟨R,hR⟩:∃R,xs.any (fun i=>decide (i.fn≠0))=R:=⟨_,rfl⟩;rw[hR]at hk;obtain⟨J,dY⟩:∃J:Nat->Int->ad->Prop,∀m z h',J m z h'=∃i,aS z i/\i<=n/\m=n-i/\h'=h/\(xs.drop i).any (fun i=>decide (i.fn≠0))=R:=⟨_,fun _ _ _=>rfl⟩;have hJ:J n 0 h:=by rw[dY];exact⟨0,⟨rfl⟩,mQr _,rfl,rfl,hR⟩
 refine ah A (ax gQl.aK gQl.bF) Tryz.func251 rfl (by kernel_rfl) ?_;cbv;refine aX.go (G:=Int) (fun z=>[(8,.v (.int .i64 z))]) (fun _=>[]) (fun m z h'=>J m z h') n 0 ⟨?_,?_,?_⟩ hJ ?_
 ·cbv
 ·cbv
 ·cbv
 ·intro m z h1 hI;rw[dY]at hI;cbv;obtain⟨i,hz,hi,hm,e',he⟩:=hI;subst e';have f1:A .aI .lss z (A .nat n)=decide (i<n):=hz.iJ (aS.nat n);rw[f1];by_cases aP:i<n
  ·obtain⟨x,hx⟩:=aE (xs:=xs) (i:=i) (by omega);have hd:xs.drop i=x::xs.drop (i+1):=by obtain⟨h1,h2⟩:=HH.1 hx;rw[mQy h1,h2]
   rw[hd,List.any_cons]at he;have cJ:b.isSome=true/\0<=z/\z<(n:Int):=⟨q.aT (by omega),hz.ix aP⟩;have cN:=hz.eq;have cZ:=hz.succ (A:=A) (by omega);have kX:n-(i+1)<m:=by omega
   have jL:(xs.drop (i+1)).any (fun i=>decide (i.fn≠0))=R->J (n-(i+1)) (A .bB .add .i64 z 1) h1:=fun e=>by rw[dY];exact⟨i+1,cZ,aP,rfl,rfl,e⟩
   have MG:decide (z>=0)=true:=kS (by omega);clear dY hJ cZ;rw[kS aP];cbv;refine⟨cJ,?_⟩;cbv;refine yQ q hx cN (fun b1 n1 c1 hv=>?_);obtain⟨xf,xe⟩:=x;replace he:(decide (xf≠0)||(xs.drop (i+1)).any (fun i=>decide (i.fn≠0)))=R:=he;cbv;refine eQn xf ?_;by_cases h0:xf≠0
   ·have e1:R=true:=by rw[<-he,kS h0];rfl
    have af:=hk z (by rw[MG,e1]);clear hk jL he;rw[kS h0];cbv;exact af
   ·rw[nM h0,mZx]at he;have af:=jL he;clear hk jL he;rw[nM h0];cbv;refine⟨n-(i+1),A .bB .add .i64 z 1,kX,⟨?_,?_,?_⟩,af⟩
    ·cbv
    ·cbv
    ·cbv
  ·rw[mQR (by omega)]at he;have he:false=R:=he;have af:=hk (-1) (by rw[<-he];rfl);clear hk dY hJ;rw[nM aP];cbv;exact af
theorem No{xs:List dO}{h:ad}{b:Option Addr}{n c:Nat}(q:Sl 276 eI h (.slice b n c) xs){k:Value->ad->Prop}
 (hk:k (.bool (xs.any (fun i=>decide (i.fn≠0)))) h):Ct 185 [.slice b n c,.func (.func 186) #[] #[]] h k:=by
 obtain⟨A,hA⟩:=Ar.ex;refine ah A (ax gXg.aK gXg.bF) Tryz.func185 rfl (by kernel_rfl) ?_;cbv;refine YJ q (fun z hz=>?_);have f1:A .aI .geq z 0=decide (z>=0):=cf A ..;rw[<-hz]at hk;clear hz;cbv;rw[f1];exact hk
theorem iKa{h:ad}{qp qb:Nat}{x:aJ}{cols:List cK}{y:Qy}(q:oC h qp x cols y)(gb:h qb=some (.cells #[.pointer (some ⟨qp,0,none⟩)] 186 (0,0)))(hx:dr x)(hc:∀c∈cols,Nm c.name){k:Value->ad->Prop}
 (hk:∀h',Le h h'->k (.int .i64 (aU x.on cols)) h'):Ct 184 [.func (.func 175) #[] #[.pointer (some ⟨qb,0,none⟩)]] h k:=by
 obtain⟨A,hA⟩:=Ar.ex;refine ah A (ax JL.aK JL.bF) Tryz.func184 rfl (by kernel_rfl) ?_;cbv;refine eQs q gb hx hc (fun h1 l1=>?_);have af:=hk h1 l1;clear hk;generalize aU x.on cols=z at *;cbv;exact af
theorem iJZ{h:ad}{qp qb:Nat}{x:aJ}{cols:List cK}{y:Qy}(q:oC h qp x cols y)(gb:h qb=some (.cells #[.pointer (some ⟨qp,0,none⟩)] 186 (0,0)))(hx:dr x)(hc:∀c∈cols,Nm c.name){k:Value->ad->Prop}
 (hk:∀h',Le h h'->k (.int .i64 (aU x.bV cols)) h'):Ct 184 [.func (.func 176) #[] #[.pointer (some ⟨qb,0,none⟩)]] h k:=by
 obtain⟨A,hA⟩:=Ar.ex;refine ah A (ax JL.aK JL.bF) Tryz.func184 rfl (by kernel_rfl) ?_;cbv;refine eQr q gb hx hc (fun h1 l1=>?_);have af:=hk h1 l1;clear hk;generalize aU x.bV cols=z at *;cbv;exact af
theorem iJY{h:ad}{qp qb:Nat}{x:aJ}{cols:List cK}{y:Qy}(q:oC h qp x cols y)(gb:h qb=some (.cells #[.pointer (some ⟨qp,0,none⟩)] 186 (0,0)))(hx:dr x)(hc:∀c∈cols,Nm c.name){k:Value->ad->Prop}
 (hk:∀h',Le h h'->k (.int .i64 (ey (lT cols) x.items)) h'):Ct 184 [.func (.func 177) #[] #[.pointer (some ⟨qb,0,none⟩)]] h k:=by
 obtain⟨A,hA⟩:=Ar.ex;refine ah A (ax JL.aK JL.bF) Tryz.func184 rfl (by kernel_rfl) ?_;cbv;refine eQq q gb hx hc (fun h1 l1=>?_);have af:=hk h1 l1;clear hk;generalize ey (lT cols) x.items=z at *;cbv;exact af
theorem iJX{h:ad}{qp qb:Nat}{x:aJ}{cols:List cK}{y:Qy}(q:oC h qp x cols y)(gb:h qb=some (.cells #[.pointer (some ⟨qp,0,none⟩)] 186 (0,0)))(hx:dr x)(hc:∀c∈cols,Nm c.name){k:Value->ad->Prop}
 (hk:∀h',Kp [qp] h h'->oC h' qp x cols ⟨(bN x.group cols).1,y.order,y.kK⟩->k (.int .i64 (bN x.group cols).2) h'):Ct 184 [.func (.func 180) #[] #[.pointer (some ⟨qb,0,none⟩)]] h k:=by
 obtain⟨A,hA⟩:=Ar.ex;refine ah A (ax JL.aK JL.bF) Tryz.func184 rfl (by kernel_rfl) ?_;cbv;refine eQp q gb hx hc (fun h1 k1 q1=>?_);have af:=hk h1 k1 q1;clear hk;generalize (bN x.group cols).2=z at *;cbv;exact af
theorem iJW{h:ad}{qp qb:Nat}{x:aJ}{cols:List cK}{y:Qy}(q:oC h qp x cols y)(gb:h qb=some (.cells #[.pointer (some ⟨qp,0,none⟩)] 186 (0,0)))(hx:dr x)(hc:∀c∈cols,Nm c.name){k:Value->ad->Prop}
 (hk:∀h',Kp [qp] h h'->oC h' qp x cols ⟨y.group,(bN x.order cols).1,y.kK⟩->k (.int .i64 (bN x.order cols).2) h'):Ct 184 [.func (.func 182) #[] #[.pointer (some ⟨qb,0,none⟩)]] h k:=by
 obtain⟨A,hA⟩:=Ar.ex;refine ah A (ax JL.aK JL.bF) Tryz.func184 rfl (by kernel_rfl) ?_;cbv;refine eQo q gb hx hc (fun h1 k1 q1=>?_);have af:=hk h1 k1 q1;clear hk;generalize (bN x.order cols).2=z at *;cbv;exact af
theorem Qz(x:aJ)(cols:List cK):
 (aU x.on cols≠0->(dp x cols).2=aU x.on cols)/\
 (aU x.on cols=0->aU x.bV cols≠0->(dp x cols).2=aU x.bV cols)/\
 (aU x.on cols=0->aU x.bV cols=0->ey (lT cols) x.items≠0->(dp x cols).2=ey (lT cols) x.items)/\
 (aU x.on cols=0->aU x.bV cols=0->ey (lT cols) x.items=0->(bN x.group cols).2≠0->(dp x cols).2=(bN x.group cols).2)/\
 (aU x.on cols=0->aU x.bV cols=0->ey (lT cols) x.items=0->(bN x.group cols).2=0->(bN x.order cols).2≠0->(dp x cols).2=(bN x.order cols).2)/\
 (aU x.on cols=0->aU x.bV cols=0->ey (lT cols) x.items=0->(bN x.group cols).2=0->(bN x.order cols).2=0->dp x cols=
  if(decide (x.group≠b0)||x.items.any fun i=>decide (i.fn≠0))=false then(⟨(bN x.group cols).1,(bN x.order cols).1,false⟩,0)
  else if x.items.length=0\/((bN x.order cols).1>=0/\(bN x.order cols).1≠(bN x.group cols).1)then(⟨(bN x.group cols).1,(bN x.order cols).1,true⟩,3)
  else(⟨(bN x.group cols).1,(bN x.order cols).1,true⟩,ey (cM cols (bN x.group cols).1) x.items)):=by
 have hP:dp x cols=if aU x.on cols≠0 then(⟨-1,-1,false⟩,aU x.on cols)
  else if aU x.bV cols≠0 then(⟨-1,-1,false⟩,aU x.bV cols)
  else if ey (lT cols) x.items≠0 then(⟨-1,-1,false⟩,ey (lT cols) x.items)
  else match bN x.group cols with
   | (g,e)=>if e≠0 then(⟨g,-1,false⟩,e)else match bN x.order cols with
    | (o,e)=>if e≠0 then(⟨g,o,false⟩,e)else
     if(decide (x.group≠b0)||x.items.any fun i=>decide (i.fn≠0))=false then(⟨g,o,false⟩,0)
     else if x.items.length=0\/(o>=0/\o≠g)then(⟨g,o,true⟩,3)
     else(⟨g,o,true⟩,ey (cM cols g) x.items):=rfl
 generalize dp x cols=D at *;generalize aU x.on cols=c1 at *;generalize aU x.bV cols=c2 at *;generalize ey (lT cols) x.items=c3 at *;generalize bN x.group cols=G at *;generalize bN x.order cols=O at *;obtain⟨g,c4⟩:=G;obtain⟨o,c5⟩:=O;refine⟨fun h=>?_,fun h1 h=>?_,fun h1 h2 h=>?_,fun h1 h2 h3 h=>?_,fun h1 h2 h3 h4 h=>?_,fun h1 h2 h3 h4 h5=>?_⟩
 ·rw[hP,if_pos h]
 ·rw[hP,if_neg (fun g=>g h1),if_pos h]
 ·rw[hP,if_neg (fun g=>g h1),if_neg (fun g=>g h2),if_pos h]
 ·replace h:c4≠0:=h;rw[hP,if_neg (fun g=>g h1),if_neg (fun g=>g h2),if_neg (fun g=>g h3)];show(if c4≠0 then _ else _:Qy×Int).2=c4;rw[if_pos h]
 ·replace h4:c4=0:=h4;replace h:c5≠0:=h;rw[hP,if_neg (fun g=>g h1),if_neg (fun g=>g h2),if_neg (fun g=>g h3)];show(if c4≠0 then _ else if c5≠0 then _ else _:Qy×Int).2=c5;rw[if_neg (fun g=>g h4),if_pos h]
 ·replace h4:c4=0:=h4;replace h5:c5=0:=h5;rw[hP,if_neg (fun g=>g h1),if_neg (fun g=>g h2),if_neg (fun g=>g h3)];show(if c4≠0 then _ else if c5≠0 then _ else _:Qy×Int)=_;rw[if_neg (fun g=>g h4),if_neg (fun g=>g h5)]
theorem cKW{h:ad}{qp:Nat}{x:aJ}{cols:List cK}(q:oC h qp x cols ⟨-1,-1,false⟩)(hx:dr x)(hc:∀c∈cols,Nm c.name){k:Value->ad->Prop}
 (hk:∀h' y,Kp [qp] h h'->oC h' qp x cols y->((dp x cols).2=0->y=(dp x cols).1)->k (.int .i64 (dp x cols).2) h'):
 Ct 100 [.pointer (some ⟨qp,0,none⟩)] h k:=by
 obtain⟨A,hA⟩:=Ar.ex;obtain⟨s1,s2,s3,s4,s5,s6⟩:=Qz x cols;have bZN:∀g,ey (cM cols g) x.items=ey (cM cols g) x.items:=fun _=>rfl;have sK:∀ {h1:ad} {qb:Nat} {y:Qy},oC h1 qp x cols y->h1 qb=some (.cells #[.pointer (some ⟨qp,0,none⟩)] 186 (0,0))->True:=fun _ _=>trivial;clear sK bZN;generalize dp x cols=D at *;obtain⟨Dy,De⟩:=D;replace hk:∀h' y,Kp [qp] h h'->oC h' qp x cols y->(De=0->y=Dy)->k (.int .i64 De) h':=hk;obtain⟨cq,hq⟩:=q.has;have fJe:∀ {n:Nat},h n=none->n≠qp:=fun hn e=>by rw[e,hq]at hn;cases hn
 refine ah A (ax gZm.aK gZm.bF) Tryz.func100 rfl (by kernel_rfl) ?_;cbv;intro qb h1 f1 e1;have l1:Le h h1:=by rw[e1];exact Le.set f1
 have cXv:h1 qb=some (.cells #[.pointer (some ⟨qp,0,none⟩)] 186 (0,0)):=by rw[e1];exact ae
 have gKa:=fJe f1;clear e1;cbv;intro sb h2 f2 e2;have l2:Le h1 h2:=by rw[e2];exact Le.set f2
 have eZs:sb≠qp:=fun e=>by rw[e,l1 _ _ hq]at f2;cases f2
 have qs:Sl 173 (aXU (.pointer (some ⟨qb,0,none⟩))) h2 (.slice (some ⟨sb,0,none⟩) 5 5) [175,176,177,180,182]:=by
  refine Sl.fresh (s:=aXU (.pointer (some ⟨qb,0,none⟩))) (h:=h2) (n:=sb) (xs:=[175,176,177,180,182]) (cap:=5) (c:=[.func (.func 175) #[] #[.pointer (some ⟨qb,0,none⟩)],.func (.func 176) #[] #[.pointer (some ⟨qb,0,none⟩)],.func (.func 177) #[] #[.pointer (some ⟨qb,0,none⟩)],.func (.func 180) #[] #[.pointer (some ⟨qb,0,none⟩)],.func (.func 182) #[] #[.pointer (some ⟨qb,0,none⟩)]]) (by rw[e2];exact ae) ⟨mQt 5,fun i x hx=>?_⟩ (by show 5<=_;omega) (mQt 5)
  match i,hx with
  |0,hx=>cases hx;rfl
  |1,hx=>cases hx;rfl
  |2,hx=>cases hx;rfl
  |3,hx=>cases hx;rfl
  |4,hx=>cases hx;rfl
  |i+5,hx=>simp at hx
 clear e2;have jZ:=l1.trans l2;have q2:=q.mono jZ;have yY:=l2 _ _ cXv;have g0:(bN x.group cols).1=(bN x.group cols).1:=rfl;obtain⟨I,aY⟩:∃I:Nat->ad->Prop,∀i h',I i h'=(Kp [qp] h2 h'/\oC h' qp x cols ⟨if 3<i then(bN x.group cols).1 else -1,if 4<i then(bN x.order cols).1 else -1,false⟩/\
  (0<i->aU x.on cols=0)/\(1<i->aU x.bV cols=0)/\(2<i->ey (lT cols) x.items=0)/\(3<i->(bN x.group cols).2=0)/\(4<i->(bN x.order cols).2=0)):=⟨_,fun _ _=>rfl⟩
 have hJ:I 0 h2:=by rw[aY];exact⟨Kp.refl _ _,q2,fun g=>by omega,fun g=>by omega,fun g=>by omega,fun g=>by omega,fun g=>by omega⟩
 have jQe:∀ {h':ad},Kp [qp] h2 h'->∀tys,188∉tys->bR tys h2 h':=fun kp tys ht=>by
  obtain⟨c,g⟩:=q2.has;exact kp.ES g ht
 have bad:∀ {h':ad} {y:Qy} {e:Int},Kp [qp] h2 h'->oC h' qp x cols y->De=e->e≠0->k (.int .i64 e) h':=fun kp q' he h0=>by
  rw[<-he];exact hk _ _ ((jZ.kp _).trans kp) q' (fun h=>absurd (he ▸ h) h0)
 cbv;refine Uq (p:=.pointer (some ⟨qb,0,none⟩)) (xs:=[175,176,177,180,182]) (n:=5) rfl I hJ (fun i h' hI=>?_) (fun i g h' hi hg hI _=>?_) (fun h' hI=>?_)
 ·rw[aY]at hI;exact qs.mono (jQe hI.1 _ (by show 188∉[173];decide))
 ·rw[aY]at hI;obtain⟨kp,q',p1,p2,p3,p4,p5⟩:=hI;have Qw:=kp _ _ yY (by simpa using gKa)
  match i,hg with
  |0,hg=>
   cases hg;refine iKa q' Qw hx hc (fun h3 l3=>⟨_,rfl,fun h0=>?_,fun h0=>?_⟩)
   ·rw[aY];exact⟨kp.trans (l3.kp _),q'.mono l3,fun _=>h0,fun g=>by omega,fun g=>by omega,fun g=>by omega,fun g=>by omega⟩
   ·have af:=bad (kp.trans (l3.kp _)) (q'.mono l3) (s1 h0) h0;have fe:A .aI .neq (aU x.on cols) 0=true:=by rw[aC A];exact kS h0
    clear hk bad aY;generalize aU x.on cols=z at *;cbv;rw[fe];cbv;exact af
  |1,hg=>
   cases hg;refine iJZ q' Qw hx hc (fun h3 l3=>⟨_,rfl,fun h0=>?_,fun h0=>?_⟩)
   ·rw[aY];exact⟨kp.trans (l3.kp _),q'.mono l3,fun _=>p1 (by omega),fun _=>h0,fun g=>by omega,fun g=>by omega,fun g=>by omega⟩
   ·have af:=bad (kp.trans (l3.kp _)) (q'.mono l3) (s2 (p1 (by omega)) h0) h0;have fe:A .aI .neq (aU x.bV cols) 0=true:=by rw[aC A];exact kS h0
    clear hk bad aY;generalize aU x.bV cols=z at *;cbv;rw[fe];cbv;exact af
  |2,hg=>
   cases hg;refine iJY q' Qw hx hc (fun h3 l3=>⟨_,rfl,fun h0=>?_,fun h0=>?_⟩)
   ·rw[aY];exact⟨kp.trans (l3.kp _),q'.mono l3,fun _=>p1 (by omega),fun _=>p2 (by omega),fun _=>h0,fun g=>by omega,fun g=>by omega⟩
   ·have af:=bad (kp.trans (l3.kp _)) (q'.mono l3) (s3 (p1 (by omega)) (p2 (by omega)) h0) h0;have fe:A .aI .neq (ey (lT cols) x.items) 0=true:=by rw[aC A];exact kS h0
    clear hk bad aY;generalize ey (lT cols) x.items=z at *;cbv;rw[fe];cbv;exact af
  |3,hg=>
   cases hg;refine iJX q' Qw hx hc (fun h3 k3 q3=>⟨_,rfl,fun h0=>?_,fun h0=>?_⟩)
   ·rw[aY];exact⟨kp.trans k3,q3,fun _=>p1 (by omega),fun _=>p2 (by omega),fun _=>p3 (by omega),fun _=>h0,fun g=>by omega⟩
   ·have af:=bad (kp.trans k3) q3 (s4 (p1 (by omega)) (p2 (by omega)) (p3 (by omega)) h0) h0;have fe:A .aI .neq (bN x.group cols).2 0=true:=by rw[aC A];exact kS h0
    clear hk bad aY q3;generalize (bN x.group cols).2=z at *;cbv;rw[fe];cbv;exact af
  |4,hg=>
   cases hg;refine iJW q' Qw hx hc (fun h3 k3 q3=>⟨_,rfl,fun h0=>?_,fun h0=>?_⟩)
   ·rw[aY];exact⟨kp.trans k3,q3,fun _=>p1 (by omega),fun _=>p2 (by omega),fun _=>p3 (by omega),fun _=>p4 (by omega),fun _=>h0⟩
   ·have af:=bad (kp.trans k3) q3 (s5 (p1 (by omega)) (p2 (by omega)) (p3 (by omega)) (p4 (by omega)) h0) h0;have fe:A .aI .neq (bN x.order cols).2 0=true:=by rw[aC A];exact kS h0
    clear hk bad aY q3;generalize (bN x.order cols).2=z at *;cbv;rw[fe];cbv;exact af
  |i+5,hg=>simp at hg
 ·rw[aY]at hI;obtain⟨kp,q',p1,p2,p3,p4,p5⟩:=hI;have hD:=s6 (p1 (by omega)) (p2 (by omega)) (p3 (by omega)) (p4 (by omega)) (p5 (by omega));have Qw:=kp _ _ yY (by simpa using gKa);rw[if_pos (by omega),if_pos (by omega)]at q';clear s1 s2 s3 s4 s5 s6 p1 p2 p3 p4 p5 bad aY hJ;have k0:Kp [qp] h h':=(jZ.kp _).trans kp;generalize (bN x.group cols).1=yg at *;generalize (bN x.order cols).1=yo at *;have f0:A .aI .neq 0 0=false:=by rw[aC A];rfl
  have fg:A .iQ .neq x.group ⟨#[]⟩=decide (x.group≠b0):=Gb A ..;refine q'.elim (fun b5 n5 c5 b6 n6 c6 b7 n7 c7 b8 n8 c8 b9 n9 c9 gW jD gT cb cn cc g q1 eXZ q3 q4 q5 q6 q7=>?_);cbv;rw[f0];cbv;clear q2 jQe;obtain⟨ga,FK⟩:∃ga,ga=(decide (x.group≠b0)||x.items.any fun i=>decide (i.fn≠0)):=⟨_,rfl⟩;rw[<-FK]at hD;have XQ:∀h5,h5=bU h' qp (.cells #[.int .i64 x.kind,.string x.sE.name,.slice b5 n5 c5,.int .i64 x.sE.key,.bool x.sE.only,.string x.table,.string x.join,.slice b6 n6 c6,.slice b7 n7 c7,.slice b8 n8 c8,.slice b9 n9 c9,.slice gW jD gT,.string x.group,.string x.order,.bool x.desc,.int .i64 x.eG,.string x.name,.slice cb cn cc,.int .i64 yg,.int .i64 yo,.bool ga] 188 (0,0))->
   oC h5 qp x cols ⟨yg,yo,ga⟩/\Kp [qp] h h5:=fun h5 e5=>by
   have Cf:bR uB h' h5:=by rw[e5];exact bR.set g (by decide)
   exact⟨⟨b5,n5,c5,b6,n6,c6,b7,n7,c7,b8,n8,c8,b9,n9,c9,gW,jD,gT,cb,cn,cc,(by rw[e5];exact ae),q1.mono (Cf.sub (by decide)),eXZ.mono (Cf.sub (by decide)),q3.mono (Cf.sub (by decide)),q4.mono (Cf.sub (by decide)),q5.mono (Cf.sub (by decide)),q6.mono (Cf.sub (by decide)),q7.mono (Cf.sub (by decide))⟩,k0.trans (by rw[e5];exact Kp.set (by simp))⟩
  have We:=q5.len;have tail:∀h5,h5=bU h' qp (.cells #[.int .i64 x.kind,.string x.sE.name,.slice b5 n5 c5,.int .i64 x.sE.key,.bool x.sE.only,.string x.table,.string x.join,.slice b6 n6 c6,.slice b7 n7 c7,.slice b8 n8 c8,.slice b9 n9 c9,.slice gW jD gT,.string x.group,.string x.order,.bool x.desc,.int .i64 x.eG,.string x.name,.slice cb cn cc,.int .i64 yg,.int .i64 yo,.bool ga] 188 (0,0))->
   oC h5 qp x cols ⟨yg,yo,ga⟩/\Kp [qp] h h5:=XQ
  clear tail q1 eXZ q3 q4 q6 q7;repeat (first| (rw[ai A,ai A];refine aB Qw rfl rfl ?_;cbv) | (rw[ai A];refine aB Qw rfl rfl ?_;cbv) | (refine aB Qw rfl rfl ?_;cbv) | (rw[ai A,ai A];refine aB g rfl rfl ?_;cbv) | (rw[ai A];refine aB g rfl rfl ?_;cbv) | (refine aB g rfl rfl ?_;cbv) | (refine⟨⟨_,rfl,rfl⟩,?_⟩;cbv))
  rw[fg];by_cases bZN:x.group≠b0
  ·have kKF:ga=true:=by rw[FK,kS bZN];rfl
   rw[kKF]at hD XQ;rw[kS bZN];cbv;first|rw[ai A] |skip
   refine ja g (by simp) (fun h5 e5=>?_);obtain⟨Vr,k5⟩:=XQ h5 e5;have vp:h5 qb=some (.cells #[.pointer (some ⟨qp,0,none⟩)] 186 (0,0)):=by rw[e5,aO gKa];exact Qw
   have Cf:bR uB h' h5:=by rw[e5];exact bR.set g (by decide)
   clear e5 XQ g FK;rw[if_neg (by simp)]at hD;have nt:A .not true=false:=by rw[hA.not];rfl
   have KO:=fun h' l e=>hk h' ⟨yg,yo,true⟩ (k5.trans (Le.kp l _)) (Vr.mono l) e;clear hk;refine Vr.elim (fun jJH jQI jJv jJG jQH jJu jJF jQG jJt jJE jQF jJs jJD gJm jJr fJQ fQc fJM jJq jJn jJp g5 _ _ _ _ cJv _ _=>?_);have ke:=cJv.len;have fl:A .aI .eql (A .nat gJm) 0=decide (x.items.length=0):=by rw[aA A,hA.nat,decide_eq_decide,mQJ];omega
   have fo:A .aI .geq yo 0=decide (yo>=0):=cf A ..;have fn:A .aI .neq yo yg=decide (yo≠yg):=aC A ..;have hr:∀h' e,Le h5 h'->De=e->(De=0->Dy=⟨yg,yo,true⟩)->k (.int .i64 e) h':=fun h' e l he hy=>by rw[<-he];exact KO h' l (fun h0=>(hy h0).symm)
   clear KO;cbv;repeat (first| ((try rw[ai A]);(try rw[ai A]);(first|refine aB vp rfl rfl ?_|refine aB g5 rfl rfl ?_);cbv) | (refine⟨⟨_,rfl,rfl⟩,?_⟩;cbv))
   rw[nt];cbv;repeat (first| ((try rw[ai A]);(try rw[ai A]);(first|refine aB vp rfl rfl ?_|refine aB g5 rfl rfl ?_);cbv) | (refine⟨⟨_,rfl,rfl⟩,?_⟩;cbv))
   rw[fl];by_cases Jf:x.items.length=0
   ·rw[if_pos (.inl Jf)]at hD;cases hD;have af:=hr h5 3 (Le.refl _) rfl (fun h=>by cases h);clear hr;rw[kS Jf];cbv;exact af
   rw[nM Jf];cbv;repeat (first| ((try rw[ai A]);(try rw[ai A]);(first|refine aB vp rfl rfl ?_|refine aB g5 rfl rfl ?_);cbv) | (refine⟨⟨_,rfl,rfl⟩,?_⟩;cbv))
   rw[fo];have Iq:¬(yo>=0/\yo≠yg)->(Dy,De)=(⟨yg,yo,true⟩,ey (cM cols yg) x.items):=fun hn=>by
    rw[if_neg (by rintro(g|g)<;>contradiction)]at hD;exact hD
   by_cases ho:yo>=0
   ·rw[kS ho];cbv;repeat (first| ((try rw[ai A]);(try rw[ai A]);(first|refine aB vp rfl rfl ?_|refine aB g5 rfl rfl ?_);cbv) | (refine⟨⟨_,rfl,rfl⟩,?_⟩;cbv))
    rw[fn];by_cases hn:yo≠yg
    ·rw[if_pos (.inr ⟨ho,hn⟩)]at hD;cases hD;have af:=hr h5 3 (Le.refl _) rfl (fun h=>by cases h);clear hr Iq;rw[kS hn];cbv;exact af
    have hE:=Iq (fun g=>hn g.2);clear Iq hD;rw[nM hn];cbv;repeat (first| ((try rw[ai A]);(try rw[ai A]);(first|refine aB vp rfl rfl ?_|refine aB g5 rfl rfl ?_);cbv) | (refine⟨⟨_,rfl,rfl⟩,?_⟩;cbv))
    obtain⟨R,hR⟩:∃R,ey (cM cols yg) x.items=R:=⟨_,rfl⟩;rw[hR]at hE;cases hE;obtain⟨I2,cD⟩:∃I:Nat->ad->Prop,∀i h',I i h'=(Le h5 h'/\ey (cM cols yg) (x.items.drop i)=De):=⟨_,fun _ _=>rfl⟩;have jL:I2 0 h5:=by rw[cD];exact⟨Le.refl _,hR⟩
    refine qZ ke I2 jL (fun i h' hI=>?_) (fun i it h' ib im ic hi uQ hI hv=>?_) (fun h' hI=>?_)
    ·rw[cD]at hI;exact cJv.mono (hI.1.t _)
    ·rw[cD]at hI;obtain⟨l,he⟩:=hI;have hd:x.items.drop i=it::x.items.drop (i+1):=by obtain⟨h1,h2⟩:=HH.1 uQ;rw[mQy h1,h2]
     rw[hd,pP]at he;refine CK (Vr.mono l) hc (hx.items it (GD uQ)) hv (fun h2 l2=>⟨_,rfl,fun h0=>?_,fun h0=>?_⟩)
     ·replace h0:cM cols yg it=0:=h0;rw[if_neg (fun g=>g h0)]at he;rw[cD];exact⟨l.trans l2,he⟩
     ·replace h0:cM cols yg it≠0:=h0;rw[if_pos h0]at he;have af:=hr h2 De (l.trans l2) rfl (fun _=>rfl);clear hr cD h0;have Ep:cM cols yg it=De:=he;rw[show cM cols (⟨yg,yo,true⟩:Qy).group it=De from Ep];cbv;exact af
    ·rw[cD]at hI;obtain⟨l,he⟩:=hI;rw[mQR (by rw[ke];exact mQt _)]at he;have he:(0:Int)=De:=he;have af:=hr h' 0 l he.symm (fun _=>rfl);clear hr cD;cbv;exact af
   have hE:=Iq (fun g=>ho g.1);clear Iq hD;rw[nM ho];cbv;repeat (first| ((try rw[ai A]);(try rw[ai A]);(first|refine aB vp rfl rfl ?_|refine aB g5 rfl rfl ?_);cbv) | (refine⟨⟨_,rfl,rfl⟩,?_⟩;cbv))
   obtain⟨R,hR⟩:∃R,ey (cM cols yg) x.items=R:=⟨_,rfl⟩;rw[hR]at hE;cases hE;obtain⟨I2,cD⟩:∃I:Nat->ad->Prop,∀i h',I i h'=(Le h5 h'/\ey (cM cols yg) (x.items.drop i)=De):=⟨_,fun _ _=>rfl⟩;have jL:I2 0 h5:=by rw[cD];exact⟨Le.refl _,hR⟩
   refine qZ ke I2 jL (fun i h' hI=>?_) (fun i it h' ib im ic hi uQ hI hv=>?_) (fun h' hI=>?_)
   ·rw[cD]at hI;exact cJv.mono (hI.1.t _)
   ·rw[cD]at hI;obtain⟨l,he⟩:=hI;have hd:x.items.drop i=it::x.items.drop (i+1):=by obtain⟨h1,h2⟩:=HH.1 uQ;rw[mQy h1,h2]
    rw[hd,pP]at he;refine CK (Vr.mono l) hc (hx.items it (GD uQ)) hv (fun h2 l2=>⟨_,rfl,fun h0=>?_,fun h0=>?_⟩)
    ·replace h0:cM cols yg it=0:=h0;rw[if_neg (fun g=>g h0)]at he;rw[cD];exact⟨l.trans l2,he⟩
    ·replace h0:cM cols yg it≠0:=h0;rw[if_pos h0]at he;have af:=hr h2 De (l.trans l2) rfl (fun _=>rfl);clear hr cD h0;have Ep:cM cols yg it=De:=he;rw[show cM cols (⟨yg,yo,true⟩:Qy).group it=De from Ep];cbv;exact af
   ·rw[cD]at hI;obtain⟨l,he⟩:=hI;rw[mQR (by rw[ke];exact mQt _)]at he;have he:(0:Int)=De:=he;have af:=hr h' 0 l he.symm (fun _=>rfl);clear hr cD;cbv;exact af
  ·rw[nM bZN];rw[nM bZN,mZx]at FK;cbv;repeat (first| (rw[ai A,ai A];refine aB Qw rfl rfl ?_;cbv) | (rw[ai A];refine aB Qw rfl rfl ?_;cbv) | (refine aB Qw rfl rfl ?_;cbv) | (rw[ai A,ai A];refine aB g rfl rfl ?_;cbv) | (rw[ai A];refine aB g rfl rfl ?_;cbv) | (refine aB g rfl rfl ?_;cbv) | (refine⟨⟨_,rfl,rfl⟩,?_⟩;cbv))
   refine No q5 ?_;rw[<-FK];cbv;repeat (first| (rw[ai A,ai A];refine aB Qw rfl rfl ?_;cbv) | (rw[ai A];refine aB Qw rfl rfl ?_;cbv) | (refine aB Qw rfl rfl ?_;cbv) | (rw[ai A,ai A];refine aB g rfl rfl ?_;cbv) | (rw[ai A];refine aB g rfl rfl ?_;cbv) | (refine aB g rfl rfl ?_;cbv) | (refine⟨⟨_,rfl,rfl⟩,?_⟩;cbv))
   first|rw[ai A] |skip
   refine ja g (by simp) (fun h5 e5=>?_);obtain⟨Vr,k5⟩:=XQ h5 e5;have vp:h5 qb=some (.cells #[.pointer (some ⟨qp,0,none⟩)] 186 (0,0)):=by rw[e5,aO gKa];exact Qw
   have Cf:bR uB h' h5:=by rw[e5];exact bR.set g (by decide)
   clear e5 XQ g FK;cases ga with
   |false=>
    rw[if_pos rfl]at hD;cases hD;have af:=hk h5 _ k5 Vr (fun _=>rfl);refine Vr.elim (fun jJH jQI jJv jJG jQH jJu jJF jQG jJt jJE jQF jJs jJD gJm jJr fJQ fQc fJM jJq jJn jJp g5 _ _ _ _ cJv _ _=>?_);clear hk;cbv;repeat (first| ((try rw[ai A]);(try rw[ai A]);(first|refine aB vp rfl rfl ?_|refine aB g5 rfl rfl ?_);cbv) | (refine⟨⟨_,rfl,rfl⟩,?_⟩;cbv))
    have nt:A .not false=true:=by rw[hA.not];rfl
    rw[nt];cbv;exact af
   |true=>
    rw[if_neg (by simp)]at hD;have nt:A .not true=false:=by rw[hA.not];rfl
    have KO:=fun h' l e=>hk h' ⟨yg,yo,true⟩ (k5.trans (Le.kp l _)) (Vr.mono l) e;clear hk;refine Vr.elim (fun jJH jQI jJv jJG jQH jJu jJF jQG jJt jJE jQF jJs jJD gJm jJr fJQ fQc fJM jJq jJn jJp g5 _ _ _ _ cJv _ _=>?_);have ke:=cJv.len;have fl:A .aI .eql (A .nat gJm) 0=decide (x.items.length=0):=by rw[aA A,hA.nat,decide_eq_decide,mQJ];omega
    have fo:A .aI .geq yo 0=decide (yo>=0):=cf A ..;have fn:A .aI .neq yo yg=decide (yo≠yg):=aC A ..;have hr:∀h' e,Le h5 h'->De=e->(De=0->Dy=⟨yg,yo,true⟩)->k (.int .i64 e) h':=fun h' e l he hy=>by rw[<-he];exact KO h' l (fun h0=>(hy h0).symm)
    clear KO;cbv;repeat (first| ((try rw[ai A]);(try rw[ai A]);(first|refine aB vp rfl rfl ?_|refine aB g5 rfl rfl ?_);cbv) | (refine⟨⟨_,rfl,rfl⟩,?_⟩;cbv))
    rw[nt];cbv;repeat (first| ((try rw[ai A]);(try rw[ai A]);(first|refine aB vp rfl rfl ?_|refine aB g5 rfl rfl ?_);cbv) | (refine⟨⟨_,rfl,rfl⟩,?_⟩;cbv))
    rw[fl];by_cases Jf:x.items.length=0
    ·rw[if_pos (.inl Jf)]at hD;cases hD;have af:=hr h5 3 (Le.refl _) rfl (fun h=>by cases h);clear hr;rw[kS Jf];cbv;exact af
    rw[nM Jf];cbv;repeat (first| ((try rw[ai A]);(try rw[ai A]);(first|refine aB vp rfl rfl ?_|refine aB g5 rfl rfl ?_);cbv) | (refine⟨⟨_,rfl,rfl⟩,?_⟩;cbv))
    rw[fo];have Iq:¬(yo>=0/\yo≠yg)->(Dy,De)=(⟨yg,yo,true⟩,ey (cM cols yg) x.items):=fun hn=>by
     rw[if_neg (by rintro(g|g)<;>contradiction)]at hD;exact hD
    by_cases ho:yo>=0
    ·rw[kS ho];cbv;repeat (first| ((try rw[ai A]);(try rw[ai A]);(first|refine aB vp rfl rfl ?_|refine aB g5 rfl rfl ?_);cbv) | (refine⟨⟨_,rfl,rfl⟩,?_⟩;cbv))
     rw[fn];by_cases hn:yo≠yg
     ·rw[if_pos (.inr ⟨ho,hn⟩)]at hD;cases hD;have af:=hr h5 3 (Le.refl _) rfl (fun h=>by cases h);clear hr Iq;rw[kS hn];cbv;exact af
     have hE:=Iq (fun g=>hn g.2);clear Iq hD;rw[nM hn];cbv;repeat (first| ((try rw[ai A]);(try rw[ai A]);(first|refine aB vp rfl rfl ?_|refine aB g5 rfl rfl ?_);cbv) | (refine⟨⟨_,rfl,rfl⟩,?_⟩;cbv))
     obtain⟨R,hR⟩:∃R,ey (cM cols yg) x.items=R:=⟨_,rfl⟩;rw[hR]at hE;cases hE;obtain⟨I2,cD⟩:∃I:Nat->ad->Prop,∀i h',I i h'=(Le h5 h'/\ey (cM cols yg) (x.items.drop i)=De):=⟨_,fun _ _=>rfl⟩;have jL:I2 0 h5:=by rw[cD];exact⟨Le.refl _,hR⟩
     refine qZ ke I2 jL (fun i h' hI=>?_) (fun i it h' ib im ic hi uQ hI hv=>?_) (fun h' hI=>?_)
     ·rw[cD]at hI;exact cJv.mono (hI.1.t _)
     ·rw[cD]at hI;obtain⟨l,he⟩:=hI;have hd:x.items.drop i=it::x.items.drop (i+1):=by obtain⟨h1,h2⟩:=HH.1 uQ;rw[mQy h1,h2]
      rw[hd,pP]at he;refine CK (Vr.mono l) hc (hx.items it (GD uQ)) hv (fun h2 l2=>⟨_,rfl,fun h0=>?_,fun h0=>?_⟩)
      ·replace h0:cM cols yg it=0:=h0;rw[if_neg (fun g=>g h0)]at he;rw[cD];exact⟨l.trans l2,he⟩
      ·replace h0:cM cols yg it≠0:=h0;rw[if_pos h0]at he;have af:=hr h2 De (l.trans l2) rfl (fun _=>rfl);clear hr cD h0;have Ep:cM cols yg it=De:=he;rw[show cM cols (⟨yg,yo,true⟩:Qy).group it=De from Ep];cbv;exact af
     ·rw[cD]at hI;obtain⟨l,he⟩:=hI;rw[mQR (by rw[ke];exact mQt _)]at he;have he:(0:Int)=De:=he;have af:=hr h' 0 l he.symm (fun _=>rfl);clear hr cD;cbv;exact af
    have hE:=Iq (fun g=>ho g.1);clear Iq hD;rw[nM ho];cbv;repeat (first| ((try rw[ai A]);(try rw[ai A]);(first|refine aB vp rfl rfl ?_|refine aB g5 rfl rfl ?_);cbv) | (refine⟨⟨_,rfl,rfl⟩,?_⟩;cbv))
    obtain⟨R,hR⟩:∃R,ey (cM cols yg) x.items=R:=⟨_,rfl⟩;rw[hR]at hE;cases hE;obtain⟨I2,cD⟩:∃I:Nat->ad->Prop,∀i h',I i h'=(Le h5 h'/\ey (cM cols yg) (x.items.drop i)=De):=⟨_,fun _ _=>rfl⟩;have jL:I2 0 h5:=by rw[cD];exact⟨Le.refl _,hR⟩
    refine qZ ke I2 jL (fun i h' hI=>?_) (fun i it h' ib im ic hi uQ hI hv=>?_) (fun h' hI=>?_)
    ·rw[cD]at hI;exact cJv.mono (hI.1.t _)
    ·rw[cD]at hI;obtain⟨l,he⟩:=hI;have hd:x.items.drop i=it::x.items.drop (i+1):=by obtain⟨h1,h2⟩:=HH.1 uQ;rw[mQy h1,h2]
     rw[hd,pP]at he;refine CK (Vr.mono l) hc (hx.items it (GD uQ)) hv (fun h2 l2=>⟨_,rfl,fun h0=>?_,fun h0=>?_⟩)
     ·replace h0:cM cols yg it=0:=h0;rw[if_neg (fun g=>g h0)]at he;rw[cD];exact⟨l.trans l2,he⟩
     ·replace h0:cM cols yg it≠0:=h0;rw[if_pos h0]at he;have af:=hr h2 De (l.trans l2) rfl (fun _=>rfl);clear hr cD h0;have Ep:cM cols yg it=De:=he;rw[show cM cols (⟨yg,yo,true⟩:Qy).group it=De from Ep];cbv;exact af
    ·rw[cD]at hI;obtain⟨l,he⟩:=hI;rw[mQR (by rw[ke];exact mQt _)]at he;have he:(0:Int)=De:=he;have af:=hr h' 0 l he.symm (fun _=>rfl);clear hr cD;cbv;exact af
theorem fZO{h:ad}{z:Int}{m:Nat}(hz:aS z m)(hm:m<=2^38):
 Ct 252 [.slice none 0 0,.int .i64 z] h (fun v h'=>Le h h'/\∃b' c',v=.slice b' 0 c'/\cF 61 bq h h' (.slice b' 0 c') ([]:List cO)):=by
 obtain⟨A,hA⟩:=Ar.ex;have h0:aS (A .nat 0) 0:=aS.nat 0;have hw:=hz.sub (A:=A) (h0.sub (A:=A) h0 (by omega) (by omega)) (by omega) (by omega);simp only[mJh,mXA]at hw;refine ah A (ax gQk.aK gQk.bF) Tryz.func252 rfl (by kernel_rfl) ?_;cbv;rw[hz.Ed (A:=A)];cbv;generalize eg:A .aI .gtr (A .bB .sub .i64 z (A .bB .sub .i64 (A .nat 0) (A .nat 0))) 0=u;generalize ew:A .bB .sub .i64 z (A .bB .sub .i64 (A .nat 0) (A .nat 0))=w at hw eg;rw[bO A]at eg;cases u with
 |true=>
  have hp:=mQB eg;have RF:0<m:=by have:=hw.eq;omega
  cbv;have MG:(0:Int)<=A .nat 0/\A .nat 0<=((0:Nat):Int):=by have:=h0.eq;omega
  refine⟨MG,?_⟩;cbv;refine⟨yy hw (by omega) (by decide),?_⟩;cbv;rw[fh (A:=A) hw,fh (A:=A) h0];refine pU (s:=bq) (xs:=([]:List cO)) Sl.nil (by omega) rfl (by decide) (by omega) rfl rfl (fun nb c h1 gY l1 hc ho=>?_);rw[mQY];have cJ:(0:Int)<=A .nat 0/\A .nat 0<=((c:Nat):Int):=by have:=h0.eq;omega
  cbv;refine⟨cJ,?_⟩;cbv;rw[fh (A:=A) h0,Da (A:=A)];exact⟨l1,_,_,rfl,ho.buf gY rfl⟩
 |false=>cbv;exact⟨Le.refl _,_,_,rfl,cF.nil⟩
theorem cZa{L:List (List cO)}{h:ad}{b:Option Addr}{n c:Nat}(q:Sl 59 (mW 61 bq) h (.slice b n c) L)(hn:L.flatten.length<=2^38):
 Ct 190 [.slice b n c] h (fun v h'=>Le h h'/\∃b' n' c',v=.slice b' n' c'/\cF 61 bq h h' (.slice b' n' c') L.flatten):=by
 obtain⟨A,hA⟩:=Ar.ex;have hlen:=q.len;obtain⟨lY,jq⟩:=q.bound;refine ah A (ax gXb.aK gXb.bF) Tryz.func190 rfl (by kernel_rfl) ?_;cbv;refine aX.go (G:=Int×Int) (fun g=>[(11,.v (.int .i64 g.1)),(3,.v (.int .i64 g.2))]) (fun _=>[])
  (fun k g h'=>∃i:Nat,aS g.1 i/\k=n-i/\i<=n/\h'=h/\aS g.2 (L.take i).flatten.length) n (0,0) ⟨?_,?_,?_⟩ ⟨0,⟨rfl⟩,by omega,by omega,rfl,⟨rfl⟩⟩ ?_
 ·cbv
 ·cbv
 ·cbv
 ·intro k g h' hI;cbv;obtain⟨i,hz,hk,hi,rfl,hw⟩:=hI;refine bh (fun hc=>?_) (fun hc=>?_)
  ·have aP:=hz.lt hc;clear hc;cbv;obtain⟨x,hx⟩:=aE (xs:=L) (i:=i) (by omega);refine⟨⟨q.aT (by omega),hz.ix aP⟩,?_⟩;cbv;refine q.load hx hz.eq (fun cs ay=>?_);obtain⟨v,rfl,hv⟩:=ay;obtain⟨b1,l1,c1,rfl⟩:=hv.form;have wE:=hv.len;have hle:=zC L (i+1);rw[lH hx,nX,<-wE]at hle;have vj:=hw.add (A:=A) (aS.nat (A:=A) l1) (by omega);have NM:=lH hx;cbv;rw[vj.Ed (A:=A)];cbv;refine⟨n-(i+1),(_,A .bB .add .i64 g.2 (A .nat l1)),by omega,⟨?_,?_,?_⟩,i+1,hz.succ (A:=A) (by omega),rfl,by omega,rfl,?_⟩
   ·cbv
   ·cbv
   ·cbv
   ·rw[NM,nX,<-wE];exact vj
  ·have lN:=hz.ge hc;have fZ:i=n:=by omega
   rw[mQM (by omega)]at hw;obtain⟨z,w⟩:=g;have hw:aS w L.flatten.length:=hw;cbv;refine(fZO hw hn).mono (fun v h1 hR=>?_);obtain⟨l1,b1,c1,rfl,hb⟩:=hR;cbv;refine aX.go (G:=Int×Option Addr×Nat×Nat) (fun g=>[(27,.v (.int .i64 g.1)),(6,.v (.slice g.2.1 g.2.2.1 g.2.2.2))]) (fun _=>[])
    (fun k g h2=>∃i:Nat,aS g.1 i/\k=n-i/\i<=n/\Le h' h2/\cF 61 bq h' h2 (.slice g.2.1 g.2.2.1 g.2.2.2) (L.take i).flatten) n (0,b1,0,c1) ⟨?_,?_,?_⟩ ⟨0,⟨rfl⟩,by omega,by omega,l1,hb⟩ ?_
   ·cbv
   ·cbv
   ·cbv
   ·intro k g h2 hI;cbv;obtain⟨i,hz,hk,hi,hle,hb⟩:=hI;obtain⟨z,gb,gl,gc⟩:=g;have hz:aS z i:=hz;have hb:cF 61 bq h' h2 (.slice gb gl gc) (L.take i).flatten:=hb;refine bh (fun hc=>?_) (fun hc=>?_)
    ·have aP:=hz.lt hc;clear hc;cbv;obtain⟨x,hx⟩:=aE (xs:=L) (i:=i) (by omega);refine⟨⟨q.aT (by omega),hz.ix aP⟩,?_⟩;cbv;refine(q.mono (hle.t _)).load hx hz.eq (fun cs ay=>?_);obtain⟨v,rfl,hv⟩:=ay;obtain⟨b2,l2,c2,rfl⟩:=hv.form;have pz:=hv.len;have An:gl=(L.take i).flatten.length:=hb.sl.len;have eE:=zC L (i+1);have NM:=lH hx;rw[NM,nX,<-pz,<-An]at eE;cbv;refine hb.append hv (by decide) rfl (by decide) (by omega) hle (fun m b' c' h3 hm l3 t3 k3 ry=>?_);cbv;refine⟨n-(i+1),(_,b',m,c'),by omega,⟨?_,?_,?_⟩,i+1,hz.succ (A:=A) (by omega),rfl,by omega,l3,?_⟩
     ·cbv
     ·cbv
     ·cbv
     ·rw[NM];exact ry
    ·have lN:=hz.ge hc;cbv;rw[mQM (by omega)]at hb;exact⟨hle,_,_,_,rfl,hb⟩
structure FT(B h:ad)(ob:Nat)(nb:Option Nat)(l:List Row):Prop where
 out:∃b n c,h ob=some (.cells #[.slice b n c] 34 (0,0))/\Bx 59 aD B h nb (.slice b n c) l
 le:Le B h
 no:B ob=none
theorem FT.mono{B h h':ad}{ob:Nat}{nb:Option Nat}{l:List Row}(q:FT B h ob nb l)(hl:Le h h'):FT B h' ob nb l:=by obtain⟨b,n,c,g,qb⟩:=q.out;exact⟨⟨b,n,c,hl _ _ g,qb.mono (hl.t _)⟩,q.le.trans hl,q.no⟩
def vV(x:aJ)(cols:List cK)(a b:Row)(out:List Row):List Row×Int:=match dt x.on cols (a++b)with
 | (on,e)=>if e≠0 then(out,e)else if on=false then(out,0)else match dt x.bV cols (a++b)with
  | (is,e)=>if e≠0 then(out,e)else(if is=true then out++[a++b]else out,0)
theorem xH(x:aJ)(cols:List cK)(a b:Row)(bs out:List Row):gX x cols a (b::bs) out=if(vV x cols a b out).2≠0 then vV x cols a b out else gX x cols a bs (vV x cols a b out).1:=by
 show(match dt x.on cols (a++b)with
  | (on,e)=>if e≠0 then(out,e)else if on=false then gX x cols a bs out else match dt x.bV cols (a++b)with
   | (is,e)=>if e≠0 then(out,e)else gX x cols a bs (if is=true then out++[a++b]else out))=_
 unfold vV;generalize dt x.on cols (a++b)=H;obtain⟨on,e⟩:=H;generalize dt x.bV cols (a++b)=H2;obtain⟨is,e2⟩:=H2;by_cases h0:e=0
 ·subst h0;cases on with
  |false=>simp
  |true=>
   by_cases h2:e2=0
   ·simp[h2]
   ·simp[h2]
 ·simp[h0]
theorem dXP{B h:ad}{ob:Nat}{nb:Option Nat}{l:List Row}(qo:FT B h ob nb l)(hl:l.length<=2^37){qp qb:Nat}{x:aJ}{cols:List cK}{y:Qy}(q:oC B qp x cols y)(gb:B qb=some (.cells #[.pointer (some ⟨qp,0,none⟩)] 186 (0,0)))(hx:dr x)(hc:∀c∈cols,Nm c.name)
 {a b:Row} (ha:fS a) (hb:fS b) (Gn:a.length+b.length<=2^30) {xp:Nat} {ab:Option Addr} {an ac:Nat} (gx:h xp=some (.cells #[.slice ab an ac] 59 (0,0))) (qa:Sl 61 bq h (.slice ab an ac) a) {bb:Option Addr} {bn bc:Nat} (jQh:Sl 61 bq h (.slice bb bn bc) b)
 {D:List Row×Int} (hD:D=vV x cols a b l) {k:Value->ad->Prop}
 (hk:∀h' px,FT B h' ob px D.1->(px=nb\/∃j,px=some j/\h j=none)->Kp (ob::nb.toList) h h'->k (.int .i64 D.2) h'):
 Ct 189 [.slice bb bn bc,.pointer (some ⟨xp,0,none⟩),.pointer (some ⟨qb,0,none⟩),.pointer (some ⟨ob,0,none⟩)] h k:=by
 obtain⟨A,hA⟩:=Ar.ex;have l0:=qo.le;have gK:=qo.no;have jZN:=l0 _ _ gb;replace hD:D=match dt x.on cols (a++b)with
  | (on,e)=>if e≠0 then(l,e)else if on=false then(l,0)else match dt x.bV cols (a++b)with
   | (is,e)=>if e≠0 then(l,e)else(if is=true then l++[a++b]else l,0):=hD
 have fZ:fS (a++b):=fun v hv=>by
  rcases mQv.1 hv with hv|hv
  ·exact ha v hv
  ·exact hb v hv
 refine(q.mono l0).elim (fun b5 n5 c5 b6 n6 c6 b7 n7 c7 b8 n8 c8 b9 n9 c9 gW jD gT cb cn cc g q1 q2 q3 q4 q5 q6 q7=>?_);clear q1 q3 q4 q5;refine ah A (ax gXc.aK gXc.bF) Tryz.func189 rfl (by kernel_rfl) ?_;cbv;refine aB gx rfl rfl ?_;cbv;intro t2 h1 f1 e1;have l1:Le h h1:=by rw[e1];exact Le.set f1
 have qL:Sl 59 (mW 61 bq) h1 (.slice (some ⟨t2,0,none⟩) 2 2) [a,b]:=by
  refine Sl.fresh (s:=mW 61 bq) (h:=h1) (n:=t2) (xs:=[a,b]) (cap:=2) (c:=[.slice ab an ac,.slice bb bn bc]) (by rw[e1];exact ae) ⟨mQt 2,fun i x hx=>?_⟩ (by show 2<=_;omega) (mQt 2)
  match i,hx with
  |0,hx=>cases hx;exact⟨_,rfl,qa.mono (l1.t _)⟩
  |1,hx=>cases hx;exact⟨_,rfl,jQh.mono (l1.t _)⟩
  |i+2,hx=>simp at hx
 clear e1;cbv;refine(cZa qL (by simp;omega)).mono (fun v h2 hR=>?_);obtain⟨l2,rb,rn,rc,hv,qr⟩:=hR;subst hv;rw[show [a,b].flatten=a++b by simp]at qr;have jZ:=l1.trans l2;have yY:=jZ _ _ jZN;have g2:=jZ _ _ g;have jQc:=qo.mono jZ;clear qL qa jQh gx;cbv;repeat (first| ((try rw[ai A]);(try rw[ai A]);(first|refine aB yY rfl rfl ?_|refine aB g2 rfl rfl ?_);cbv) | (refine⟨⟨_,rfl,rfl⟩,?_⟩;cbv))
 refine MN hx.on hc fZ (q2.mono (jZ.t _)) (q7.mono (jZ.t _)) qr.sl (fun h3 t e l3 ht=>?_);rw[<-ht]at hD;replace hD:D=if e≠0 then(l,e)else if t=false then(l,0)else match dt x.bV cols (a++b)with
  | (is,e)=>if e≠0 then(l,e)else(if is=true then l++[a++b]else l,0):=hD
 have fe:A .aI .neq e 0=decide (e≠0):=aC A ..;have AV:A .not t= !t:=by rw[hA.not]
 have rL:=jZ.trans l3;have gJc:=jQc.mono l3;by_cases h0:e≠0
 ·rw[if_pos h0]at hD;subst hD;have af:=hk h3 nb gJc (.inl rfl) (rL.kp _);clear hk;cbv;rw[fe,kS h0];cbv;exact af
 rw[if_neg h0]at hD;have e0:e=0:=mQW.1 h0;subst e0;cases t with
 |false=>rw[if_pos rfl]at hD;subst hD;have af:=hk h3 nb gJc (.inl rfl) (rL.kp _);clear hk;cbv;rw[fe,nM h0];cbv;rw[AV];cbv;exact af
 |true=>
  rw[if_neg (by simp)]at hD;have Zh:=rL _ _ jZN;have g3:=rL _ _ g;cbv;rw[fe,nM h0];cbv;rw[AV];cbv;repeat (first| ((try rw[ai A]);(try rw[ai A]);(first|refine aB Zh rfl rfl ?_|refine aB g3 rfl rfl ?_);cbv) | (refine⟨⟨_,rfl,rfl⟩,?_⟩;cbv))
  refine MN hx.bV hc fZ (q6.mono (rL.t _)) (q7.mono (rL.t _)) (qr.sl.mono (l3.t _)) (fun h4 u e l4 hu=>?_);rw[<-hu]at hD;replace hD:D=if e≠0 then(l,e)else(if u=true then l++[a++b]else l,0):=hD
  have rY:=rL.trans l4;have SA:=gJc.mono l4;have aQz:A .aI .eql e 0=decide (e=0):=aA A ..;cases u with
  |false=>
   have hD:D=(l,e):=by
    rw[hD];by_cases h0:e≠0
    ·rw[if_pos h0]
    ·rw[if_neg h0,if_neg (by simp),mQW.1 h0]
   subst hD;have af:=hk h4 nb SA (.inl rfl) (rY.kp _);clear hk;cbv;exact af
  |true=>
   by_cases h1:e=0
   ·subst h1;rw[if_neg (fun g=>g rfl),if_pos rfl]at hD;subst hD;obtain⟨b1,n1,c1,go,qx⟩:=SA.out;have lB:=SA.le;have lG:n1+1<=2^39:=by have:=qx.sl.len;omega
    have kXW:=qr.sl.mono ((l3.trans l4).t _);have Ty:∀h5 j,(nb=some j\/h5 j=none)->Le h4 h5->(some j=nb\/∃i,some j=some i/\h i=none):=fun h5 j hj l5=>by
     rcases hj with hj|hj
     ·exact .inl hj.symm
     ·refine .inr ⟨j,rfl,?_⟩;cases hh:h j with
      |none=>rfl
      |some o=>rw[l5 _ _ (rY _ _ hh)]at hj;cases hj
    clear qo jQc gJc SA;cbv;rw[aQz];cbv;refine aB go rfl rfl ?_;cbv;intro t5 h5 f5 e5;have l5:Le h4 h5:=by rw[e5];exact Le.set f5
    have v5:Sl 59 aD h5 (.slice (some ⟨t5,0,none⟩) 1 1) [a++b]:=bA (s:=aD) ((congrFun e5 t5).trans ae) ⟨_,rfl,kXW.mono (l5.t _)⟩;have lQJ:=l5 _ _ go;have cKj:∀j,nb=some j->j≠ob:=fun j hj e=>by
     subst hj;obtain⟨c,fr,gg⟩:=qx.has;rw[e,go]at gg;cases gg
    clear e5;cbv;refine(qx.mono (l5.t _)).app v5 (by decide) rfl (by decide) lG (lB.trans l5) (fun j m c' h6 l6 bZs SN hj lXJ=>?_);have jZL:=bZs _ _ lQJ (fun hm=>by
     cases nb with
     |none=>cases hm
     |some i=>have:ob=i:=by simpa using hm
              exact cKj i rfl this.symm)
    have Ty:=Ty h5 j hj l5;cbv;refine ja jZL (by simp) (fun h7 e7=>?_);have af:=hk h7 (some j) ⟨⟨_,m,c',(by rw[e7];exact ae),lXJ.mono (by rw[e7];exact bR.set jZL (by decide))⟩,(fun b o hb=>by rw[e7,aO (fun e=>by rw[e,gK]at hb;cases hb)];exact l6 _ _ hb),gK⟩ Ty
     (fun b o hb hn=>by
      have n1:b≠ob:=fun e=>hn (by rw[e];exact mQE);rw[e7,aO n1];exact bZs _ _ (l5 _ _ (rY _ _ hb)) (fun hm=>hn (mQQ _ hm)))
    clear hk e7;cbv;exact af
   ·rw[if_pos h1]at hD;subst hD;have af:=hk h4 nb SA (.inl rfl) (rY.kp _);clear hk;cbv;rw[aQz,nM h1];cbv;exact af
def Fr(h:ad)(nb px:Option Nat):Prop:=∀j o,px=some j->h j=some o->nb=some j
theorem Fr.refl{h:ad}{nb:Option Nat}:Fr h nb nb:=fun j o e _=>e
theorem Fr.of{h:ad}{nb px:Option Nat}(hh:px=nb\/∃j,px=some j/\h j=none):Fr h nb px:=fun j o e1 e2=>by
 rcases hh with hh| ⟨i,h1,h2⟩
 ·rw[<-hh];exact e1
 ·rw[h1]at e1;cases e1;rw[h2]at e2;cases e2
theorem Fr.trans{h1 h':ad}{B B':ad}{ob:Nat}{nb px Dz:Option Nat}{l l':List Row}(TD:Fr h1 nb px)(cJN:Kp (ob::nb.toList) h1 h')(q':∃b n c,h' ob=some (.cells #[.slice b n c] 34 (0,0))/\Bx 59 aD B h' px (.slice b n c) l')
 (q1:∃b n c,h1 ob=some (.cells #[.slice b n c] 34 (0,0))/\Bx 59 aD B' h1 nb (.slice b n c) l) (mY:Fr h' px Dz):Fr h1 nb Dz:=fun j o e1 e2=>by
 by_cases hm:j∈ob::nb.toList
 ·rcases mQs.1 hm with hm|hm
  ·obtain⟨b,n,c,g,qb⟩:=q';have:=mY j _ e1 (by rw[hm];exact g);subst this;obtain⟨cc,fr,gg⟩:=qb.has;rw[hm,g]at gg;cases gg
  ·cases nb with
   |none=>cases hm
   |some i=>have:j=i:=by simpa using hm
            rw[this]
 ·exact TD j o (mY j _ e1 (cJN _ _ e2 hm)) e2
theorem FT.fQB{B h h':ad}{ob:Nat}{nb:Option Nat}{l:List Row}(q:FT B h ob nb l)(k:Kp (ob::nb.toList) h h'){tys:List Nat}(h1:34∉tys)(h2:59∉tys):bR tys h h':=fun b c e fr hm hb=>by
 obtain⟨sb,n,cc,g,qb⟩:=q.out;refine k b _ hb (fun hn=>?_);rcases mQs.1 hn with hn|hn
 ·rw[hn,g]at hb;cases hb;exact h1 hm
 ·cases nb with
  |none=>cases hn
  |some j=>
   have:b=j:=by simpa using hn
   subst this;obtain⟨c',NQ,g'⟩:=qb.has;rw[g']at hb;cases hb;exact h2 hm
theorem Kn{x:aJ}{cols:List cK}{a b:Row}{out:List Row}:(vV x cols a b out).1.length<=out.length+1:=by
 unfold vV;generalize dt x.on cols (a++b)=H;obtain⟨on,e⟩:=H;generalize dt x.bV cols (a++b)=H2;obtain⟨is,e2⟩:=H2;by_cases h0:e=0
 ·subst h0;cases on with
  |false=>simp
  |true=>
   by_cases h2:e2=0
   ·cases is<;>simp[h2]
   ·simp[h2]
 ·simp[h0]
theorem dXQ{B h:ad}{ob:Nat}{nb:Option Nat}{l:List Row}(qo:FT B h ob nb l){qp qb:Nat}{x:aJ}{cols:List cK}{y:Qy}(q:oC B qp x cols y)(gb:B qb=some (.cells #[.pointer (some ⟨qp,0,none⟩)] 186 (0,0)))(hx:dr x)(hc:∀c∈cols,Nm c.name)
 {a:Row} (ha:fS a) {bs:List Row} (hb:∀b∈bs,fS b/\a.length+b.length<=2^30) (hl:l.length+bs.length<=2^37) {ab:Option Addr} {an ac:Nat} (qa:Sl 61 bq h (.slice ab an ac) a)
 {tb:Nat} {v1 v2 v3 v4:Value} {rb:Option Addr} {rn rc:Nat} (gt:B tb=some (.cells #[v1,v2,v3,v4,.slice rb rn rc] 51 (0,0))) (qr:Sl 59 aD B (.slice rb rn rc) bs)
 {D:List Row×Int} (hD:D=gX x cols a bs l) {k:Value->ad->Prop}
 (hk:∀h' px,FT B h' ob px D.1->Fr h nb px->Kp (ob::nb.toList) h h'->k (.int .i64 D.2) h'):
 Ct 188 [.slice ab an ac,.pointer (some ⟨tb,0,none⟩),.pointer (some ⟨qb,0,none⟩),.pointer (some ⟨ob,0,none⟩)] h k:=by
 obtain⟨A,hA⟩:=Ar.ex;refine ah A (ax gXd.aK gXd.bF) Tryz.func188 rfl (by kernel_rfl) ?_;cbv;intro xp h1 f1 e1;have l1:Le h h1:=by rw[e1];exact Le.set f1
 have jZG:h1 xp=some (.cells #[.slice ab an ac] 59 (0,0)):=by rw[e1];exact ae
 have dXW:=qo.mono l1;have cQu:xp≠ob:=fun e=>by
  obtain⟨sb,n,cc,g,-⟩:=qo.out;rw[e,g]at f1;cases f1
 have bZv:nb≠some xp:=fun e=>by
  obtain⟨sb,n,cc,g,kZg⟩:=qo.out;subst e;obtain⟨c,fr,gg⟩:=kZg.has;rw[gg]at f1;cases f1
 have Qr:=dXW.le _ _ gt;clear e1;obtain⟨I,aY⟩:∃I:Nat->ad->Prop,∀i h',I i h'=∃px l',FT B h' ob px l'/\l'.length<=l.length+i/\Fr h1 nb px/\Kp (ob::nb.toList) h1 h'/\h' xp=some (.cells #[.slice ab an ac] 59 (0,0))/\Sl 61 bq h' (.slice ab an ac) a/\gX x cols a (bs.drop i) l'=D:=⟨_,fun _ _=>rfl⟩;have hJ:I 0 h1:=by rw[aY];exact⟨nb,l,dXW,mQt _,Fr.refl,Kp.refl _ _,jZG,qa.mono (l1.t _),hD.symm⟩
 have TM:∀px,Fr h1 nb px->Fr h nb px:=fun px hh j o e1 e2=>hh j o e1 (l1 _ _ e2);cbv;rw[ai A];refine aB Qr rfl rfl ?_;cbv;refine Uo qr.len I hJ (fun i h' hI=>?_) (fun i b h' b1 n1 c1 hi cQN hI hv=>?_) (fun h' hI=>?_)
 ·rw[aY]at hI;obtain⟨px,l',q',-⟩:=hI;exact qr.mono (q'.le.t _)
 ·rw[aY]at hI;obtain⟨px,l',q',tW,TD,cJN,iZD,eKo,he⟩:=hI;have hd:bs.drop i=b::bs.drop (i+1):=by obtain⟨h1,h2⟩:=HH.1 cQN;rw[mQy h1,h2]
  have dKE:=hb b (GD cQN);have ke:i<bs.length:=(HH.1 cQN).1;rw[hd,xH]at he;have iQb:px≠some xp:=fun e=>bZv (TD xp _ e jZG);refine dXP q' (by omega) q gb hx hc ha dKE.1 dKE.2 iZD eKo hv rfl (fun h2 Dz q2 mY gJz=>⟨_,rfl,fun h0=>?_,fun h0=>?_⟩)
  ·rw[if_neg (fun g=>g h0)]at he;have kKl:xp∉ob::px.toList:=fun hm=>by
    rcases mQs.1 hm with hm|hm
    ·exact cQu hm
    ·cases px with
     |none=>cases hm
     |some j=>have:xp=j:=by simpa using hm
              exact iQb (by rw[this])
   rw[aY];refine⟨Dz,_,q2,mXW Kn (by omega),?_,?_,gJz _ _ iZD kKl,eKo.mono (q'.fQB gJz (by decide) (by decide)),he⟩
   ·exact Fr.trans TD cJN q'.out dXW.out (Fr.of mY)
   ·exact fun b' o oz hm=>gJz _ _ (cJN _ _ oz hm) (fun sH=>by
     rcases mQs.1 sH with sH|sH
     ·exact hm (by rw[sH];exact mQE)
     ·cases px with
      |none=>cases sH
      |some j=>
       have:b'=j:=by simpa using sH
       subst this;have:=TD b' o rfl oz;exact hm (mQQ _ (by rw[this];simp)))
  ·rw[if_pos h0]at he;have q3:=q2;rw[he]at q3;have Ic:=TM Dz (Fr.trans TD cJN q'.out dXW.out (Fr.of mY));have gJy:Kp (ob::nb.toList) h h2:=fun b' o oz hm=>by
    have lY:=l1 _ _ oz;refine gJz _ _ (cJN _ _ lY hm) (fun sH=>?_);rcases mQs.1 sH with sH|sH
    ·exact hm (by rw[sH];exact mQE)
    ·cases px with
     |none=>cases sH
     |some j=>
      have:b'=j:=by simpa using sH
      subst this;have:=TD b' o rfl lY;exact hm (mQQ _ (by rw[this];simp))
   have af:=hk h2 Dz q3 Ic gJy;rw[he];clear hk aY hJ;generalize D.2=De at *;cbv;exact af
 ·rw[aY]at hI;obtain⟨px,l',q',tW,TD,cJN,iZD,eKo,he⟩:=hI;rw[mQR (by rw[qr.len];exact mQt _)]at he;have he:(l',0)=D:=he;subst he;have af:=hk h' px q' (TM px TD) (fun b' o oz hm=>cJN _ _ (l1 _ _ oz) hm);clear hk aY hJ;cbv;exact af
theorem xI(x:aJ)(cols:List cK)(bs:List Row)(a:Row)(l out:List Row):cT x cols bs (a::l) out=match gX x cols a bs out with
 | (out,e)=>if e≠0 then(out,e)else cT x cols bs l out:=rfl
theorem AQ{x:aJ}{cols:List cK}{a:Row}:∀ {bs out:List Row},(gX x cols a bs out).1.length<=out.length+bs.length
 | [],out=>mQt _
 |b::bs,out=>by
  rw[xH];have h1:=Kn (x:=x) (cols:=cols) (a:=a) (b:=b) (out:=out);by_cases c:(vV x cols a b out).2≠0
  ·rw[if_pos c];simp only[mQx];omega
  ·rw[if_neg c];have:=AQ (x:=x) (cols:=cols) (a:=a) (bs:=bs) (out:=(vV x cols a b out).1);simp only[mQx];omega
theorem cJq{h:ad}{qp:Nat}{x:aJ}{cols:List cK}{y:Qy}(q:oC h qp x cols y)(hx:dr x)(hc:∀c∈cols,Nm c.name){as_ bs:List Row}(ha:∀a∈as_,fS a/\a.length<=2^20)(hb:∀b∈bs,fS b/\b.length<=2^20)(iXU:as_.length<=2^10)(Ap:bs.length<=2^10)
 {u1 u2 u3 u4 v1 v2 v3 v4:Value} (hu:oS [u1,u2,u3,u4]=true) (hv:oS [v1,v2,v3,v4]=true) {rb:Option Addr} {rn rc:Nat} (qr:Sl 59 aD h (.slice rb rn rc) as_) {sb:Option Addr} {sn sc:Nat} (qs:Sl 59 aD h (.slice sb sn sc) bs)
 {k:Value->ad->Prop} (hk:∀h' b n c nb,Le h h'->(∀j,nb=some j->h j=none)->Bx 59 aD h h' nb (.slice b n c) (cT x cols bs as_ []).1->k (.tuple #[.slice b n c,.int .i64 (cT x cols bs as_ []).2]) h'):
 Ct 101 [.pointer (some ⟨qp,0,none⟩),.agg #[u1,u2,u3,u4,.slice rb rn rc],.agg #[v1,v2,v3,v4,.slice sb sn sc]] h k:=by
 obtain⟨A,hA⟩:=Ar.ex;obtain⟨D,hD⟩:∃D,cT x cols bs as_ []=D:=⟨_,rfl⟩;rw[hD]at hk;refine ah A (ax gZl.aK gZl.bF) Tryz.func101 rfl (by kernel_rfl) ?_;cbv;intro qb h1 f1 e1;have l1:Le h h1:=by rw[e1];exact Le.set f1
 have gb:h1 qb=some (.cells #[.pointer (some ⟨qp,0,none⟩)] 186 (0,0)):=by rw[e1];exact ae
 clear e1;cbv;intro tb h2 f2 e2;have l2:Le h1 h2:=by rw[e2];exact Le.set f2
 have gt:h2 tb=some (.cells #[v1,v2,v3,v4,.slice sb sn sc] 51 (0,0)):=by rw[e2];exact ae
 clear e2;cbv;intro ob h3 f3 e3;have l3:Le h2 h3:=by rw[e3];exact Le.set f3
 have go:h3 ob=some (.cells #[.slice none 0 0] 34 (0,0)):=by rw[e3];exact ae
 clear e3;have jZ:=l1.trans l2;have aQj:Le h2 (Sx.eF h3 ob):=fun b o hb=>by
  rw[Sx.cY (fun e=>by rw[e,f3]at hb;cases hb)];exact l3 _ _ hb
 obtain⟨B,hB⟩:∃B,B=Sx.eF h3 ob:=⟨_,rfl⟩;rw[<-hB]at aQj;have cKN:Le B h3:=by rw[hB];exact Sx.fY h3 ob
 have cXd:B ob=none:=by rw[hB];exact Sx.dP h3 ob
 have uM:Le h B:=jZ.trans aQj;obtain⟨I,aY⟩:∃I:Nat->ad->Prop,∀i h',I i h'=∃nb l,FT B h' ob nb l/\l.length<=i*bs.length/\cT x cols bs (as_.drop i) l=D:=⟨_,fun _ _=>rfl⟩;have hJ:I 0 h3:=by rw[aY];exact⟨none,[],⟨⟨_,_,_,go,.inl ⟨rfl,rfl,rfl⟩⟩,cKN,cXd⟩,by simp,hD⟩
 have fin:∀h' nb l e,FT B h' ob nb l->(l,e)=D->∃b n c,h' ob=some (.cells #[.slice b n c] 34 (0,0))/\k (.tuple #[.slice b n c,.int .i64 e]) h':=fun h' nb l e q' he=>by
  obtain⟨b,n,c,g,aZn⟩:=q'.out;subst he;refine⟨b,n,c,g,hk h' b n c nb (uM.trans q'.le) (fun j hj=>?_) ?_⟩
  ·subst hj;rcases aZn with ⟨h1,-⟩ | ⟨j',cap,e1,-,e3,-⟩
   ·cases h1
   ·cases e1;cases hh:h j with
    |none=>rfl
    |some o=>rw[uM _ _ hh]at e3;cases e3
  ·rcases aZn with ⟨h1,h2,h3⟩ | ⟨j',cap,e1,e2,e3,o⟩
   ·exact .inl ⟨h1,h2,h3⟩
   ·exact .inr ⟨j',cap,e1,e2,(by
     cases hh:h j' with
     |none=>rfl
     |some o=>rw[uM _ _ hh]at e3;cases e3),o⟩
 clear hB hk;cbv;refine Zn qr.len I hJ (fun i h' hI=>?_) (fun i a h' b1 n1 c1 hi iXS hI kJy=>?_) (fun h' hI=>?_)
 ·rw[aY]at hI;obtain⟨nb,l,q',-⟩:=hI;exact qr.mono ((uM.trans q'.le).t _)
 ·rw[aY]at hI;obtain⟨nb,l,q',tW,he⟩:=hI;have hd:as_.drop i=a::as_.drop (i+1):=by obtain⟨h1,h2⟩:=HH.1 iXS;rw[mQy h1,h2]
  have jZi:=ha a (GD iXS);have ke:i<as_.length:=(HH.1 iXS).1;rw[hd,xI]at he;have iXo:i*bs.length<=2^20:=by have:i*bs.length<=2^10*2^10:=mZN (by omega) Ap;omega
  refine dXQ q' (q.mono uM) (aQj _ _ (l2 _ _ gb)) hx hc jZi.1 (fun b dKE=>⟨(hb b dKE).1,by have:=(hb b dKE).2;have:=jZi.2;omega⟩) (by omega) kJy (aQj _ _ gt) (qs.mono (uM.t _)) rfl (fun h2 Dz q2 _ _=>⟨_,rfl,fun h0=>?_,fun h0=>?_⟩)
  ·have cKg:=AQ (x:=x) (cols:=cols) (a:=a) (bs:=bs) (out:=l);generalize gX x cols a bs l=E at *;obtain⟨out,e⟩:=E;replace he:(if e≠0 then(out,e)else cT x cols bs (as_.drop (i+1)) out)=D:=he;rw[if_neg (fun g=>g h0)]at he;rw[aY];refine⟨Dz,out,q2,?_,he⟩;have:(i+1)*bs.length=i*bs.length+bs.length:=mXu _ _;have cKg:out.length<=l.length+bs.length:=cKg;omega
  ·generalize gX x cols a bs l=E at *;obtain⟨out,e⟩:=E;replace he:(if e≠0 then(out,e)else cT x cols bs (as_.drop (i+1)) out)=D:=he;rw[if_pos h0]at he;obtain⟨b,n,c,g,af⟩:=fin h2 Dz out e q2 he;clear fin aY hJ;cbv;refine aB g rfl rfl ?_;cbv;exact af
 ·rw[aY]at hI;obtain⟨nb,l,q',tW,he⟩:=hI;rw[mQR (by rw[qr.len];exact mQt _)]at he;have he:(l,0)=D:=he;obtain⟨b,n,c,g,af⟩:=fin h' nb l 0 q' he;clear fin aY hJ;cbv;refine aB g rfl rfl ?_;cbv;exact af
theorem Gp{xs:List Row}{h:ad}{b:Option Addr}{len cap:Nat}(q:Sl 59 aD h (.slice b len cap) xs):
 Ct 195 [.slice b len cap] h (fun v h'=>Le h h'/\∃b' ju,v=.slice b' len ju/\cF 59 aD h h' (.slice b' len ju) xs):=by
 obtain⟨A,hA⟩:=Ar.ex;refine ah A (ax gQX.aK gQX.bF) Tryz.func195 rfl (by kernel_rfl) ?_;cbv;refine bh (fun hc=>?_) (fun hc=>?_)
 ·rw[hA.HO]at hc;cbv;have hb:b=none:=by cases b<;>simp at hc |-
  subst hb;have hl:len=0:=by
   rcases mXw len with e|e
   ·exact e
   ·have:=q.aT e;cases this
  have:=q.len;have hx:xs=[]:=mQT (by omega);subst hx hl;exact⟨Le.refl _,none,0,rfl,cF.nil⟩
 ·cbv;intro n0 h1 nf iW;have hle:Le h h1:=by rw[iW];exact Le.set nf
  cbv;refine dz (q.mono (hle.t _)) (by decide) rfl (by decide) (fun hn=>?_) (fun nb c h2 e1 e2 e3 e4=>?_)
  ·cbv;have:=q.len;have hx:xs=[]:=mQT (by omega);subst hx hn;exact⟨hle,_,_,rfl,cF.nil⟩
  ·cbv;exact⟨hle.trans e3,_,_,rfl,e4.buf (hle.none e1) q.len⟩
theorem Sl.Vp{α:Type}{e:Nat}{s:Sh α}{h:ad}{b:Option Addr}{n c c':Nat}{xs:List α}(q:Sl e s h (.slice b n c) xs)(hc:n<=c'):Sl e s h (.slice b n c') xs:=by obtain⟨b',cap,h1,h2,h3,h4⟩:=q.out;cases h1;exact⟨b,c',rfl,hc,h3,h4⟩
theorem Kv{vG:Int}{n:Nat}(h:¬vG<0):min vG (n:Int)=((min vG.toNat n:Nat):Int):=by omega
theorem Pp{xs:List (Row)}{h:ad}{b:Option Addr}{n c:Nat}(q:Sl 59 aD h (.slice b n c) xs)(vG:Int){k:Value->ad->Prop}(hk:∀b' n' c',Sl 59 aD h (.slice b' n' c') (bL xs vG)->k (.slice b' n' c') h):
 Ct 194 [.slice b n c,.int .i64 vG] h k:=by
 obtain⟨A,hA⟩:=Ar.ex;have hn:=q.len;have hb:=q.bound;have f1:A .aI .lss vG 0=decide (vG<0):=bm A ..;obtain⟨m,hm⟩:∃m,A .pM vG (A .nat n)=m:=⟨_,rfl⟩;have sH:m=min vG (n:Int):=by rw[<-hm,hA.pM,hA.nat];rfl
 refine ah A (ax gQY.aK gQY.bF) Tryz.func194 rfl (by kernel_rfl) ?_;cbv;rw[f1];by_cases h0:vG<0
 ·have hP:bL xs vG=xs:=by unfold bL;rw[if_pos h0]
  rw[hP]at hk;have af:=hk b n c q;clear hk;rw[kS h0];cbv;exact af
 ·have hP:bL xs vG=xs.take vG.toNat:=by unfold bL;rw[if_neg h0]
  have FH:aS m (min vG.toNat n):=⟨sH.trans (Kv h0)⟩;have ht:xs.take vG.toNat=xs.take (min vG.toNat n):=by
   rw[hn];rcases mJH vG.toNat xs.length with h1|h1
   ·rw[mZh h1]
   ·rw[mJG h1,mQM h1,mQM (mQt _)]
  rw[hP,ht]at hk;have cJ:0<=m/\m<=(c:Int):=by have:=FH.eq;omega
  have fZc:=fh (A:=A) FH;rw[nM h0];cbv;rw[hm];cbv;refine⟨cJ,?_⟩;have hz:m-0=((min vG.toNat n:Nat):Int):=by rw[FH.eq];omega
  have af:=fun c' wG=>hk _ _ _ (Sl.Vp (q.sU (A:=A) (z:=A .nat c) (mZC vG.toNat n) rfl rfl) (c':=c') wG);clear hk;cbv;rw[fZc];exact af c (by omega)
theorem Pq{xs:List (List Row)}{h:ad}{b:Option Addr}{n c:Nat}(q:Sl 34 (mW 59 aD) h (.slice b n c) xs)(vG:Int){k:Value->ad->Prop}(hk:∀b' n' c',Sl 34 (mW 59 aD) h (.slice b' n' c') (bL xs vG)->k (.slice b' n' c') h):
 Ct 196 [.slice b n c,.int .i64 vG] h k:=by
 obtain⟨A,hA⟩:=Ar.ex;have hn:=q.len;have hb:=q.bound;have f1:A .aI .lss vG 0=decide (vG<0):=bm A ..;obtain⟨m,hm⟩:∃m,A .pM vG (A .nat n)=m:=⟨_,rfl⟩;have sH:m=min vG (n:Int):=by rw[<-hm,hA.pM,hA.nat];rfl
 refine ah A (ax gQW.aK gQW.bF) Tryz.func196 rfl (by kernel_rfl) ?_;cbv;rw[f1];by_cases h0:vG<0
 ·have hP:bL xs vG=xs:=by unfold bL;rw[if_pos h0]
  rw[hP]at hk;have af:=hk b n c q;clear hk;rw[kS h0];cbv;exact af
 ·have hP:bL xs vG=xs.take vG.toNat:=by unfold bL;rw[if_neg h0]
  have FH:aS m (min vG.toNat n):=⟨sH.trans (Kv h0)⟩;have ht:xs.take vG.toNat=xs.take (min vG.toNat n):=by
   rw[hn];rcases mJH vG.toNat xs.length with h1|h1
   ·rw[mZh h1]
   ·rw[mJG h1,mQM h1,mQM (mQt _)]
  rw[hP,ht]at hk;have cJ:0<=m/\m<=(c:Int):=by have:=FH.eq;omega
  have fZc:=fh (A:=A) FH;rw[nM h0];cbv;rw[hm];cbv;refine⟨cJ,?_⟩;have hz:m-0=((min vG.toNat n:Nat):Int):=by rw[FH.eq];omega
  have af:=fun c' wG=>hk _ _ _ (Sl.Vp (q.sU (A:=A) (z:=A .nat c) (mZC vG.toNat n) rfl rfl) (c':=c') wG);clear hk;cbv;rw[fZc];exact af c (by omega)
theorem Wx{h:ad}{qp:Nat}{x:aJ}{cols:List cK}{y:Qy}(q:oC h qp x cols y)(hg:y.group<0){rows:List Row}{rb:Option Addr}{rn rc:Nat}(qr:Sl 59 aD h (.slice rb rn rc) rows)
 {k:Value->ad->Prop} (hk:∀h' b,Le h h'->Sl 34 (mW 59 aD) h' (.slice (some ⟨b,0,none⟩) 1 1) [rows]->k (.slice (some ⟨b,0,none⟩) 1 1) h'):
 Ct 197 [.pointer (some ⟨qp,0,none⟩),.slice rb rn rc] h k:=by
 obtain⟨A,hA⟩:=Ar.ex;refine q.elim (fun b5 n5 c5 b6 n6 c6 b7 n7 c7 b8 n8 c8 b9 n9 c9 gW jD gT cb cn cc g q1 q2 q3 q4 q5 q6 q7=>?_);clear q1 q2 q3 q4 q5 q6 q7;have fo:A .aI .lss y.group 0=true:=by rw[bm A];exact kS (by omega)
 refine ah A (ax cZU.aK cZU.bF) Tryz.func197 rfl (by kernel_rfl) ?_;cbv;intro qb h1 f1 e1;have l1:Le h h1:=by rw[e1];exact Le.set f1
 have gb:h1 qb=some (.cells #[.pointer (some ⟨qp,0,none⟩)] 186 (0,0)):=by rw[e1];exact ae
 have g1:=l1 _ _ g;clear e1;cbv;repeat (first| ((try rw[ai A]);(try rw[ai A]);(first|refine aB gb rfl rfl ?_|refine aB g1 rfl rfl ?_);cbv) | (refine⟨⟨_,rfl,rfl⟩,?_⟩;cbv))
 intro ob bQd f2 e2;have cJM:Le h1 bQd:=by rw[e2];exact Le.set f2
 have eQb:bQd ob=some (.cells #[.int .i64 0] 3 (0,0)):=by rw[e2];exact ae
 clear e2;cbv;refine ja eQb (by simp) (fun h2 e2=>?_);have l2:Le h1 h2:=fun b o hb=>by rw[e2,aO (fun e=>by rw[e,f2]at hb;cases hb)];exact cJM _ _ hb
 have go:h2 ob=some (.cells #[.int .i64 y.group] 3 (0,0)):=by rw[e2];exact ae
 have jZ:=l1.trans l2;clear e2;cbv;refine aB go rfl rfl ?_;cbv;rw[fo];cbv;intro nb h3 f3 e3;have l3:Le h2 h3:=by rw[e3];exact Le.set f3
 have v3:Sl 34 (mW 59 aD) h3 (.slice (some ⟨nb,0,none⟩) 1 1) [rows]:=bA (s:=(mW 59 aD)) ((congrFun e3 nb).trans ae) ⟨_,rfl,qr.mono ((jZ.trans l3).t _)⟩;have af:=hk h3 nb (jZ.trans l3) v3;clear e3 hk;cbv;exact af
def JI(n:Nat):cO:=⟨2,n,b0⟩
theorem UF{h:ad}{qp:Value}{rb:Option Addr}{rn rc:Nat}{eb:Option Addr}{en ec:Nat}
 {k:Value->ad->Prop} (hk:∀h' N,Le h h'->N=(rn:Int)->k (.tuple #[.agg #[.int .i64 2,.int .i64 N,.string b0],.int .i64 0]) h'):
 Ct 199 [qp,.agg #[.int .i64 1,.slice eb en ec],.slice rb rn rc] h k:=by
 obtain⟨A,hA⟩:=Ar.ex;obtain⟨N,hN⟩:∃N,A .nat rn=N:=⟨_,rfl⟩;have iZg:N=(rn:Int):=by rw[<-hN,hA.nat];rfl
 refine ah A (ax cZS.aK cZS.bF) Tryz.func199 rfl (by kernel_rfl) ?_;cbv;intro qb h1 f1 e1;have l1:Le h h1:=by rw[e1];exact Le.set f1
 clear e1;cbv;intro ib h2 f2 e2;have l2:Le h1 h2:=by rw[e2];exact Le.set f2
 have gi:h2 ib=some (.cells #[.int .i64 1,.slice eb en ec] 276 (0,0)):=by rw[e2];exact ae
 clear e2;cbv;intro vb h3 f3 e3;have l3:Le h2 h3:=by rw[e3];exact Le.set f3
 have gv:h3 vb=some (.cells #[.int .i64 0,.int .i64 0,.string ⟨#[]⟩] 61 (0,0)):=by rw[e3];exact ae
 have bZZ:=l3 _ _ gi;clear e3;cbv;repeat (first| ((try rw[ai A]);(try rw[ai A]);refine aB bZZ rfl rfl ?_;cbv) | (refine⟨⟨_,rfl,rfl⟩,?_⟩;cbv))
 have f11:A .aI .eql 1 1=true:=by rw[aA A];rfl
 rw[f11];cbv;rw[hN];refine ja gv (by simp) (fun h4 e4=>?_);have l4:Le h2 h4:=fun b o hb=>by rw[e4,aO (fun e=>by rw[e,f3]at hb;cases hb)];exact l3 _ _ hb
 have Na:h4 vb=some (.cells #[.int .i64 2,.int .i64 N,.string b0] 61 (0,0)):=by rw[e4];exact ae
 clear e4;have af:=hk h4 N ((l1.trans l2).trans l4) iZg;clear hk;cbv;repeat (first| ((try rw[ai A]);(try rw[ai A]);refine aB Na rfl rfl ?_;cbv) | (refine⟨⟨_,rfl,rfl⟩,?_⟩;cbv))
 exact af
theorem cXx{B h:ad}{ob:Nat}{l:Row}(qo:Nx B h ob l)(hl:l.length<=2^30){qp qb gb:Nat}{rb:Option Addr}{rn rc:Nat}(gq:B qb=some (.cells #[.pointer (some ⟨qp,0,none⟩)] 186 (0,0)))(gg:B gb=some (.cells #[.slice rb rn rc] 34 (0,0))){eb:Option Addr}{en ec:Nat}
 {k:Value->ad->Prop} (hk:∀h',Nx B h' ob (l++[JI rn])->k (.int .i64 0) h'):
 Ct 198 [.agg #[.int .i64 1,.slice eb en ec],.pointer (some ⟨qb,0,none⟩),.pointer (some ⟨gb,0,none⟩),.pointer (some ⟨ob,0,none⟩)] h k:=by
 obtain⟨A,hA⟩:=Ar.ex;have l0:=qo.le;have gK:=qo.no;obtain⟨b,n,c,go,aZn⟩:=qo.out;have JD:=aZn.sl.len;have aQy:=l0 _ _ gq;have eQd:=l0 _ _ gg;refine ah A (ax cZT.aK cZT.bF) Tryz.func198 rfl (by kernel_rfl) ?_;cbv;repeat (first| ((try rw[ai A]);(try rw[ai A]);(first|refine aB aQy rfl rfl ?_|refine aB eQd rfl rfl ?_);cbv) | (refine⟨⟨_,rfl,rfl⟩,?_⟩;cbv))
 refine UF (fun h1 N l1 hN=>?_);have KV:=l1 _ _ go;cbv;repeat (first| ((try rw[ai A]);(try rw[ai A]);refine aB KV rfl rfl ?_;cbv) | (refine⟨⟨_,rfl,rfl⟩,?_⟩;cbv))
 intro n2 h2 g2 e2;have l2:Le h1 h2:=by rw[e2];exact Le.set g2
 have v2:Sl 61 bq h2 (.slice (some ⟨n2,0,none⟩) 1 1) [JI rn]:=bA (s:=bq) ((congrFun e2 n2).trans ae) (by rw[hN];rfl);have go2:=l2 _ _ KV;clear e2;cbv;refine(aZn.mono ((l1.trans l2).t _)).append v2 (by decide) rfl (by decide) (by omega) (l0.trans (l1.trans l2)) (fun m3 b3 c3 h3 eQE l3 t3 k3 ry=>?_);have Uk:h3 ob=some (.cells #[.slice b n c] 59 (0,0)):=t3 [59] (by decide) _ _ _ _ (mQA.2 rfl) go2;clear t3 k3 v2;cbv;refine ja Uk (by simp) (fun h4 e4=>?_);have af:=hk h4 ⟨⟨b3,m3,c3,by rw[e4];exact ae,ry.mono (by rw[e4];exact bR.set Uk (by decide))⟩,fun b' o' oz=>by rw[e4,aO (fun e=>by rw[e,gK]at oz;cases oz)];exact l3 _ _ oz,gK⟩;clear hk e4;cbv;exact af
theorem Lu{cols:List cK}{gr:Int}{g:List Row}:∀ {is:List dO} {r:Row},(∀i∈is,i.fn=1)->ki cols gr g is r=(r++List.replicate is.length (JI g.length),0)
 | [],r,_=>by show(r,0)=_;simp
 |i::is,r,h=>by
  have h1:yA cols gr i g=(JI g.length,0):=by unfold yA;rw[if_pos (h i mQE)];rfl
  show(match yA cols gr i g with
   | (v,e)=>if e≠0 then([],e)else ki cols gr g is (r++[v]))=_
  rw[h1];show(if(0:Int)≠0 then([],0)else ki cols gr g is (r++[JI g.length]))=_;rw[if_neg (fun g=>g rfl),Lu (fun j hj=>h j (mQQ _ hj))];simp[mJt]
theorem cXy{h:ad}{qp:Nat}{x:aJ}{cols:List cK}{y:Qy}(q:oC h qp x cols y)(hx:dr x)(hg:y.group<0)(DF:∀i∈x.items,i.fn=1){rows:List Row}{rb:Option Addr}{rn rc:Nat}(qr:Sl 59 aD h (.slice rb rn rc) rows)
 {k:Value->ad->Prop} (hk:∀h' b n c,Le h h'->Sl 59 aD h' (.slice b n c) (dw x cols y.group rows).1->k (.tuple #[.slice b n c,.int .i64 (dw x cols y.group rows).2]) h'):
 Ct 103 [.pointer (some ⟨qp,0,none⟩),.slice rb rn rc] h k:=by
 obtain⟨A,hA⟩:=Ar.ex;have hP:dw x cols y.group rows=gJ x cols y.group (bL [rows] x.eG) []:=by unfold dw gV;rw[if_pos hg]
 rw[hP]at hk;obtain⟨D,hD⟩:∃D,gJ x cols y.group (bL [rows] x.eG) []=D:=⟨_,rfl⟩;rw[hD]at hk;refine q.elim (fun b5 n5 c5 b6 n6 c6 b7 n7 c7 b8 n8 c8 b9 n9 c9 gW jD gT cb cn cc g q1 q2 q3 q4 q5 q6 q7=>?_);clear q1 q2 q3 q4 q6 q7;refine ah A (ax cJc.aK cJc.bF) Tryz.func103 rfl (by kernel_rfl) ?_;cbv;intro qb h1 f1 e1;have l1:Le h h1:=by rw[e1];exact Le.set f1
 have gb:h1 qb=some (.cells #[.pointer (some ⟨qp,0,none⟩)] 186 (0,0)):=by rw[e1];exact ae
 have g1:=l1 _ _ g;have q1:=q.mono l1;clear e1;cbv;repeat (first| ((try rw[ai A]);(try rw[ai A]);(first|refine aB gb rfl rfl ?_|refine aB g1 rfl rfl ?_);cbv) | (refine⟨⟨_,rfl,rfl⟩,?_⟩;cbv))
 refine Wx q1 hg (qr.mono (l1.t _)) (fun h2 bg l2 qg=>?_);have yY:=l2 _ _ gb;have g2:=l2 _ _ g1;cbv;repeat (first| ((try rw[ai A]);(try rw[ai A]);(first|refine aB yY rfl rfl ?_|refine aB g2 rfl rfl ?_);cbv) | (refine⟨⟨_,rfl,rfl⟩,?_⟩;cbv))
 refine Pq qg x.eG (fun lb ln lc qm=>?_);obtain⟨M,hM⟩:∃M,bL [rows] x.eG=M:=⟨_,rfl⟩;rw[hM]at qm hD;have iZi:M.length<=1:=by
  rw[<-hM];unfold bL;split
  ·exact mQt _
  ·rw[mQw];exact mZC _ _
 have tG:=qm.len;have jZ:=l1.trans l2;replace q5:=q5.mono (jZ.t _);have FG:=q5.len;have ke:=hx.aJU;obtain⟨I2,aY⟩:∃I:Nat->(Int×Option Addr×Nat×Nat)->ad->Prop,∀m g h',I m g h'=∃i out,aS g.1 i/\i<=ln/\m=ln-i/\Le h2 h'/\out.length=i/\cF 59 aD h2 h' (.slice g.2.1 g.2.2.1 g.2.2.2) out/\gJ x cols y.group (M.drop i) out=D:=⟨_,fun _ _ _=>rfl⟩;have hJ:I2 ln (0,none,0,0) h2:=by rw[aY];exact⟨0,[],⟨rfl⟩,mQr _,rfl,Le.refl _,rfl,cF.nil,hD⟩
 clear hM hD qg q1 q qr;cbv;repeat (refine⟨⟨_,rfl,rfl⟩,?_⟩;cbv)
 refine aX.go (G:=Int×Option Addr×Nat×Nat) (fun g=>[(21,.v (.int .i64 g.1)),(6,.v (.slice g.2.1 g.2.2.1 g.2.2.2))]) (fun _=>[]) (fun m g h'=>I2 m g h') ln (0,none,0,0) ⟨?_,?_,?_⟩ hJ ?_
 ·cbv
 ·cbv
 ·cbv
 ·intro m2 gg h4 hI;rw[aY]at hI;cbv;obtain⟨j,out,hw,hj,sH,rK,bZG,qo,hD⟩:=hI;obtain⟨w,bo,no,co⟩:=gg;replace hw:aS w j:=hw;replace qo:cF 59 aD h2 h4 (.slice bo no co) out:=qo;have f2:A .aI .lss w (A .nat ln)=decide (j<ln):=hw.iJ (aS.nat ln);have aZm:=qm.mono (rK.t _);have gK:=qo.sl.len;cbv;rw[f2];by_cases KM:j<ln
  ·obtain⟨r,Jx⟩:=aE (xs:=M) (i:=j) (by omega);have jo:0<=w/\w<(ln:Int):=hw.ix KM;have PF:=hw.eq;have VZ:=hw.succ (A:=A) (by omega);have sf:ln-(j+1)<m2:=by omega
   have Bc:M.drop j=r::M.drop (j+1):=by obtain⟨h1,h2⟩:=HH.1 Jx;rw[mQy h1,h2]
   obtain⟨RV,gKd⟩:∃RV,RV=List.replicate x.items.length (JI r.length):=⟨_,rfl⟩;rw[Bc]at hD;replace hD:(match ki cols y.group r x.items []with
    | (r,e)=>if e≠0 then([],e)else gJ x cols y.group (M.drop (j+1)) (out++[r]))=D:=hD
   rw[Lu DF,mXO,<-gKd]at hD;replace hD:(if(0:Int)≠0 then([],0)else gJ x cols y.group (M.drop (j+1)) (out++[RV]))=D:=hD;rw[if_neg (fun g=>g rfl)]at hD;have jd:∀h5 b5 m5 c5,Le h2 h5->m5=no+1->cF 59 aD h2 h5 (.slice b5 m5 c5) (out++[RV])->I2 (ln-(j+1)) (A .bB .add .i64 w 1,b5,m5,c5) h5:=fun h5 b5 m5 c5 l5 cXJ o5=>by
    rw[aY];exact⟨j+1,out++[RV],VZ,KM,rfl,l5,by rw[nX,mQu,bZG],o5,hD⟩
   have Tp:=aZm.aT (by omega:0<ln);have g4:=rK _ _ g2;have RQ:=rK _ _ yY;clear aY hJ VZ;rw[kS KM];cbv;refine⟨⟨Tp,jo⟩,?_⟩;cbv;refine bZ aZm Jx PF (fun br nr cr uG=>?_);have kJX:=uG.len;cbv;intro gx fZG f5 e5;have hJV:Le h4 fZG:=by rw[e5];exact Le.set f5
   have eQc:fZG gx=some (.cells #[.slice none 0 0] 34 (0,0)):=by rw[e5];exact ae
   clear e5;cbv;refine ja eQc (by simp) (fun h5 e5=>?_);have l5:Le h4 h5:=fun b o hb=>by rw[e5,aO (fun e=>by rw[e,f5]at hb;cases hb)];exact hJV _ _ hb
   have iZM:h5 gx=some (.cells #[.slice br nr cr] 34 (0,0)):=by rw[e5];exact ae
   clear e5;cbv;intro ox h6 f6 e6;have l6:Le h5 h6:=by rw[e6];exact Le.set f6
   have iZI:h6 ox=some (.cells #[.slice none 0 0] 59 (0,0)):=by rw[e6];exact ae
   have dJa:Le h5 (Sx.eF h6 ox):=fun b o hb=>by
    rw[Sx.cY (fun e=>by rw[e,f6]at hb;cases hb)];exact l6 _ _ hb
   clear e6;obtain⟨B,hB⟩:∃B,B=Sx.eF h6 ox:=⟨_,rfl⟩;rw[<-hB]at dJa;have iZt:Le B h6:=by rw[hB];exact Sx.fY h6 ox
   have cXd:B ox=none:=by rw[hB];exact Sx.dP h6 ox
   have bZq:Le h4 B:=l5.trans dJa;obtain⟨J,dY⟩:∃J:Nat->ad->Prop,∀i h',J i h'=Nx B h' ox (List.replicate i (JI r.length)):=⟨_,fun _ _=>rfl⟩;have MX:J 0 h6:=by rw[dY];exact⟨⟨none,0,0,iZI,cF.nil⟩,iZt,cXd⟩
   have g6:=l5.trans l6 _ _ g4;have eQh:=l5.trans l6 _ _ RQ;have hJh:=q5.mono (rK.t _);clear hB;cbv;repeat (first| ((try rw[ai A]);(try rw[ai A]);(first|refine aB eQh rfl rfl ?_|refine aB g6 rfl rfl ?_);cbv) | (refine⟨⟨_,rfl,rfl⟩,?_⟩;cbv))
   refine Fe FG J MX (fun i h' hI=>?_) (fun i it h' b1 n1 c1 hi JA hI hv=>?_) (fun h' hI=>?_)
   ·rw[dY]at hI;exact hJh.mono ((bZq.trans hI.le).t _)
   ·rw[dY]at hI;rw[DF it (GD JA)];refine cXx hI (by rw[mKI];omega) (bZq _ _ RQ) (dJa _ _ iZM) (fun h7 q7=>⟨0,rfl,fun _=>?_,fun h0=>absurd rfl h0⟩);rw[kJX,<-List.replicate_succ']at q7;rw[dY];exact q7
   ·rw[dY]at hI;obtain⟨b7,n7,c7,g7,gJe⟩:=hI.out;have l7:Le h4 h':=bZq.trans hI.le;have fe:A .aI .neq 0 0=false:=by rw[aC A];rfl
    rw[FG,<-gKd]at gJe;cbv;rw[fe];cbv;repeat (first| ((try rw[ai A]);(try rw[ai A]);refine aB g7 rfl rfl ?_;cbv) | (refine⟨⟨_,rfl,rfl⟩,?_⟩;cbv))
    refine(mU gJe.sl).mono (fun v8 h8 hR=>?_);obtain⟨l8,b8,c8,iQh,hZM⟩:=hR;subst iQh;cbv;intro eKY h9 f9 e9;have l9:Le h8 h9:=by rw[e9];exact Le.set f9
    have v9:Sl 59 aD h9 (.slice (some ⟨eKY,0,none⟩) 1 1) [RV]:=bA (s:=aD) ((congrFun e9 eKY).trans ae) ⟨_,rfl,hZM.sl.mono (l9.t _)⟩;clear e9;cbv;refine(qo.mono ((l7.trans (l8.trans l9)).t _)).append v9 (by decide) rfl (by decide) (by omega) (rK.trans (l7.trans (l8.trans l9))) (fun Gh gW gT fL wH fU t10 yS jN=>?_);clear t10 yS v9;have af:=jd fL gW Gh gT fU wH jN;clear jd hk dY MX;cbv;refine⟨ln-(j+1),(A .bB .add .i64 w 1,gW,Gh,gT),sf,⟨?_,?_,?_⟩,af⟩
    ·cbv
    ·cbv
    ·cbv
  ·have KP:j=ln:=by omega
   rw[mQR (by omega)]at hD;replace hD:(out,0)=D:=hD;subst hD;clear aY hJ;rw[nM KM];cbv;refine(Gp qo.sl).mono (fun v5 h5 hR=>?_);obtain⟨l5,b5,c5,aKh,Sy⟩:=hR;subst aKh;have af:=hk h5 b5 no c5 (jZ.trans (rK.trans l5)) Sy.sl;clear hk;cbv;exact af
end Go.S
