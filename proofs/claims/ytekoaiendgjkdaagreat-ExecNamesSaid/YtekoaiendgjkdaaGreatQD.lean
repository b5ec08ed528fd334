import Derived.Test.YtekoaiendgjkdaaGreatQC
import Derived.Test.YtekoaiendgjkdaaGreatEA
set_option linter.unusedVariables false
set_option linter.unusedSimpArgs false
set_option linter.unusedSectionVars false
set_option maxRecDepth 100000
set_option maxHeartbeats 8000000
namespace Go.S
open Go.Sx Go.Proofs
theorem SK{h:ad}{qp qb:Nat}{x:aB}{cols:List bM}{y:Qy}(q:kV h qp x cols y)(gb:h qb=some (.cells #[.pointer (some ⟨qp,0,none⟩)] 186 (0,0)))(hx:eO x)(hc:∀c∈cols,Nm c.name){k:Value->ad->Prop}
 (hk:∀h',Le h h'->k (.int .i64 (aG x.on cols)) h'):Ct 175 [.pointer (some ⟨qb,0,none⟩)] h k:=by
 obtain⟨A,hA⟩:=Ar.ex;refine q.elim (fun b5 n5 c5 b6 n6 c6 b7 n7 c7 b8 n8 c8 b9 n9 c9 eQ fJ eP cb cn cc g q1 q2 q3 q4 q5 q6 q7=>?_);refine ah A (aq Zv.ax Zv.bm) Tryz.func175 rfl (by kernel_rfl) ?_;cbv;repeat (first| (rw[ai A,ai A];refine ar gb rfl rfl ?_;cbv) | (rw[ai A];refine ar gb rfl rfl ?_;cbv) | (refine ar gb rfl rfl ?_;cbv) | (rw[ai A,ai A];refine ar g rfl rfl ?_;cbv) | (rw[ai A];refine ar g rfl rfl ?_;cbv) | (refine ar g rfl rfl ?_;cbv) | (refine⟨⟨_,rfl,rfl⟩,?_⟩;cbv))
 refine mL hx.on hc q2 q7 (fun h1 e l1 he=>?_);rw[<-he]at hk;have af:=hk h1 l1;clear hk he;cbv;exact af
theorem SH{h:ad}{qp qb:Nat}{x:aB}{cols:List bM}{y:Qy}(q:kV h qp x cols y)(gb:h qb=some (.cells #[.pointer (some ⟨qp,0,none⟩)] 186 (0,0)))(hx:eO x)(hc:∀c∈cols,Nm c.name){k:Value->ad->Prop}
 (hk:∀h',Le h h'->k (.int .i64 (aG x.bB cols)) h'):Ct 176 [.pointer (some ⟨qb,0,none⟩)] h k:=by
 obtain⟨A,hA⟩:=Ar.ex;refine q.elim (fun b5 n5 c5 b6 n6 c6 b7 n7 c7 b8 n8 c8 b9 n9 c9 eQ fJ eP cb cn cc g q1 q2 q3 q4 q5 q6 q7=>?_);refine ah A (aq Zu.ax Zu.bm) Tryz.func176 rfl (by kernel_rfl) ?_;cbv;repeat (first| (rw[ai A,ai A];refine ar gb rfl rfl ?_;cbv) | (rw[ai A];refine ar gb rfl rfl ?_;cbv) | (refine ar gb rfl rfl ?_;cbv) | (rw[ai A,ai A];refine ar g rfl rfl ?_;cbv) | (rw[ai A];refine ar g rfl rfl ?_;cbv) | (refine ar g rfl rfl ?_;cbv) | (refine⟨⟨_,rfl,rfl⟩,?_⟩;cbv))
 refine mL hx.bB hc q6 q7 (fun h1 e l1 he=>?_);rw[<-he]at hk;have af:=hk h1 l1;clear hk he;cbv;exact af
theorem SF{h:ad}{qp qb:Nat}{x:aB}{cols:List bM}{y:Qy}(q:kV h qp x cols y)(gb:h qb=some (.cells #[.pointer (some ⟨qp,0,none⟩)] 186 (0,0)))(hx:eO x)(hc:∀c∈cols,Nm c.name){k:Value->ad->Prop}
 (hk:∀h',Kp [qp] h h'->kV h' qp x cols ⟨(aV x.group cols).1,y.order,y.kU⟩->k (.int .i64 (aV x.group cols).2) h'):Ct 180 [.pointer (some ⟨qb,0,none⟩)] h k:=by
 obtain⟨A,hA⟩:=Ar.ex;refine q.elim (fun b5 n5 c5 b6 n6 c6 b7 n7 c7 b8 n8 c8 b9 n9 c9 eQ fJ eP cb cn cc g q1 q2 q3 q4 q5 q6 q7=>?_);refine ah A (aq Zr.ax Zr.bm) Tryz.func180 rfl (by kernel_rfl) ?_;cbv;repeat (first| (rw[ai A,ai A];refine ar gb rfl rfl ?_;cbv) | (rw[ai A];refine ar gb rfl rfl ?_;cbv) | (refine ar gb rfl rfl ?_;cbv) | (rw[ai A,ai A];refine ar g rfl rfl ?_;cbv) | (rw[ai A];refine ar g rfl rfl ?_;cbv) | (refine ar g rfl rfl ?_;cbv) | (refine⟨⟨_,rfl,rfl⟩,?_⟩;cbv))
 refine D5 q hc hx.group (fun h1 l1=>?_);have Nw:=l1 _ _ gb;have g1:=l1 _ _ g;have ed:bE lO h h1:=l1.t _;generalize aV x.group cols=E at *;obtain⟨e1,e2⟩:=E;cbv;repeat (first| (rw[ai A,ai A];refine ar Nw rfl rfl ?_;cbv) | (rw[ai A];refine ar Nw rfl rfl ?_;cbv) | (refine ar Nw rfl rfl ?_;cbv) | (refine⟨⟨_,rfl,rfl⟩,?_⟩;cbv))
 first|rw[ai A] |skip
 refine eH g1 (by simp) (fun h2 wz=>?_);have gE:bE lO h1 h2:=by rw[wz];exact bE.set g1 (by decide)
 have lt:=ed.trans gE;have af:=hk h2 (fun b o hb hn=>by rw[wz,av (by simpa using hn)];exact l1 _ _ hb) ⟨b5,n5,c5,b6,n6,c6,b7,n7,c7,b8,n8,c8,b9,n9,c9,eQ,fJ,eP,cb,cn,cc,(by rw[wz,ae];rfl),q1.mono (lt.sub (by decide)),q2.mono (lt.sub (by decide)),q3.mono (lt.sub (by decide)),q4.mono (lt.sub (by decide)),q5.mono (lt.sub (by decide)),q6.mono (lt.sub (by decide)),q7.mono (lt.sub (by decide))⟩;clear hk wz;cbv;exact af
theorem SE{h:ad}{qp qb:Nat}{x:aB}{cols:List bM}{y:Qy}(q:kV h qp x cols y)(gb:h qb=some (.cells #[.pointer (some ⟨qp,0,none⟩)] 186 (0,0)))(hx:eO x)(hc:∀c∈cols,Nm c.name){k:Value->ad->Prop}
 (hk:∀h',Kp [qp] h h'->kV h' qp x cols ⟨y.group,(aV x.order cols).1,y.kU⟩->k (.int .i64 (aV x.order cols).2) h'):Ct 182 [.pointer (some ⟨qb,0,none⟩)] h k:=by
 obtain⟨A,hA⟩:=Ar.ex;refine q.elim (fun b5 n5 c5 b6 n6 c6 b7 n7 c7 b8 n8 c8 b9 n9 c9 eQ fJ eP cb cn cc g q1 q2 q3 q4 q5 q6 q7=>?_);refine ah A (aq Zp.ax Zp.bm) Tryz.func182 rfl (by kernel_rfl) ?_;cbv;repeat (first| (rw[ai A,ai A];refine ar gb rfl rfl ?_;cbv) | (rw[ai A];refine ar gb rfl rfl ?_;cbv) | (refine ar gb rfl rfl ?_;cbv) | (rw[ai A,ai A];refine ar g rfl rfl ?_;cbv) | (rw[ai A];refine ar g rfl rfl ?_;cbv) | (refine ar g rfl rfl ?_;cbv) | (refine⟨⟨_,rfl,rfl⟩,?_⟩;cbv))
 refine D5 q hc hx.order (fun h1 l1=>?_);have Nw:=l1 _ _ gb;have g1:=l1 _ _ g;have ed:bE lO h h1:=l1.t _;generalize aV x.order cols=E at *;obtain⟨e1,e2⟩:=E;cbv;repeat (first| (rw[ai A,ai A];refine ar Nw rfl rfl ?_;cbv) | (rw[ai A];refine ar Nw rfl rfl ?_;cbv) | (refine ar Nw rfl rfl ?_;cbv) | (refine⟨⟨_,rfl,rfl⟩,?_⟩;cbv))
 first|rw[ai A] |skip
 refine eH g1 (by simp) (fun h2 wz=>?_);have gE:bE lO h1 h2:=by rw[wz];exact bE.set g1 (by decide)
 have lt:=ed.trans gE;have af:=hk h2 (fun b o hb hn=>by rw[wz,av (by simpa using hn)];exact l1 _ _ hb) ⟨b5,n5,c5,b6,n6,c6,b7,n7,c7,b8,n8,c8,b9,n9,c9,eQ,fJ,eP,cb,cn,cc,(by rw[wz,ae];rfl),q1.mono (lt.sub (by decide)),q2.mono (lt.sub (by decide)),q3.mono (lt.sub (by decide)),q4.mono (lt.sub (by decide)),q5.mono (lt.sub (by decide)),q6.mono (lt.sub (by decide)),q7.mono (lt.sub (by decide))⟩;clear hk wz;cbv;exact af
theorem jv{α:Type}(f:α->Int)(x:α)(r:List α):cf f (x::r)=if f x≠0 then f x else cf f r:=rfl
theorem SG{h:ad}{qp qb:Nat}{x:aB}{cols:List bM}{y:Qy}(q:kV h qp x cols y)(gb:h qb=some (.cells #[.pointer (some ⟨qp,0,none⟩)] 186 (0,0)))(hx:eO x)(hc:∀c∈cols,Nm c.name){k:Value->ad->Prop}
 (hk:∀h',Le h h'->k (.int .i64 (cf (fY cols) x.items)) h'):Ct 177 [.pointer (some ⟨qb,0,none⟩)] h k:=by
 obtain⟨A,hA⟩:=Ar.ex;refine q.elim (fun b5 n5 c5 b6 n6 c6 b7 n7 c7 b8 n8 c8 b9 n9 c9 eQ fJ eP cb cn cc g q1 q2 q3 q4 q5 q6 q7=>?_);clear q1 q2 q3 q4 q6 q7;obtain⟨R,hR⟩:∃R,cf (fY cols) x.items=R:=⟨_,rfl⟩;rw[hR]at hk;obtain⟨I,bh⟩:∃I:Nat->ad->Prop,∀i h',I i h'=(Le h h'/\cf (fY cols) (x.items.drop i)=R):=⟨_,fun _ _=>rfl⟩;have hJ:I 0 h:=by rw[bh];exact⟨Le.refl _,hR⟩
 refine ah A (aq Zt.ax Zt.bm) Tryz.func177 rfl (by kernel_rfl) ?_;cbv;repeat (first| (rw[ai A,ai A];refine ar gb rfl rfl ?_;cbv) | (rw[ai A];refine ar gb rfl rfl ?_;cbv) | (refine ar gb rfl rfl ?_;cbv) | (rw[ai A,ai A];refine ar g rfl rfl ?_;cbv) | (rw[ai A];refine ar g rfl rfl ?_;cbv) | (refine ar g rfl rfl ?_;cbv) | (refine⟨⟨_,rfl,rfl⟩,?_⟩;cbv))
 refine Fz q5.len I hJ (fun i h' hI=>?_) (fun i it h' ib im ic hi nP hI hv=>?_) (fun h' hI=>?_)
 ·rw[bh]at hI;exact q5.mono (hI.1.t _)
 ·rw[bh]at hI;obtain⟨l,he⟩:=hI;have hd:x.items.drop i=it::x.items.drop (i+1):=by obtain⟨h1,h2⟩:=List.getElem?_eq_some_iff.1 nP;rw[List.drop_eq_getElem_cons h1,h2]
  rw[hd,jv]at he;refine VT (q.mono l) hc (hx.items it (List.mem_of_getElem? nP)) hv (fun h2 l2=>⟨_,rfl,fun h0=>?_,fun h0=>?_⟩)
  ·rw[if_neg (fun g=>g h0)]at he;rw[bh];exact⟨l.trans l2,he⟩
  ·rw[if_pos h0]at he;rw[he];have af:=hk h2 (l.trans l2);clear hk bh h0;cbv;exact af
 ·rw[bh]at hI;obtain⟨l,he⟩:=hI;rw[List.drop_of_length_le (by rw[q5.len];exact Nat.le_refl _)]at he;have he:(0:Int)=R:=he;subst he;have af:=hk h' l;clear hk bh;cbv;exact af
theorem SD(fn:Int){h:ad}{ib:Option Addr}{im ic:Nat}{k:Value->ad->Prop}(hk:k (.bool (decide (fn≠0))) h):Ct 186 [.agg #[.int .i64 fn,.slice ib im ic]] h k:=by obtain⟨A,hA⟩:=Ar.ex;have f1:A .aF .neq fn 0=decide (fn≠0):=ay A ..;refine ah A (aq Zm.ax Zm.bm) Tryz.func186 rfl (by kernel_rfl) ?_;cbv;rw[f1];exact hk
theorem E4{xs:List dp}{h:ad}{b:Option Addr}{n c:Nat}(q:Sl 276 bW h (.slice b n c) xs){k:Value->ad->Prop}
 (hk:∀z:Int,decide (z>=0)=xs.any (fun i=>decide (i.fn≠0))->k (.int .i64 z) h):Ct 251 [.slice b n c,.func (.func 186) #[] #[]] h k:=by
 obtain⟨A,hA⟩:=Ar.ex;have hn:=q.len;have hb:=q.bound;obtain⟨R,hR⟩:∃R,xs.any (fun i=>decide (i.fn≠0))=R:=⟨_,rfl⟩;rw[hR]at hk;obtain⟨J,dI⟩:∃J:Nat->Int->ad->Prop,∀m z h',J m z h'=∃i,aP z i/\i<=n/\m=n-i/\h'=h/\(xs.drop i).any (fun i=>decide (i.fn≠0))=R:=⟨_,fun _ _ _=>rfl⟩;have hJ:J n 0 h:=by rw[dI];exact⟨0,⟨rfl⟩,Nat.zero_le _,rfl,rfl,hR⟩
 refine ah A (aq YI.ax YI.bm) Tryz.func251 rfl (by kernel_rfl) ?_;cbv;refine aZ.go (G:=Int) (fun z=>[(8,.v (.int .i64 z))]) (fun _=>[]) (fun m z h'=>J m z h') n 0 ⟨?_,?_,?_⟩ hJ ?_
 ·cbv
 ·cbv
 ·cbv
 ·intro m z h1 hI;rw[dI]at hI;cbv;obtain⟨i,hz,hi,hm,e',he⟩:=hI;subst e';have f1:A .aF .lss z (A .nat n)=decide (i<n):=hz.gE (aP.nat n);rw[f1];by_cases aI:i<n
  ·obtain⟨x,hx⟩:=aD (xs:=xs) (i:=i) (by omega);have hd:xs.drop i=x::xs.drop (i+1):=by obtain⟨h1,h2⟩:=List.getElem?_eq_some_iff.1 hx;rw[List.drop_eq_getElem_cons h1,h2]
   rw[hd,List.any_cons]at he;have cy:b.isSome=true/\0<=z/\z<(n:Int):=⟨q.bF (by omega),hz.ix aI⟩;have eX:=hz.eq;have dz:=hz.succ (A:=A) (by omega);have iD:n-(i+1)<m:=by omega
   have gH:(xs.drop (i+1)).any (fun i=>decide (i.fn≠0))=R->J (n-(i+1)) (A .bA .add .i64 z 1) h1:=fun e=>by rw[dI];exact⟨i+1,dz,aI,rfl,rfl,e⟩
   have Ao:decide (z>=0)=true:=decide_eq_true (by omega);clear dI hJ dz;rw[decide_eq_true aI];cbv;refine⟨cy,?_⟩;cbv;refine qN q hx eX (fun b1 n1 c1 hv=>?_);obtain⟨xf,xe⟩:=x;replace he:(decide (xf≠0)||(xs.drop (i+1)).any (fun i=>decide (i.fn≠0)))=R:=he;cbv;refine SD xf ?_;by_cases h0:xf≠0
   ·have e1:R=true:=by rw[<-he,decide_eq_true h0];rfl
    have af:=hk z (by rw[Ao,e1]);clear hk gH he;rw[decide_eq_true h0];cbv;exact af
   ·rw[decide_eq_false h0,Bool.false_or]at he;have af:=gH he;clear hk gH he;rw[decide_eq_false h0];cbv;refine⟨n-(i+1),A .bA .add .i64 z 1,iD,⟨?_,?_,?_⟩,af⟩
    ·cbv
    ·cbv
    ·cbv
  ·rw[List.drop_of_length_le (by omega)]at he;have he:false=R:=he;have af:=hk (-1) (by rw[<-he];rfl);clear hk dI hJ;rw[decide_eq_false aI];cbv;exact af
theorem zb{xs:List dp}{h:ad}{b:Option Addr}{n c:Nat}(q:Sl 276 bW h (.slice b n c) xs){k:Value->ad->Prop}
 (hk:k (.bool (xs.any (fun i=>decide (i.fn≠0)))) h):Ct 185 [.slice b n c,.func (.func 186) #[] #[]] h k:=by
 obtain⟨A,hA⟩:=Ar.ex;refine ah A (aq Zn.ax Zn.bm) Tryz.func185 rfl (by kernel_rfl) ?_;cbv;refine E4 q (fun z hz=>?_);have f1:A .aF .geq z 0=decide (z>=0):=bO A ..;rw[<-hz]at hk;clear hz;cbv;rw[f1];exact hk
theorem chk1{h:ad}{qp qb:Nat}{x:aB}{cols:List bM}{y:Qy}(q:kV h qp x cols y)(gb:h qb=some (.cells #[.pointer (some ⟨qp,0,none⟩)] 186 (0,0)))(hx:eO x)(hc:∀c∈cols,Nm c.name){k:Value->ad->Prop}
 (hk:∀h',Le h h'->k (.int .i64 (aG x.on cols)) h'):Ct 184 [.func (.func 175) #[] #[.pointer (some ⟨qb,0,none⟩)]] h k:=by
 obtain⟨A,hA⟩:=Ar.ex;refine ah A (aq wQ.ax wQ.bm) Tryz.func184 rfl (by kernel_rfl) ?_;cbv;refine SK q gb hx hc (fun h1 l1=>?_);have af:=hk h1 l1;clear hk;generalize aG x.on cols=z at *;cbv;exact af
theorem chk2{h:ad}{qp qb:Nat}{x:aB}{cols:List bM}{y:Qy}(q:kV h qp x cols y)(gb:h qb=some (.cells #[.pointer (some ⟨qp,0,none⟩)] 186 (0,0)))(hx:eO x)(hc:∀c∈cols,Nm c.name){k:Value->ad->Prop}
 (hk:∀h',Le h h'->k (.int .i64 (aG x.bB cols)) h'):Ct 184 [.func (.func 176) #[] #[.pointer (some ⟨qb,0,none⟩)]] h k:=by
 obtain⟨A,hA⟩:=Ar.ex;refine ah A (aq wQ.ax wQ.bm) Tryz.func184 rfl (by kernel_rfl) ?_;cbv;refine SH q gb hx hc (fun h1 l1=>?_);have af:=hk h1 l1;clear hk;generalize aG x.bB cols=z at *;cbv;exact af
theorem chk3{h:ad}{qp qb:Nat}{x:aB}{cols:List bM}{y:Qy}(q:kV h qp x cols y)(gb:h qb=some (.cells #[.pointer (some ⟨qp,0,none⟩)] 186 (0,0)))(hx:eO x)(hc:∀c∈cols,Nm c.name){k:Value->ad->Prop}
 (hk:∀h',Le h h'->k (.int .i64 (cf (fY cols) x.items)) h'):Ct 184 [.func (.func 177) #[] #[.pointer (some ⟨qb,0,none⟩)]] h k:=by
 obtain⟨A,hA⟩:=Ar.ex;refine ah A (aq wQ.ax wQ.bm) Tryz.func184 rfl (by kernel_rfl) ?_;cbv;refine SG q gb hx hc (fun h1 l1=>?_);have af:=hk h1 l1;clear hk;generalize cf (fY cols) x.items=z at *;cbv;exact af
theorem chk4{h:ad}{qp qb:Nat}{x:aB}{cols:List bM}{y:Qy}(q:kV h qp x cols y)(gb:h qb=some (.cells #[.pointer (some ⟨qp,0,none⟩)] 186 (0,0)))(hx:eO x)(hc:∀c∈cols,Nm c.name){k:Value->ad->Prop}
 (hk:∀h',Kp [qp] h h'->kV h' qp x cols ⟨(aV x.group cols).1,y.order,y.kU⟩->k (.int .i64 (aV x.group cols).2) h'):Ct 184 [.func (.func 180) #[] #[.pointer (some ⟨qb,0,none⟩)]] h k:=by
 obtain⟨A,hA⟩:=Ar.ex;refine ah A (aq wQ.ax wQ.bm) Tryz.func184 rfl (by kernel_rfl) ?_;cbv;refine SF q gb hx hc (fun h1 k1 q1=>?_);have af:=hk h1 k1 q1;clear hk;generalize (aV x.group cols).2=z at *;cbv;exact af
theorem chk5{h:ad}{qp qb:Nat}{x:aB}{cols:List bM}{y:Qy}(q:kV h qp x cols y)(gb:h qb=some (.cells #[.pointer (some ⟨qp,0,none⟩)] 186 (0,0)))(hx:eO x)(hc:∀c∈cols,Nm c.name){k:Value->ad->Prop}
 (hk:∀h',Kp [qp] h h'->kV h' qp x cols ⟨y.group,(aV x.order cols).1,y.kU⟩->k (.int .i64 (aV x.order cols).2) h'):Ct 184 [.func (.func 182) #[] #[.pointer (some ⟨qb,0,none⟩)]] h k:=by
 obtain⟨A,hA⟩:=Ar.ex;refine ah A (aq wQ.ax wQ.bm) Tryz.func184 rfl (by kernel_rfl) ?_;cbv;refine SE q gb hx hc (fun h1 k1 q1=>?_);have af:=hk h1 k1 q1;clear hk;generalize (aV x.order cols).2=z at *;cbv;exact af
theorem AM(x:aB)(cols:List bM):
 (aG x.on cols≠0->(dx x cols).2=aG x.on cols)/\
 (aG x.on cols=0->aG x.bB cols≠0->(dx x cols).2=aG x.bB cols)/\
 (aG x.on cols=0->aG x.bB cols=0->cf (fY cols) x.items≠0->(dx x cols).2=cf (fY cols) x.items)/\
 (aG x.on cols=0->aG x.bB cols=0->cf (fY cols) x.items=0->(aV x.group cols).2≠0->(dx x cols).2=(aV x.group cols).2)/\
 (aG x.on cols=0->aG x.bB cols=0->cf (fY cols) x.items=0->(aV x.group cols).2=0->(aV x.order cols).2≠0->(dx x cols).2=(aV x.order cols).2)/\
 (aG x.on cols=0->aG x.bB cols=0->cf (fY cols) x.items=0->(aV x.group cols).2=0->(aV x.order cols).2=0->dx x cols=
  if(decide (x.group≠b0)||x.items.any fun i=>decide (i.fn≠0))=false then(⟨(aV x.group cols).1,(aV x.order cols).1,false⟩,0)
  else if x.items.length=0\/((aV x.order cols).1>=0/\(aV x.order cols).1≠(aV x.group cols).1)then(⟨(aV x.group cols).1,(aV x.order cols).1,true⟩,3)
  else(⟨(aV x.group cols).1,(aV x.order cols).1,true⟩,cf (bq cols (aV x.group cols).1) x.items)):=by
 have hP:dx x cols=if aG x.on cols≠0 then(⟨-1,-1,false⟩,aG x.on cols)
  else if aG x.bB cols≠0 then(⟨-1,-1,false⟩,aG x.bB cols)
  else if cf (fY cols) x.items≠0 then(⟨-1,-1,false⟩,cf (fY cols) x.items)
  else match aV x.group cols with
   | (g,e)=>if e≠0 then(⟨g,-1,false⟩,e)else match aV x.order cols with
    | (o,e)=>if e≠0 then(⟨g,o,false⟩,e)else
     if(decide (x.group≠b0)||x.items.any fun i=>decide (i.fn≠0))=false then(⟨g,o,false⟩,0)
     else if x.items.length=0\/(o>=0/\o≠g)then(⟨g,o,true⟩,3)
     else(⟨g,o,true⟩,cf (bq cols g) x.items):=rfl
 generalize dx x cols=D at *;generalize aG x.on cols=c1 at *;generalize aG x.bB cols=c2 at *;generalize cf (fY cols) x.items=c3 at *;generalize aV x.group cols=G at *;generalize aV x.order cols=O at *;obtain⟨g,c4⟩:=G;obtain⟨o,c5⟩:=O;refine⟨fun h=>?_,fun h1 h=>?_,fun h1 h2 h=>?_,fun h1 h2 h3 h=>?_,fun h1 h2 h3 h4 h=>?_,fun h1 h2 h3 h4 h5=>?_⟩
 ·rw[hP,if_pos h]
 ·rw[hP,if_neg (fun g=>g h1),if_pos h]
 ·rw[hP,if_neg (fun g=>g h1),if_neg (fun g=>g h2),if_pos h]
 ·replace h:c4≠0:=h;rw[hP,if_neg (fun g=>g h1),if_neg (fun g=>g h2),if_neg (fun g=>g h3)];show(if c4≠0 then _ else _:Qy×Int).2=c4;rw[if_pos h]
 ·replace h4:c4=0:=h4;replace h:c5≠0:=h;rw[hP,if_neg (fun g=>g h1),if_neg (fun g=>g h2),if_neg (fun g=>g h3)];show(if c4≠0 then _ else if c5≠0 then _ else _:Qy×Int).2=c5;rw[if_neg (fun g=>g h4),if_pos h]
 ·replace h4:c4=0:=h4;replace h5:c5=0:=h5;rw[hP,if_neg (fun g=>g h1),if_neg (fun g=>g h2),if_neg (fun g=>g h3)];show(if c4≠0 then _ else if c5≠0 then _ else _:Qy×Int)=_;rw[if_neg (fun g=>g h4),if_neg (fun g=>g h5)]
theorem Px{h:ad}{qp:Nat}{x:aB}{cols:List bM}(q:kV h qp x cols ⟨-1,-1,false⟩)(hx:eO x)(hc:∀c∈cols,Nm c.name){k:Value->ad->Prop}
 (hk:∀h' y,Kp [qp] h h'->kV h' qp x cols y->((dx x cols).2=0->y=(dx x cols).1)->k (.int .i64 (dx x cols).2) h'):
 Ct 100 [.pointer (some ⟨qp,0,none⟩)] h k:=by
 obtain⟨A,hA⟩:=Ar.ex;obtain⟨s1,s2,s3,s4,s5,s6⟩:=AM x cols;have Uf:∀g,cf (bq cols g) x.items=cf (bq cols g) x.items:=fun _=>rfl;have wL:∀ {h1:ad} {qb:Nat} {y:Qy},kV h1 qp x cols y->h1 qb=some (.cells #[.pointer (some ⟨qp,0,none⟩)] 186 (0,0))->True:=fun _ _=>trivial;clear wL Uf;generalize dx x cols=D at *;obtain⟨Dy,De⟩:=D;replace hk:∀h' y,Kp [qp] h h'->kV h' qp x cols y->(De=0->y=Dy)->k (.int .i64 De) h':=hk;obtain⟨cq,hq⟩:=q.has;have Xq:∀ {n:Nat},h n=none->n≠qp:=fun hn e=>by rw[e,hq]at hn;cases hn
 refine ah A (aq T100.ax T100.bm) Tryz.func100 rfl (by kernel_rfl) ?_;cbv;intro qb h1 f1 e1;have l1:Le h h1:=by rw[e1];exact Le.set f1
 have Nw:h1 qb=some (.cells #[.pointer (some ⟨qp,0,none⟩)] 186 (0,0)):=by rw[e1];exact ae
 have hbq:=Xq f1;clear e1;cbv;intro sb h2 f2 e2;have l2:Le h1 h2:=by rw[e2];exact Le.set f2
 have hsq:sb≠qp:=fun e=>by rw[e,l1 _ _ hq]at f2;cases f2
 have qs:Sl 173 (Hx (.pointer (some ⟨qb,0,none⟩))) h2 (.slice (some ⟨sb,0,none⟩) 5 5) [175,176,177,180,182]:=by
  refine Sl.fresh (s:=Hx (.pointer (some ⟨qb,0,none⟩))) (h:=h2) (n:=sb) (xs:=[175,176,177,180,182]) (cap:=5) (c:=[.func (.func 175) #[] #[.pointer (some ⟨qb,0,none⟩)],.func (.func 176) #[] #[.pointer (some ⟨qb,0,none⟩)],.func (.func 177) #[] #[.pointer (some ⟨qb,0,none⟩)],.func (.func 180) #[] #[.pointer (some ⟨qb,0,none⟩)],.func (.func 182) #[] #[.pointer (some ⟨qb,0,none⟩)]]) (by rw[e2];exact ae) ⟨Nat.le_refl 5,fun i x hx=>?_⟩ (by show 5<=_;omega) (Nat.le_refl 5)
  match i,hx with
  |0,hx=>cases hx;rfl
  |1,hx=>cases hx;rfl
  |2,hx=>cases hx;rfl
  |3,hx=>cases hx;rfl
  |4,hx=>cases hx;rfl
  |i+5,hx=>simp at hx
 clear e2;have iI:=l1.trans l2;have q2:=q.mono iI;have AI:=l2 _ _ Nw;have g0:(aV x.group cols).1=(aV x.group cols).1:=rfl;obtain⟨I,bh⟩:∃I:Nat->ad->Prop,∀i h',I i h'=(Kp [qp] h2 h'/\kV h' qp x cols ⟨if 3<i then(aV x.group cols).1 else -1,if 4<i then(aV x.order cols).1 else -1,false⟩/\
  (0<i->aG x.on cols=0)/\(1<i->aG x.bB cols=0)/\(2<i->cf (fY cols) x.items=0)/\(3<i->(aV x.group cols).2=0)/\(4<i->(aV x.order cols).2=0)):=⟨_,fun _ _=>rfl⟩
 have hJ:I 0 h2:=by rw[bh];exact⟨Kp.refl _ _,q2,fun g=>by omega,fun g=>by omega,fun g=>by omega,fun g=>by omega,fun g=>by omega⟩
 have qkp:∀ {h':ad},Kp [qp] h2 h'->∀tys,188∉tys->bE tys h2 h':=fun kp tys ht=>by
  obtain⟨c,g⟩:=q2.has;exact kp.uU g ht
 have bad:∀ {h':ad} {y:Qy} {e:Int},Kp [qp] h2 h'->kV h' qp x cols y->De=e->e≠0->k (.int .i64 e) h':=fun kp q' he h0=>by
  rw[<-he];exact hk _ _ ((iI.kp _).trans kp) q' (fun h=>absurd (he ▸ h) h0)
 cbv;refine CL (p:=.pointer (some ⟨qb,0,none⟩)) (xs:=[175,176,177,180,182]) (n:=5) rfl I hJ (fun i h' hI=>?_) (fun i g h' hi hg hI _=>?_) (fun h' hI=>?_)
 ·rw[bh]at hI;exact qs.mono (qkp hI.1 _ (by show 188∉[173];decide))
 ·rw[bh]at hI;obtain⟨kp,q',p1,p2,p3,p4,p5⟩:=hI;have AJ:=kp _ _ AI (by simpa using hbq)
  match i,hg with
  |0,hg=>
   cases hg;refine chk1 q' AJ hx hc (fun h3 l3=>⟨_,rfl,fun h0=>?_,fun h0=>?_⟩)
   ·rw[bh];exact⟨kp.trans (l3.kp _),q'.mono l3,fun _=>h0,fun g=>by omega,fun g=>by omega,fun g=>by omega,fun g=>by omega⟩
   ·have af:=bad (kp.trans (l3.kp _)) (q'.mono l3) (s1 h0) h0;have fe:A .aF .neq (aG x.on cols) 0=true:=by rw[ay A];exact decide_eq_true h0
    clear hk bad bh;generalize aG x.on cols=z at *;cbv;rw[fe];cbv;exact af
  |1,hg=>
   cases hg;refine chk2 q' AJ hx hc (fun h3 l3=>⟨_,rfl,fun h0=>?_,fun h0=>?_⟩)
   ·rw[bh];exact⟨kp.trans (l3.kp _),q'.mono l3,fun _=>p1 (by omega),fun _=>h0,fun g=>by omega,fun g=>by omega,fun g=>by omega⟩
   ·have af:=bad (kp.trans (l3.kp _)) (q'.mono l3) (s2 (p1 (by omega)) h0) h0;have fe:A .aF .neq (aG x.bB cols) 0=true:=by rw[ay A];exact decide_eq_true h0
    clear hk bad bh;generalize aG x.bB cols=z at *;cbv;rw[fe];cbv;exact af
  |2,hg=>
   cases hg;refine chk3 q' AJ hx hc (fun h3 l3=>⟨_,rfl,fun h0=>?_,fun h0=>?_⟩)
   ·rw[bh];exact⟨kp.trans (l3.kp _),q'.mono l3,fun _=>p1 (by omega),fun _=>p2 (by omega),fun _=>h0,fun g=>by omega,fun g=>by omega⟩
   ·have af:=bad (kp.trans (l3.kp _)) (q'.mono l3) (s3 (p1 (by omega)) (p2 (by omega)) h0) h0;have fe:A .aF .neq (cf (fY cols) x.items) 0=true:=by rw[ay A];exact decide_eq_true h0
    clear hk bad bh;generalize cf (fY cols) x.items=z at *;cbv;rw[fe];cbv;exact af
  |3,hg=>
   cases hg;refine chk4 q' AJ hx hc (fun h3 k3 q3=>⟨_,rfl,fun h0=>?_,fun h0=>?_⟩)
   ·rw[bh];exact⟨kp.trans k3,q3,fun _=>p1 (by omega),fun _=>p2 (by omega),fun _=>p3 (by omega),fun _=>h0,fun g=>by omega⟩
   ·have af:=bad (kp.trans k3) q3 (s4 (p1 (by omega)) (p2 (by omega)) (p3 (by omega)) h0) h0;have fe:A .aF .neq (aV x.group cols).2 0=true:=by rw[ay A];exact decide_eq_true h0
    clear hk bad bh q3;generalize (aV x.group cols).2=z at *;cbv;rw[fe];cbv;exact af
  |4,hg=>
   cases hg;refine chk5 q' AJ hx hc (fun h3 k3 q3=>⟨_,rfl,fun h0=>?_,fun h0=>?_⟩)
   ·rw[bh];exact⟨kp.trans k3,q3,fun _=>p1 (by omega),fun _=>p2 (by omega),fun _=>p3 (by omega),fun _=>p4 (by omega),fun _=>h0⟩
   ·have af:=bad (kp.trans k3) q3 (s5 (p1 (by omega)) (p2 (by omega)) (p3 (by omega)) (p4 (by omega)) h0) h0;have fe:A .aF .neq (aV x.order cols).2 0=true:=by rw[ay A];exact decide_eq_true h0
    clear hk bad bh q3;generalize (aV x.order cols).2=z at *;cbv;rw[fe];cbv;exact af
  |i+5,hg=>simp at hg
 ·rw[bh]at hI;obtain⟨kp,q',p1,p2,p3,p4,p5⟩:=hI;have hD:=s6 (p1 (by omega)) (p2 (by omega)) (p3 (by omega)) (p4 (by omega)) (p5 (by omega));have AJ:=kp _ _ AI (by simpa using hbq);rw[if_pos (by omega),if_pos (by omega)]at q';clear s1 s2 s3 s4 s5 s6 p1 p2 p3 p4 p5 bad bh hJ;have k0:Kp [qp] h h':=(iI.kp _).trans kp;generalize (aV x.group cols).1=yg at *;generalize (aV x.order cols).1=yo at *;have f0:A .aF .neq 0 0=false:=by rw[ay A];rfl
  have fg:A .je .neq x.group ⟨#[]⟩=decide (x.group≠b0):=tW A ..;refine q'.elim (fun b5 n5 c5 b6 n6 c6 b7 n7 c7 b8 n8 c8 b9 n9 c9 eQ fJ eP cb cn cc g q1 TH q3 q4 q5 q6 q7=>?_);cbv;rw[f0];cbv;clear q2 qkp;obtain⟨ga,Aw⟩:∃ga,ga=(decide (x.group≠b0)||x.items.any fun i=>decide (i.fn≠0)):=⟨_,rfl⟩;rw[<-Aw]at hD;have Et:∀h5,h5=bl h' qp (.cells #[.int .i64 x.kind,.string x.nf.name,.slice b5 n5 c5,.int .i64 x.nf.key,.bool x.nf.only,.string x.table,.string x.join,.slice b6 n6 c6,.slice b7 n7 c7,.slice b8 n8 c8,.slice b9 n9 c9,.slice eQ fJ eP,.string x.group,.string x.order,.bool x.desc,.int .i64 x.fE,.string x.name,.slice cb cn cc,.int .i64 yg,.int .i64 yo,.bool ga] 188 (0,0))->
   kV h5 qp x cols ⟨yg,yo,ga⟩/\Kp [qp] h h5:=fun h5 e5=>by
   have qJ:bE lO h' h5:=by rw[e5];exact bE.set g (by decide)
   exact⟨⟨b5,n5,c5,b6,n6,c6,b7,n7,c7,b8,n8,c8,b9,n9,c9,eQ,fJ,eP,cb,cn,cc,(by rw[e5];exact ae),q1.mono (qJ.sub (by decide)),TH.mono (qJ.sub (by decide)),q3.mono (qJ.sub (by decide)),q4.mono (qJ.sub (by decide)),q5.mono (qJ.sub (by decide)),q6.mono (qJ.sub (by decide)),q7.mono (qJ.sub (by decide))⟩,k0.trans (by rw[e5];exact Kp.set (by simp))⟩
  have hq5:=q5.len;have tail:∀h5,h5=bl h' qp (.cells #[.int .i64 x.kind,.string x.nf.name,.slice b5 n5 c5,.int .i64 x.nf.key,.bool x.nf.only,.string x.table,.string x.join,.slice b6 n6 c6,.slice b7 n7 c7,.slice b8 n8 c8,.slice b9 n9 c9,.slice eQ fJ eP,.string x.group,.string x.order,.bool x.desc,.int .i64 x.fE,.string x.name,.slice cb cn cc,.int .i64 yg,.int .i64 yo,.bool ga] 188 (0,0))->
   kV h5 qp x cols ⟨yg,yo,ga⟩/\Kp [qp] h h5:=Et
  clear tail q1 TH q3 q4 q6 q7;repeat (first| (rw[ai A,ai A];refine ar AJ rfl rfl ?_;cbv) | (rw[ai A];refine ar AJ rfl rfl ?_;cbv) | (refine ar AJ rfl rfl ?_;cbv) | (rw[ai A,ai A];refine ar g rfl rfl ?_;cbv) | (rw[ai A];refine ar g rfl rfl ?_;cbv) | (refine ar g rfl rfl ?_;cbv) | (refine⟨⟨_,rfl,rfl⟩,?_⟩;cbv))
  rw[fg];by_cases Uf:x.group≠b0
  ·have hg1:ga=true:=by rw[Aw,decide_eq_true Uf];rfl
   rw[hg1]at hD Et;rw[decide_eq_true Uf];cbv;first|rw[ai A] |skip
   refine eH g (by simp) (fun h5 e5=>?_);obtain⟨HI,k5⟩:=Et h5 e5;have mg:h5 qb=some (.cells #[.pointer (some ⟨qp,0,none⟩)] 186 (0,0)):=by rw[e5,av hbq];exact AJ
   have qJ:bE lO h' h5:=by rw[e5];exact bE.set g (by decide)
   clear e5 Et g Aw;rw[if_neg (by simp)]at hD;have nt:A .not true=false:=by rw[hA.not];rfl
   have RN:=fun h' l e=>hk h' ⟨yg,yo,true⟩ (k5.trans (Le.kp l _)) (HI.mono l) e;clear hk;refine HI.elim (fun b5y n5y c5y b6y n6y c6y b7y n7y c7y b8y n8y c8y b9y n9y c9y XH Vz XE cby cny ccy g5 _ _ _ _ OD _ _=>?_);have jV:=OD.len;have fl:A .aF .eql (A .nat n9y) 0=decide (x.items.length=0):=by rw[aw A,hA.nat,decide_eq_decide,Int.ofNat_eq_natCast];omega
   have fo:A .aF .geq yo 0=decide (yo>=0):=bO A ..;have fn:A .aF .neq yo yg=decide (yo≠yg):=ay A ..;have hr:∀h' e,Le h5 h'->De=e->(De=0->Dy=⟨yg,yo,true⟩)->k (.int .i64 e) h':=fun h' e l he hy=>by rw[<-he];exact RN h' l (fun h0=>(hy h0).symm)
   clear RN;cbv;repeat (first| (rw[ai A,ai A];refine ar mg rfl rfl ?_;cbv) | (rw[ai A];refine ar mg rfl rfl ?_;cbv) | (refine ar mg rfl rfl ?_;cbv) | (rw[ai A,ai A];refine ar g5 rfl rfl ?_;cbv) | (rw[ai A];refine ar g5 rfl rfl ?_;cbv) | (refine ar g5 rfl rfl ?_;cbv) | (refine⟨⟨_,rfl,rfl⟩,?_⟩;cbv))
   rw[nt];cbv;repeat (first| (rw[ai A,ai A];refine ar mg rfl rfl ?_;cbv) | (rw[ai A];refine ar mg rfl rfl ?_;cbv) | (refine ar mg rfl rfl ?_;cbv) | (rw[ai A,ai A];refine ar g5 rfl rfl ?_;cbv) | (rw[ai A];refine ar g5 rfl rfl ?_;cbv) | (refine ar g5 rfl rfl ?_;cbv) | (refine⟨⟨_,rfl,rfl⟩,?_⟩;cbv))
   rw[fl];by_cases Fk:x.items.length=0
   ·rw[if_pos (.inl Fk)]at hD;cases hD;have af:=hr h5 3 (Le.refl _) rfl (fun h=>by cases h);clear hr;rw[decide_eq_true Fk];cbv;exact af
   rw[decide_eq_false Fk];cbv;repeat (first| (rw[ai A,ai A];refine ar mg rfl rfl ?_;cbv) | (rw[ai A];refine ar mg rfl rfl ?_;cbv) | (refine ar mg rfl rfl ?_;cbv) | (rw[ai A,ai A];refine ar g5 rfl rfl ?_;cbv) | (rw[ai A];refine ar g5 rfl rfl ?_;cbv) | (refine ar g5 rfl rfl ?_;cbv) | (refine⟨⟨_,rfl,rfl⟩,?_⟩;cbv))
   rw[fo];have vz:¬(yo>=0/\yo≠yg)->(Dy,De)=(⟨yg,yo,true⟩,cf (bq cols yg) x.items):=fun hn=>by
    rw[if_neg (by rintro(g|g)<;>contradiction)]at hD;exact hD
   by_cases ho:yo>=0
   ·rw[decide_eq_true ho];cbv;repeat (first| (rw[ai A,ai A];refine ar mg rfl rfl ?_;cbv) | (rw[ai A];refine ar mg rfl rfl ?_;cbv) | (refine ar mg rfl rfl ?_;cbv) | (rw[ai A,ai A];refine ar g5 rfl rfl ?_;cbv) | (rw[ai A];refine ar g5 rfl rfl ?_;cbv) | (refine ar g5 rfl rfl ?_;cbv) | (refine⟨⟨_,rfl,rfl⟩,?_⟩;cbv))
    rw[fn];by_cases hn:yo≠yg
    ·rw[if_pos (.inr ⟨ho,hn⟩)]at hD;cases hD;have af:=hr h5 3 (Le.refl _) rfl (fun h=>by cases h);clear hr vz;rw[decide_eq_true hn];cbv;exact af
    have hE:=vz (fun g=>hn g.2);clear vz hD;rw[decide_eq_false hn];cbv;repeat (first| (rw[ai A,ai A];refine ar mg rfl rfl ?_;cbv) | (rw[ai A];refine ar mg rfl rfl ?_;cbv) | (refine ar mg rfl rfl ?_;cbv) | (rw[ai A,ai A];refine ar g5 rfl rfl ?_;cbv) | (rw[ai A];refine ar g5 rfl rfl ?_;cbv) | (refine ar g5 rfl rfl ?_;cbv) | (refine⟨⟨_,rfl,rfl⟩,?_⟩;cbv))
    obtain⟨R,hR⟩:∃R,cf (bq cols yg) x.items=R:=⟨_,rfl⟩;rw[hR]at hE;cases hE;obtain⟨I2,cU⟩:∃I:Nat->ad->Prop,∀i h',I i h'=(Le h5 h'/\cf (bq cols yg) (x.items.drop i)=De):=⟨_,fun _ _=>rfl⟩;have gH:I2 0 h5:=by rw[cU];exact⟨Le.refl _,hR⟩
    refine j8 jV I2 gH (fun i h' hI=>?_) (fun i it h' ib im ic hi nP hI hv=>?_) (fun h' hI=>?_)
    ·rw[cU]at hI;exact OD.mono (hI.1.t _)
    ·rw[cU]at hI;obtain⟨l,he⟩:=hI;have hd:x.items.drop i=it::x.items.drop (i+1):=by obtain⟨h1,h2⟩:=List.getElem?_eq_some_iff.1 nP;rw[List.drop_eq_getElem_cons h1,h2]
     rw[hd,jv]at he;refine rj (HI.mono l) hc (hx.items it (List.mem_of_getElem? nP)) hv (fun h2 l2=>⟨_,rfl,fun h0=>?_,fun h0=>?_⟩)
     ·replace h0:bq cols yg it=0:=h0;rw[if_neg (fun g=>g h0)]at he;rw[cU];exact⟨l.trans l2,he⟩
     ·replace h0:bq cols yg it≠0:=h0;rw[if_pos h0]at he;have af:=hr h2 De (l.trans l2) rfl (fun _=>rfl);clear hr cU h0;have Ay:bq cols yg it=De:=he;rw[show bq cols (⟨yg,yo,true⟩:Qy).group it=De from Ay];cbv;exact af
    ·rw[cU]at hI;obtain⟨l,he⟩:=hI;rw[List.drop_of_length_le (by rw[jV];exact Nat.le_refl _)]at he;have he:(0:Int)=De:=he;have af:=hr h' 0 l he.symm (fun _=>rfl);clear hr cU;cbv;exact af
   have hE:=vz (fun g=>ho g.1);clear vz hD;rw[decide_eq_false ho];cbv;repeat (first| (rw[ai A,ai A];refine ar mg rfl rfl ?_;cbv) | (rw[ai A];refine ar mg rfl rfl ?_;cbv) | (refine ar mg rfl rfl ?_;cbv) | (rw[ai A,ai A];refine ar g5 rfl rfl ?_;cbv) | (rw[ai A];refine ar g5 rfl rfl ?_;cbv) | (refine ar g5 rfl rfl ?_;cbv) | (refine⟨⟨_,rfl,rfl⟩,?_⟩;cbv))
   obtain⟨R,hR⟩:∃R,cf (bq cols yg) x.items=R:=⟨_,rfl⟩;rw[hR]at hE;cases hE;obtain⟨I2,cU⟩:∃I:Nat->ad->Prop,∀i h',I i h'=(Le h5 h'/\cf (bq cols yg) (x.items.drop i)=De):=⟨_,fun _ _=>rfl⟩;have gH:I2 0 h5:=by rw[cU];exact⟨Le.refl _,hR⟩
   refine j8 jV I2 gH (fun i h' hI=>?_) (fun i it h' ib im ic hi nP hI hv=>?_) (fun h' hI=>?_)
   ·rw[cU]at hI;exact OD.mono (hI.1.t _)
   ·rw[cU]at hI;obtain⟨l,he⟩:=hI;have hd:x.items.drop i=it::x.items.drop (i+1):=by obtain⟨h1,h2⟩:=List.getElem?_eq_some_iff.1 nP;rw[List.drop_eq_getElem_cons h1,h2]
    rw[hd,jv]at he;refine rj (HI.mono l) hc (hx.items it (List.mem_of_getElem? nP)) hv (fun h2 l2=>⟨_,rfl,fun h0=>?_,fun h0=>?_⟩)
    ·replace h0:bq cols yg it=0:=h0;rw[if_neg (fun g=>g h0)]at he;rw[cU];exact⟨l.trans l2,he⟩
    ·replace h0:bq cols yg it≠0:=h0;rw[if_pos h0]at he;have af:=hr h2 De (l.trans l2) rfl (fun _=>rfl);clear hr cU h0;have Ay:bq cols yg it=De:=he;rw[show bq cols (⟨yg,yo,true⟩:Qy).group it=De from Ay];cbv;exact af
   ·rw[cU]at hI;obtain⟨l,he⟩:=hI;rw[List.drop_of_length_le (by rw[jV];exact Nat.le_refl _)]at he;have he:(0:Int)=De:=he;have af:=hr h' 0 l he.symm (fun _=>rfl);clear hr cU;cbv;exact af
  ·rw[decide_eq_false Uf];rw[decide_eq_false Uf,Bool.false_or]at Aw;cbv;repeat (first| (rw[ai A,ai A];refine ar AJ rfl rfl ?_;cbv) | (rw[ai A];refine ar AJ rfl rfl ?_;cbv) | (refine ar AJ rfl rfl ?_;cbv) | (rw[ai A,ai A];refine ar g rfl rfl ?_;cbv) | (rw[ai A];refine ar g rfl rfl ?_;cbv) | (refine ar g rfl rfl ?_;cbv) | (refine⟨⟨_,rfl,rfl⟩,?_⟩;cbv))
   refine zb q5 ?_;rw[<-Aw];cbv;repeat (first| (rw[ai A,ai A];refine ar AJ rfl rfl ?_;cbv) | (rw[ai A];refine ar AJ rfl rfl ?_;cbv) | (refine ar AJ rfl rfl ?_;cbv) | (rw[ai A,ai A];refine ar g rfl rfl ?_;cbv) | (rw[ai A];refine ar g rfl rfl ?_;cbv) | (refine ar g rfl rfl ?_;cbv) | (refine⟨⟨_,rfl,rfl⟩,?_⟩;cbv))
   first|rw[ai A] |skip
   refine eH g (by simp) (fun h5 e5=>?_);obtain⟨HI,k5⟩:=Et h5 e5;have mg:h5 qb=some (.cells #[.pointer (some ⟨qp,0,none⟩)] 186 (0,0)):=by rw[e5,av hbq];exact AJ
   have qJ:bE lO h' h5:=by rw[e5];exact bE.set g (by decide)
   clear e5 Et g Aw;cases ga with
   |false=>
    rw[if_pos rfl]at hD;cases hD;have af:=hk h5 _ k5 HI (fun _=>rfl);refine HI.elim (fun b5y n5y c5y b6y n6y c6y b7y n7y c7y b8y n8y c8y b9y n9y c9y XH Vz XE cby cny ccy g5 _ _ _ _ OD _ _=>?_);clear hk;cbv;repeat (first| (rw[ai A,ai A];refine ar mg rfl rfl ?_;cbv) | (rw[ai A];refine ar mg rfl rfl ?_;cbv) | (refine ar mg rfl rfl ?_;cbv) | (rw[ai A,ai A];refine ar g5 rfl rfl ?_;cbv) | (rw[ai A];refine ar g5 rfl rfl ?_;cbv) | (refine ar g5 rfl rfl ?_;cbv) | (refine⟨⟨_,rfl,rfl⟩,?_⟩;cbv))
    have nt:A .not false=true:=by rw[hA.not];rfl
    rw[nt];cbv;exact af
   |true=>
    rw[if_neg (by simp)]at hD;have nt:A .not true=false:=by rw[hA.not];rfl
    have RN:=fun h' l e=>hk h' ⟨yg,yo,true⟩ (k5.trans (Le.kp l _)) (HI.mono l) e;clear hk;refine HI.elim (fun b5y n5y c5y b6y n6y c6y b7y n7y c7y b8y n8y c8y b9y n9y c9y XH Vz XE cby cny ccy g5 _ _ _ _ OD _ _=>?_);have jV:=OD.len;have fl:A .aF .eql (A .nat n9y) 0=decide (x.items.length=0):=by rw[aw A,hA.nat,decide_eq_decide,Int.ofNat_eq_natCast];omega
    have fo:A .aF .geq yo 0=decide (yo>=0):=bO A ..;have fn:A .aF .neq yo yg=decide (yo≠yg):=ay A ..;have hr:∀h' e,Le h5 h'->De=e->(De=0->Dy=⟨yg,yo,true⟩)->k (.int .i64 e) h':=fun h' e l he hy=>by rw[<-he];exact RN h' l (fun h0=>(hy h0).symm)
    clear RN;cbv;repeat (first| (rw[ai A,ai A];refine ar mg rfl rfl ?_;cbv) | (rw[ai A];refine ar mg rfl rfl ?_;cbv) | (refine ar mg rfl rfl ?_;cbv) | (rw[ai A,ai A];refine ar g5 rfl rfl ?_;cbv) | (rw[ai A];refine ar g5 rfl rfl ?_;cbv) | (refine ar g5 rfl rfl ?_;cbv) | (refine⟨⟨_,rfl,rfl⟩,?_⟩;cbv))
    rw[nt];cbv;repeat (first| (rw[ai A,ai A];refine ar mg rfl rfl ?_;cbv) | (rw[ai A];refine ar mg rfl rfl ?_;cbv) | (refine ar mg rfl rfl ?_;cbv) | (rw[ai A,ai A];refine ar g5 rfl rfl ?_;cbv) | (rw[ai A];refine ar g5 rfl rfl ?_;cbv) | (refine ar g5 rfl rfl ?_;cbv) | (refine⟨⟨_,rfl,rfl⟩,?_⟩;cbv))
    rw[fl];by_cases Fk:x.items.length=0
    ·rw[if_pos (.inl Fk)]at hD;cases hD;have af:=hr h5 3 (Le.refl _) rfl (fun h=>by cases h);clear hr;rw[decide_eq_true Fk];cbv;exact af
    rw[decide_eq_false Fk];cbv;repeat (first| (rw[ai A,ai A];refine ar mg rfl rfl ?_;cbv) | (rw[ai A];refine ar mg rfl rfl ?_;cbv) | (refine ar mg rfl rfl ?_;cbv) | (rw[ai A,ai A];refine ar g5 rfl rfl ?_;cbv) | (rw[ai A];refine ar g5 rfl rfl ?_;cbv) | (refine ar g5 rfl rfl ?_;cbv) | (refine⟨⟨_,rfl,rfl⟩,?_⟩;cbv))
    rw[fo];have vz:¬(yo>=0/\yo≠yg)->(Dy,De)=(⟨yg,yo,true⟩,cf (bq cols yg) x.items):=fun hn=>by
     rw[if_neg (by rintro(g|g)<;>contradiction)]at hD;exact hD
    by_cases ho:yo>=0
    ·rw[decide_eq_true ho];cbv;repeat (first| (rw[ai A,ai A];refine ar mg rfl rfl ?_;cbv) | (rw[ai A];refine ar mg rfl rfl ?_;cbv) | (refine ar mg rfl rfl ?_;cbv) | (rw[ai A,ai A];refine ar g5 rfl rfl ?_;cbv) | (rw[ai A];refine ar g5 rfl rfl ?_;cbv) | (refine ar g5 rfl rfl ?_;cbv) | (refine⟨⟨_,rfl,rfl⟩,?_⟩;cbv))
     rw[fn];by_cases hn:yo≠yg
     ·rw[if_pos (.inr ⟨ho,hn⟩)]at hD;cases hD;have af:=hr h5 3 (Le.refl _) rfl (fun h=>by cases h);clear hr vz;rw[decide_eq_true hn];cbv;exact af
     have hE:=vz (fun g=>hn g.2);clear vz hD;rw[decide_eq_false hn];cbv;repeat (first| (rw[ai A,ai A];refine ar mg rfl rfl ?_;cbv) | (rw[ai A];refine ar mg rfl rfl ?_;cbv) | (refine ar mg rfl rfl ?_;cbv) | (rw[ai A,ai A];refine ar g5 rfl rfl ?_;cbv) | (rw[ai A];refine ar g5 rfl rfl ?_;cbv) | (refine ar g5 rfl rfl ?_;cbv) | (refine⟨⟨_,rfl,rfl⟩,?_⟩;cbv))
     obtain⟨R,hR⟩:∃R,cf (bq cols yg) x.items=R:=⟨_,rfl⟩;rw[hR]at hE;cases hE;obtain⟨I2,cU⟩:∃I:Nat->ad->Prop,∀i h',I i h'=(Le h5 h'/\cf (bq cols yg) (x.items.drop i)=De):=⟨_,fun _ _=>rfl⟩;have gH:I2 0 h5:=by rw[cU];exact⟨Le.refl _,hR⟩
     refine j8 jV I2 gH (fun i h' hI=>?_) (fun i it h' ib im ic hi nP hI hv=>?_) (fun h' hI=>?_)
     ·rw[cU]at hI;exact OD.mono (hI.1.t _)
     ·rw[cU]at hI;obtain⟨l,he⟩:=hI;have hd:x.items.drop i=it::x.items.drop (i+1):=by obtain⟨h1,h2⟩:=List.getElem?_eq_some_iff.1 nP;rw[List.drop_eq_getElem_cons h1,h2]
      rw[hd,jv]at he;refine rj (HI.mono l) hc (hx.items it (List.mem_of_getElem? nP)) hv (fun h2 l2=>⟨_,rfl,fun h0=>?_,fun h0=>?_⟩)
      ·replace h0:bq cols yg it=0:=h0;rw[if_neg (fun g=>g h0)]at he;rw[cU];exact⟨l.trans l2,he⟩
      ·replace h0:bq cols yg it≠0:=h0;rw[if_pos h0]at he;have af:=hr h2 De (l.trans l2) rfl (fun _=>rfl);clear hr cU h0;have Ay:bq cols yg it=De:=he;rw[show bq cols (⟨yg,yo,true⟩:Qy).group it=De from Ay];cbv;exact af
     ·rw[cU]at hI;obtain⟨l,he⟩:=hI;rw[List.drop_of_length_le (by rw[jV];exact Nat.le_refl _)]at he;have he:(0:Int)=De:=he;have af:=hr h' 0 l he.symm (fun _=>rfl);clear hr cU;cbv;exact af
    have hE:=vz (fun g=>ho g.1);clear vz hD;rw[decide_eq_false ho];cbv;repeat (first| (rw[ai A,ai A];refine ar mg rfl rfl ?_;cbv) | (rw[ai A];refine ar mg rfl rfl ?_;cbv) | (refine ar mg rfl rfl ?_;cbv) | (rw[ai A,ai A];refine ar g5 rfl rfl ?_;cbv) | (rw[ai A];refine ar g5 rfl rfl ?_;cbv) | (refine ar g5 rfl rfl ?_;cbv) | (refine⟨⟨_,rfl,rfl⟩,?_⟩;cbv))
    obtain⟨R,hR⟩:∃R,cf (bq cols yg) x.items=R:=⟨_,rfl⟩;rw[hR]at hE;cases hE;obtain⟨I2,cU⟩:∃I:Nat->ad->Prop,∀i h',I i h'=(Le h5 h'/\cf (bq cols yg) (x.items.drop i)=De):=⟨_,fun _ _=>rfl⟩;have gH:I2 0 h5:=by rw[cU];exact⟨Le.refl _,hR⟩
    refine j8 jV I2 gH (fun i h' hI=>?_) (fun i it h' ib im ic hi nP hI hv=>?_) (fun h' hI=>?_)
    ·rw[cU]at hI;exact OD.mono (hI.1.t _)
    ·rw[cU]at hI;obtain⟨l,he⟩:=hI;have hd:x.items.drop i=it::x.items.drop (i+1):=by obtain⟨h1,h2⟩:=List.getElem?_eq_some_iff.1 nP;rw[List.drop_eq_getElem_cons h1,h2]
     rw[hd,jv]at he;refine rj (HI.mono l) hc (hx.items it (List.mem_of_getElem? nP)) hv (fun h2 l2=>⟨_,rfl,fun h0=>?_,fun h0=>?_⟩)
     ·replace h0:bq cols yg it=0:=h0;rw[if_neg (fun g=>g h0)]at he;rw[cU];exact⟨l.trans l2,he⟩
     ·replace h0:bq cols yg it≠0:=h0;rw[if_pos h0]at he;have af:=hr h2 De (l.trans l2) rfl (fun _=>rfl);clear hr cU h0;have Ay:bq cols yg it=De:=he;rw[show bq cols (⟨yg,yo,true⟩:Qy).group it=De from Ay];cbv;exact af
    ·rw[cU]at hI;obtain⟨l,he⟩:=hI;rw[List.drop_of_length_le (by rw[jV];exact Nat.le_refl _)]at he;have he:(0:Int)=De:=he;have af:=hr h' 0 l he.symm (fun _=>rfl);clear hr cU;cbv;exact af
theorem Xf{h:ad}{z:Int}{m:Nat}(hz:aP z m)(hm:m<=2^38):
 Ct 252 [.slice none 0 0,.int .i64 z] h (fun v h'=>Le h h'/\∃b' c',v=.slice b' 0 c'/\cK 61 aQ h h' (.slice b' 0 c') ([]:List dc)):=by
 obtain⟨A,hA⟩:=Ar.ex;have h0:aP (A .nat 0) 0:=aP.nat 0;have hw:=hz.sub (A:=A) (h0.sub (A:=A) h0 (by omega) (by omega)) (by omega) (by omega);simp only[Nat.sub_zero,Nat.sub_self]at hw;refine ah A (aq YH.ax YH.bm) Tryz.func252 rfl (by kernel_rfl) ?_;cbv;rw[hz.ES (A:=A)];cbv;generalize eg:A .aF .gtr (A .bA .sub .i64 z (A .bA .sub .i64 (A .nat 0) (A .nat 0))) 0=u;generalize ew:A .bA .sub .i64 z (A .bA .sub .i64 (A .nat 0) (A .nat 0))=w at hw eg;rw[bH A]at eg;cases u with
 |true=>
  have hp:=of_decide_eq_true eg;have RI:0<m:=by have:=hw.eq;omega
  cbv;have Ao:(0:Int)<=A .nat 0/\A .nat 0<=((0:Nat):Int):=by have:=h0.eq;omega
  refine⟨Ao,?_⟩;cbv;refine⟨oe hw (by omega) (by decide),?_⟩;cbv;rw[dv (A:=A) hw,dv (A:=A) h0];refine jz (s:=aQ) (xs:=([]:List dc)) Sl.nil (by omega) rfl (by decide) (by omega) rfl rfl (fun nb c h1 eK l1 hc ho=>?_);rw[Nat.zero_add];have cy:(0:Int)<=A .nat 0/\A .nat 0<=((c:Nat):Int):=by have:=h0.eq;omega
  cbv;refine⟨cy,?_⟩;cbv;rw[dv (A:=A) h0,ry (A:=A)];exact⟨l1,_,_,rfl,ho.buf eK rfl⟩
 |false=>cbv;exact⟨Le.refl _,_,_,rfl,cK.nil⟩
theorem NP{L:List (List dc)}{h:ad}{b:Option Addr}{n c:Nat}(q:Sl 59 (jH 61 aQ) h (.slice b n c) L)(hn:L.flatten.length<=2^38):
 Ct 190 [.slice b n c] h (fun v h'=>Le h h'/\∃b' n' c',v=.slice b' n' c'/\cK 61 aQ h h' (.slice b' n' c') L.flatten):=by
 obtain⟨A,hA⟩:=Ar.ex;have hlen:=q.len;obtain⟨ju,iu⟩:=q.bound;refine ah A (aq Zi.ax Zi.bm) Tryz.func190 rfl (by kernel_rfl) ?_;cbv;refine aZ.go (G:=Int×Int) (fun g=>[(11,.v (.int .i64 g.1)),(3,.v (.int .i64 g.2))]) (fun _=>[])
  (fun k g h'=>∃i:Nat,aP g.1 i/\k=n-i/\i<=n/\h'=h/\aP g.2 (L.take i).flatten.length) n (0,0) ⟨?_,?_,?_⟩ ⟨0,⟨rfl⟩,by omega,by omega,rfl,⟨rfl⟩⟩ ?_
 ·cbv
 ·cbv
 ·cbv
 ·intro k g h' hI;cbv;obtain⟨i,hz,hk,hi,rfl,hw⟩:=hI;refine aN (fun hc=>?_) (fun hc=>?_)
  ·have aI:=hz.lt hc;clear hc;cbv;obtain⟨x,hx⟩:=aD (xs:=L) (i:=i) (by omega);refine⟨⟨q.bF (by omega),hz.ix aI⟩,?_⟩;cbv;refine q.load hx hz.eq (fun cs aJ=>?_);obtain⟨v,rfl,hv⟩:=aJ;obtain⟨b1,l1,c1,rfl⟩:=hv.form;have DK:=hv.len;have hle:=oN L (i+1);rw[fM hx,List.length_append,<-DK]at hle;have qT:=hw.add (A:=A) (aP.nat (A:=A) l1) (by omega);have Ax:=fM hx;cbv;rw[qT.ES (A:=A)];cbv;refine⟨n-(i+1),(_,A .bA .add .i64 g.2 (A .nat l1)),by omega,⟨?_,?_,?_⟩,i+1,hz.succ (A:=A) (by omega),rfl,by omega,rfl,?_⟩
   ·cbv
   ·cbv
   ·cbv
   ·rw[Ax,List.length_append,<-DK];exact qT
  ·have iW:=hz.ge hc;have fI:i=n:=by omega
   rw[List.take_of_length_le (by omega)]at hw;obtain⟨z,w⟩:=g;have hw:aP w L.flatten.length:=hw;cbv;refine(Xf hw hn).mono (fun v h1 hR=>?_);obtain⟨l1,b1,c1,rfl,hb⟩:=hR;cbv;refine aZ.go (G:=Int×Option Addr×Nat×Nat) (fun g=>[(27,.v (.int .i64 g.1)),(6,.v (.slice g.2.1 g.2.2.1 g.2.2.2))]) (fun _=>[])
    (fun k g h2=>∃i:Nat,aP g.1 i/\k=n-i/\i<=n/\Le h' h2/\cK 61 aQ h' h2 (.slice g.2.1 g.2.2.1 g.2.2.2) (L.take i).flatten) n (0,b1,0,c1) ⟨?_,?_,?_⟩ ⟨0,⟨rfl⟩,by omega,by omega,l1,hb⟩ ?_
   ·cbv
   ·cbv
   ·cbv
   ·intro k g h2 hI;cbv;obtain⟨i,hz,hk,hi,hle,hb⟩:=hI;obtain⟨z,gb,gl,gc⟩:=g;have hz:aP z i:=hz;have hb:cK 61 aQ h' h2 (.slice gb gl gc) (L.take i).flatten:=hb;refine aN (fun hc=>?_) (fun hc=>?_)
    ·have aI:=hz.lt hc;clear hc;cbv;obtain⟨x,hx⟩:=aD (xs:=L) (i:=i) (by omega);refine⟨⟨q.bF (by omega),hz.ix aI⟩,?_⟩;cbv;refine(q.mono (hle.t _)).load hx hz.eq (fun cs aJ=>?_);obtain⟨v,rfl,hv⟩:=aJ;obtain⟨b2,l2,c2,rfl⟩:=hv.form;have vi:=hv.len;have yT:gl=(L.take i).flatten.length:=hb.sl.len;have cB:=oN L (i+1);have Ax:=fM hx;rw[Ax,List.length_append,<-vi,<-yT]at cB;cbv;refine hb.append hv (by decide) rfl (by decide) (by omega) hle (fun m b' c' h3 hm l3 t3 k3 mX=>?_);cbv;refine⟨n-(i+1),(_,b',m,c'),by omega,⟨?_,?_,?_⟩,i+1,hz.succ (A:=A) (by omega),rfl,by omega,l3,?_⟩
     ·cbv
     ·cbv
     ·cbv
     ·rw[Ax];exact mX
    ·have iW:=hz.ge hc;cbv;rw[List.take_of_length_le (by omega)]at hb;exact⟨hle,_,_,_,rfl,hb⟩
structure tP(B h:ad)(ob:Nat)(nb:Option Nat)(l:List Row):Prop where
 out:∃b n c,h ob=some (.cells #[.slice b n c] 34 (0,0))/\Bx 59 az B h nb (.slice b n c) l
 le:Le B h
 no:B ob=none
theorem tP.mono{B h h':ad}{ob:Nat}{nb:Option Nat}{l:List Row}(q:tP B h ob nb l)(hl:Le h h'):tP B h' ob nb l:=by obtain⟨b,n,c,g,qb⟩:=q.out;exact⟨⟨b,n,c,hl _ _ g,qb.mono (hl.t _)⟩,q.le.trans hl,q.no⟩
def mQ(x:aB)(cols:List bM)(a b:Row)(out:List Row):List Row×Int:=match cW x.on cols (a++b)with
 | (on,e)=>if e≠0 then(out,e)else if on=false then(out,0)else match cW x.bB cols (a++b)with
  | (is,e)=>if e≠0 then(out,e)else(if is=true then out++[a++b]else out,0)
theorem nD(x:aB)(cols:List bM)(a b:Row)(bs out:List Row):fS x cols a (b::bs) out=if(mQ x cols a b out).2≠0 then mQ x cols a b out else fS x cols a bs (mQ x cols a b out).1:=by
 show(match cW x.on cols (a++b)with
  | (on,e)=>if e≠0 then(out,e)else if on=false then fS x cols a bs out else match cW x.bB cols (a++b)with
   | (is,e)=>if e≠0 then(out,e)else fS x cols a bs (if is=true then out++[a++b]else out))=_
 unfold mQ;generalize cW x.on cols (a++b)=H;obtain⟨on,e⟩:=H;generalize cW x.bB cols (a++b)=H2;obtain⟨is,e2⟩:=H2;by_cases h0:e=0
 ·subst h0;cases on with
  |false=>simp
  |true=>
   by_cases h2:e2=0
   ·simp[h2]
   ·simp[h2]
 ·simp[h0]
theorem Qa{B h:ad}{ob:Nat}{nb:Option Nat}{l:List Row}(qo:tP B h ob nb l)(hl:l.length<=2^37){qp qb:Nat}{x:aB}{cols:List bM}{y:Qy}(q:kV B qp x cols y)(gb:B qb=some (.cells #[.pointer (some ⟨qp,0,none⟩)] 186 (0,0)))(hx:eO x)(hc:∀c∈cols,Nm c.name)
 {a b:Row} (ha:eD a) (hb:eD b) (GB:a.length+b.length<=2^30) {xp:Nat} {ab:Option Addr} {an ac:Nat} (gx:h xp=some (.cells #[.slice ab an ac] 59 (0,0))) (qa:Sl 61 aQ h (.slice ab an ac) a) {bb:Option Addr} {bn bc:Nat} (qbb:Sl 61 aQ h (.slice bb bn bc) b)
 {D:List Row×Int} (hD:D=mQ x cols a b l) {k:Value->ad->Prop}
 (hk:∀h' mA,tP B h' ob mA D.1->(mA=nb\/∃j,mA=some j/\h j=none)->Kp (ob::nb.toList) h h'->k (.int .i64 D.2) h'):
 Ct 189 [.slice bb bn bc,.pointer (some ⟨xp,0,none⟩),.pointer (some ⟨qb,0,none⟩),.pointer (some ⟨ob,0,none⟩)] h k:=by
 obtain⟨A,hA⟩:=Ar.ex;have l0:=qo.le;have fK:=qo.no;have gb0:=l0 _ _ gb;replace hD:D=match cW x.on cols (a++b)with
  | (on,e)=>if e≠0 then(l,e)else if on=false then(l,0)else match cW x.bB cols (a++b)with
   | (is,e)=>if e≠0 then(l,e)else(if is=true then l++[a++b]else l,0):=hD
 have fI:eD (a++b):=fun v hv=>by
  rcases List.mem_append.1 hv with hv|hv
  ·exact ha v hv
  ·exact hb v hv
 refine(q.mono l0).elim (fun b5 n5 c5 b6 n6 c6 b7 n7 c7 b8 n8 c8 b9 n9 c9 eQ fJ eP cb cn cc g q1 q2 q3 q4 q5 q6 q7=>?_);clear q1 q3 q4 q5;refine ah A (aq Zj.ax Zj.bm) Tryz.func189 rfl (by kernel_rfl) ?_;cbv;refine ar gx rfl rfl ?_;cbv;intro t2 h1 f1 e1;have l1:Le h h1:=by rw[e1];exact Le.set f1
 have qL:Sl 59 (jH 61 aQ) h1 (.slice (some ⟨t2,0,none⟩) 2 2) [a,b]:=by
  refine Sl.fresh (s:=jH 61 aQ) (h:=h1) (n:=t2) (xs:=[a,b]) (cap:=2) (c:=[.slice ab an ac,.slice bb bn bc]) (by rw[e1];exact ae) ⟨Nat.le_refl 2,fun i x hx=>?_⟩ (by show 2<=_;omega) (Nat.le_refl 2)
  match i,hx with
  |0,hx=>cases hx;exact⟨_,rfl,qa.mono (l1.t _)⟩
  |1,hx=>cases hx;exact⟨_,rfl,qbb.mono (l1.t _)⟩
  |i+2,hx=>simp at hx
 clear e1;cbv;refine(NP qL (by simp;omega)).mono (fun v h2 hR=>?_);obtain⟨l2,rb,rn,rc,hv,qr⟩:=hR;subst hv;rw[show [a,b].flatten=a++b by simp]at qr;have iI:=l1.trans l2;have AI:=iI _ _ gb0;have g2:=iI _ _ g;have qo2:=qo.mono iI;clear qL qa qbb gx;cbv;repeat (first| (rw[ai A,ai A];refine ar AI rfl rfl ?_;cbv) | (rw[ai A];refine ar AI rfl rfl ?_;cbv) | (refine ar AI rfl rfl ?_;cbv) | (rw[ai A,ai A];refine ar g2 rfl rfl ?_;cbv) | (rw[ai A];refine ar g2 rfl rfl ?_;cbv) | (refine ar g2 rfl rfl ?_;cbv) | (refine⟨⟨_,rfl,rfl⟩,?_⟩;cbv))
 refine yP hx.on hc fI (q2.mono (iI.t _)) (q7.mono (iI.t _)) qr.sl (fun h3 t e l3 ht=>?_);rw[<-ht]at hD;replace hD:D=if e≠0 then(l,e)else if t=false then(l,0)else match cW x.bB cols (a++b)with
  | (is,e)=>if e≠0 then(l,e)else(if is=true then l++[a++b]else l,0):=hD
 have fe:A .aF .neq e 0=decide (e≠0):=ay A ..;have pE:A .not t= !t:=by rw[hA.not]
 have qO:=iI.trans l3;have qo3:=qo2.mono l3;by_cases h0:e≠0
 ·rw[if_pos h0]at hD;subst hD;have af:=hk h3 nb qo3 (.inl rfl) (qO.kp _);clear hk;cbv;rw[fe,decide_eq_true h0];cbv;exact af
 rw[if_neg h0]at hD;have e0:e=0:=Decidable.not_not.1 h0;subst e0;cases t with
 |false=>rw[if_pos rfl]at hD;subst hD;have af:=hk h3 nb qo3 (.inl rfl) (qO.kp _);clear hk;cbv;rw[fe,decide_eq_false h0];cbv;rw[pE];cbv;exact af
 |true=>
  rw[if_neg (by simp)]at hD;have Pv:=qO _ _ gb0;have g3:=qO _ _ g;cbv;rw[fe,decide_eq_false h0];cbv;rw[pE];cbv;repeat (first| (rw[ai A,ai A];refine ar Pv rfl rfl ?_;cbv) | (rw[ai A];refine ar Pv rfl rfl ?_;cbv) | (refine ar Pv rfl rfl ?_;cbv) | (rw[ai A,ai A];refine ar g3 rfl rfl ?_;cbv) | (rw[ai A];refine ar g3 rfl rfl ?_;cbv) | (refine ar g3 rfl rfl ?_;cbv) | (refine⟨⟨_,rfl,rfl⟩,?_⟩;cbv))
  refine yP hx.bB hc fI (q6.mono (qO.t _)) (q7.mono (qO.t _)) (qr.sl.mono (l3.t _)) (fun h4 u e l4 hu=>?_);rw[<-hu]at hD;replace hD:D=if e≠0 then(l,e)else(if u=true then l++[a++b]else l,0):=hD
  have mf:=qO.trans l4;have BU:=qo3.mono l4;have NF:A .aF .eql e 0=decide (e=0):=aw A ..;cases u with
  |false=>
   have hD:D=(l,e):=by
    rw[hD];by_cases h0:e≠0
    ·rw[if_pos h0]
    ·rw[if_neg h0,if_neg (by simp),Decidable.not_not.1 h0]
   subst hD;have af:=hk h4 nb BU (.inl rfl) (mf.kp _);clear hk;cbv;exact af
  |true=>
   by_cases h1:e=0
   ·subst h1;rw[if_neg (fun g=>g rfl),if_pos rfl]at hD;subst hD;obtain⟨b1,n1,c1,go,qx⟩:=BU.out;have lB:=BU.le;have oL:n1+1<=2^39:=by have:=qx.sl.len;omega
    have qr4:=qr.sl.mono ((l3.trans l4).t _);have Cs:∀h5 j,(nb=some j\/h5 j=none)->Le h4 h5->(some j=nb\/∃i,some j=some i/\h i=none):=fun h5 j hj l5=>by
     rcases hj with hj|hj
     ·exact .inl hj.symm
     ·refine .inr ⟨j,rfl,?_⟩;cases hh:h j with
      |none=>rfl
      |some o=>rw[l5 _ _ (mf _ _ hh)]at hj;cases hj
    clear qo qo2 qo3 BU;cbv;rw[NF];cbv;refine ar go rfl rfl ?_;cbv;intro t5 h5 f5 e5;have l5:Le h4 h5:=by rw[e5];exact Le.set f5
    have v5:Sl 59 az h5 (.slice (some ⟨t5,0,none⟩) 1 1) [a++b]:=bp (s:=az) ((congrFun e5 t5).trans ae) ⟨_,rfl,qr4.mono (l5.t _)⟩;have go5:=l5 _ _ go;have Wv:∀j,nb=some j->j≠ob:=fun j hj e=>by
     subst hj;obtain⟨c,fr,gg⟩:=qx.has;rw[e,go]at gg;cases gg
    clear e5;cbv;refine(qx.mono (l5.t _)).app v5 (by decide) rfl (by decide) oL (lB.trans l5) (fun j m c' h6 l6 KL B4 hj bx6=>?_);have go6:=KL _ _ go5 (fun hm=>by
     cases nb with
     |none=>cases hm
     |some i=>have:ob=i:=by simpa using hm
              exact Wv i rfl this.symm)
    have Cs:=Cs h5 j hj l5;cbv;refine eH go6 (by simp) (fun h7 e7=>?_);have af:=hk h7 (some j) ⟨⟨_,m,c',(by rw[e7];exact ae),bx6.mono (by rw[e7];exact bE.set go6 (by decide))⟩,(fun b o hb=>by rw[e7,av (fun e=>by rw[e,fK]at hb;cases hb)];exact l6 _ _ hb),fK⟩ Cs
     (fun b o hb hn=>by
      have n1:b≠ob:=fun e=>hn (by rw[e];exact List.mem_cons_self);rw[e7,av n1];exact KL _ _ (l5 _ _ (mf _ _ hb)) (fun hm=>hn (List.mem_cons_of_mem _ hm)))
    clear hk e7;cbv;exact af
   ·rw[if_pos h1]at hD;subst hD;have af:=hk h4 nb BU (.inl rfl) (mf.kp _);clear hk;cbv;rw[NF,decide_eq_false h1];cbv;exact af
def Fr(h:ad)(nb mA:Option Nat):Prop:=∀j o,mA=some j->h j=some o->nb=some j
theorem Fr.refl{h:ad}{nb:Option Nat}:Fr h nb nb:=fun j o e _=>e
theorem Fr.of{h:ad}{nb mA:Option Nat}(hh:mA=nb\/∃j,mA=some j/\h j=none):Fr h nb mA:=fun j o e1 e2=>by
 rcases hh with hh| ⟨i,h1,h2⟩
 ·rw[<-hh];exact e1
 ·rw[h1]at e1;cases e1;rw[h2]at e2;cases e2
theorem Fr.trans{h1 h':ad}{B B':ad}{ob:Nat}{nb mA yz:Option Nat}{l l':List Row}(Fe:Fr h1 nb mA)(OO:Kp (ob::nb.toList) h1 h')(q':∃b n c,h' ob=some (.cells #[.slice b n c] 34 (0,0))/\Bx 59 az B h' mA (.slice b n c) l')
 (q1:∃b n c,h1 ob=some (.cells #[.slice b n c] 34 (0,0))/\Bx 59 az B' h1 nb (.slice b n c) l) (ng:Fr h' mA yz):Fr h1 nb yz:=fun j o e1 e2=>by
 by_cases hm:j∈ob::nb.toList
 ·rcases List.mem_cons.1 hm with hm|hm
  ·obtain⟨b,n,c,g,qb⟩:=q';have:=ng j _ e1 (by rw[hm];exact g);subst this;obtain⟨cc,fr,gg⟩:=qb.has;rw[hm,g]at gg;cases gg
  ·cases nb with
   |none=>cases hm
   |some i=>have:j=i:=by simpa using hm
            rw[this]
 ·exact Fe j o (ng j _ e1 (OO _ _ e2 hm)) e2
theorem tP.VP{B h h':ad}{ob:Nat}{nb:Option Nat}{l:List Row}(q:tP B h ob nb l)(k:Kp (ob::nb.toList) h h'){tys:List Nat}(h1:34∉tys)(h2:59∉tys):bE tys h h':=fun b c e fr hm hb=>by
 obtain⟨sb,n,cc,g,qb⟩:=q.out;refine k b _ hb (fun hn=>?_);rcases List.mem_cons.1 hn with hn|hn
 ·rw[hn,g]at hb;cases hb;exact h1 hm
 ·cases nb with
  |none=>cases hn
  |some j=>
   have:b=j:=by simpa using hn
   subst this;obtain⟨c',Fu,g'⟩:=qb.has;rw[g']at hb;cases hb;exact h2 hm
theorem xA{x:aB}{cols:List bM}{a b:Row}{out:List Row}:(mQ x cols a b out).1.length<=out.length+1:=by
 unfold mQ;generalize cW x.on cols (a++b)=H;obtain⟨on,e⟩:=H;generalize cW x.bB cols (a++b)=H2;obtain⟨is,e2⟩:=H2;by_cases h0:e=0
 ·subst h0;cases on with
  |false=>simp
  |true=>
   by_cases h2:e2=0
   ·cases is<;>simp[h2]
   ·simp[h2]
 ·simp[h0]
theorem Qb{B h:ad}{ob:Nat}{nb:Option Nat}{l:List Row}(qo:tP B h ob nb l){qp qb:Nat}{x:aB}{cols:List bM}{y:Qy}(q:kV B qp x cols y)(gb:B qb=some (.cells #[.pointer (some ⟨qp,0,none⟩)] 186 (0,0)))(hx:eO x)(hc:∀c∈cols,Nm c.name)
 {a:Row} (ha:eD a) {bs:List Row} (hb:∀b∈bs,eD b/\a.length+b.length<=2^30) (hl:l.length+bs.length<=2^37) {ab:Option Addr} {an ac:Nat} (qa:Sl 61 aQ h (.slice ab an ac) a)
 {tb:Nat} {v1 v2 v3 v4:Value} {rb:Option Addr} {rn rc:Nat} (gt:B tb=some (.cells #[v1,v2,v3,v4,.slice rb rn rc] 51 (0,0))) (qr:Sl 59 az B (.slice rb rn rc) bs)
 {D:List Row×Int} (hD:D=fS x cols a bs l) {k:Value->ad->Prop}
 (hk:∀h' mA,tP B h' ob mA D.1->Fr h nb mA->Kp (ob::nb.toList) h h'->k (.int .i64 D.2) h'):
 Ct 188 [.slice ab an ac,.pointer (some ⟨tb,0,none⟩),.pointer (some ⟨qb,0,none⟩),.pointer (some ⟨ob,0,none⟩)] h k:=by
 obtain⟨A,hA⟩:=Ar.ex;refine ah A (aq Zk.ax Zk.bm) Tryz.func188 rfl (by kernel_rfl) ?_;cbv;intro xp h1 f1 e1;have l1:Le h h1:=by rw[e1];exact Le.set f1
 have gx1:h1 xp=some (.cells #[.slice ab an ac] 59 (0,0)):=by rw[e1];exact ae
 have Qg:=qo.mono l1;have hxo:xp≠ob:=fun e=>by
  obtain⟨sb,n,cc,g,-⟩:=qo.out;rw[e,g]at f1;cases f1
 have MJ:nb≠some xp:=fun e=>by
  obtain⟨sb,n,cc,g,qbx⟩:=qo.out;subst e;obtain⟨c,fr,gg⟩:=qbx.has;rw[gg]at f1;cases f1
 have Bt:=Qg.le _ _ gt;clear e1;obtain⟨I,bh⟩:∃I:Nat->ad->Prop,∀i h',I i h'=∃mA l',tP B h' ob mA l'/\l'.length<=l.length+i/\Fr h1 nb mA/\Kp (ob::nb.toList) h1 h'/\h' xp=some (.cells #[.slice ab an ac] 59 (0,0))/\Sl 61 aQ h' (.slice ab an ac) a/\fS x cols a (bs.drop i) l'=D:=⟨_,fun _ _=>rfl⟩;have hJ:I 0 h1:=by rw[bh];exact⟨nb,l,Qg,Nat.le_refl _,Fr.refl,Kp.refl _ _,gx1,qa.mono (l1.t _),hD.symm⟩
 have hfr:∀mA,Fr h1 nb mA->Fr h nb mA:=fun mA hh j o e1 e2=>hh j o e1 (l1 _ _ e2);cbv;rw[ai A];refine ar Bt rfl rfl ?_;cbv;refine CK qr.len I hJ (fun i h' hI=>?_) (fun i b h' b1 n1 c1 hi M7 hI hv=>?_) (fun h' hI=>?_)
 ·rw[bh]at hI;obtain⟨mA,l',q',-⟩:=hI;exact qr.mono (q'.le.t _)
 ·rw[bh]at hI;obtain⟨mA,l',q',ra,Fe,OO,gx',qa',he⟩:=hI;have hd:bs.drop i=b::bs.drop (i+1):=by obtain⟨h1,h2⟩:=List.getElem?_eq_some_iff.1 M7;rw[List.drop_eq_getElem_cons h1,h2]
  have R8:=hb b (List.mem_of_getElem? M7);have jV:i<bs.length:=(List.getElem?_eq_some_iff.1 M7).1;rw[hd,nD]at he;have hxn':mA≠some xp:=fun e=>MJ (Fe xp _ e gx1);refine Qa q' (by omega) q gb hx hc ha R8.1 R8.2 gx' qa' hv rfl (fun h2 yz q2 ng kp2=>⟨_,rfl,fun h0=>?_,fun h0=>?_⟩)
  ·rw[if_neg (fun g=>g h0)]at he;have hkx:xp∉ob::mA.toList:=fun hm=>by
    rcases List.mem_cons.1 hm with hm|hm
    ·exact hxo hm
    ·cases mA with
     |none=>cases hm
     |some j=>have:xp=j:=by simpa using hm
              exact hxn' (by rw[this])
   rw[bh];refine⟨yz,_,q2,Nat.le_trans xA (by omega),?_,?_,kp2 _ _ gx' hkx,qa'.mono (q'.VP kp2 (by decide) (by decide)),he⟩
   ·exact Fr.trans Fe OO q'.out Qg.out (Fr.of ng)
   ·exact fun b' o nh hm=>kp2 _ _ (OO _ _ nh hm) (fun tK=>by
     rcases List.mem_cons.1 tK with tK|tK
     ·exact hm (by rw[tK];exact List.mem_cons_self)
     ·cases mA with
      |none=>cases tK
      |some j=>
       have:b'=j:=by simpa using tK
       subst this;have:=Fe b' o rfl nh;exact hm (List.mem_cons_of_mem _ (by rw[this];simp)))
  ·rw[if_pos h0]at he;have q3:=q2;rw[he]at q3;have hfr2:=hfr yz (Fr.trans Fe OO q'.out Qg.out (Fr.of ng));have kp3:Kp (ob::nb.toList) h h2:=fun b' o nh hm=>by
    have ju:=l1 _ _ nh;refine kp2 _ _ (OO _ _ ju hm) (fun tK=>?_);rcases List.mem_cons.1 tK with tK|tK
    ·exact hm (by rw[tK];exact List.mem_cons_self)
    ·cases mA with
     |none=>cases tK
     |some j=>
      have:b'=j:=by simpa using tK
      subst this;have:=Fe b' o rfl ju;exact hm (List.mem_cons_of_mem _ (by rw[this];simp))
   have af:=hk h2 yz q3 hfr2 kp3;rw[he];clear hk bh hJ;generalize D.2=De at *;cbv;exact af
 ·rw[bh]at hI;obtain⟨mA,l',q',ra,Fe,OO,gx',qa',he⟩:=hI;rw[List.drop_of_length_le (by rw[qr.len];exact Nat.le_refl _)]at he;have he:(l',0)=D:=he;subst he;have af:=hk h' mA q' (hfr mA Fe) (fun b' o nh hm=>OO _ _ (l1 _ _ nh) hm);clear hk bh hJ;cbv;exact af
theorem nE(x:aB)(cols:List bM)(bs:List Row)(a:Row)(l out:List Row):cG x cols bs (a::l) out=match fS x cols a bs out with
 | (out,e)=>if e≠0 then(out,e)else cG x cols bs l out:=rfl
theorem pA{x:aB}{cols:List bM}{a:Row}:∀ {bs out:List Row},(fS x cols a bs out).1.length<=out.length+bs.length
 | [],out=>Nat.le_refl _
 |b::bs,out=>by
  rw[nD];have h1:=xA (x:=x) (cols:=cols) (a:=a) (b:=b) (out:=out);by_cases c:(mQ x cols a b out).2≠0
  ·rw[if_pos c];simp only[List.length_cons];omega
  ·rw[if_neg c];have:=pA (x:=x) (cols:=cols) (a:=a) (bs:=bs) (out:=(mQ x cols a b out).1);simp only[List.length_cons];omega
theorem Oy{h:ad}{qp:Nat}{x:aB}{cols:List bM}{y:Qy}(q:kV h qp x cols y)(hx:eO x)(hc:∀c∈cols,Nm c.name){as_ bs:List Row}(ha:∀a∈as_,eD a/\a.length<=2^20)(hb:∀b∈bs,eD b/\b.length<=2^20)(hal:as_.length<=2^10)(wu:bs.length<=2^10)
 {u1 u2 u3 u4 v1 v2 v3 v4:Value} (hu:iS [u1,u2,u3,u4]=true) (hv:iS [v1,v2,v3,v4]=true) {rb:Option Addr} {rn rc:Nat} (qr:Sl 59 az h (.slice rb rn rc) as_) {sb:Option Addr} {sn sc:Nat} (qs:Sl 59 az h (.slice sb sn sc) bs)
 {k:Value->ad->Prop} (hk:∀h' b n c nb,Le h h'->(∀j,nb=some j->h j=none)->Bx 59 az h h' nb (.slice b n c) (cG x cols bs as_ []).1->k (.tuple #[.slice b n c,.int .i64 (cG x cols bs as_ []).2]) h'):
 Ct 101 [.pointer (some ⟨qp,0,none⟩),.agg #[u1,u2,u3,u4,.slice rb rn rc],.agg #[v1,v2,v3,v4,.slice sb sn sc]] h k:=by
 obtain⟨A,hA⟩:=Ar.ex;obtain⟨D,hD⟩:∃D,cG x cols bs as_ []=D:=⟨_,rfl⟩;rw[hD]at hk;refine ah A (aq T101.ax T101.bm) Tryz.func101 rfl (by kernel_rfl) ?_;cbv;intro qb h1 f1 e1;have l1:Le h h1:=by rw[e1];exact Le.set f1
 have gb:h1 qb=some (.cells #[.pointer (some ⟨qp,0,none⟩)] 186 (0,0)):=by rw[e1];exact ae
 clear e1;cbv;intro tb h2 f2 e2;have l2:Le h1 h2:=by rw[e2];exact Le.set f2
 have gt:h2 tb=some (.cells #[v1,v2,v3,v4,.slice sb sn sc] 51 (0,0)):=by rw[e2];exact ae
 clear e2;cbv;intro ob h3 f3 e3;have l3:Le h2 h3:=by rw[e3];exact Le.set f3
 have go:h3 ob=some (.cells #[.slice none 0 0] 34 (0,0)):=by rw[e3];exact ae
 clear e3;have iI:=l1.trans l2;have Gn:Le h2 (Sx.cI h3 ob):=fun b o hb=>by
  rw[Sx.bV (fun e=>by rw[e,f3]at hb;cases hb)];exact l3 _ _ hb
 obtain⟨B,hB⟩:∃B,B=Sx.cI h3 ob:=⟨_,rfl⟩;rw[<-hB]at Gn;have Uo:Le B h3:=by rw[hB];exact Sx.dN h3 ob
 have Si:B ob=none:=by rw[hB];exact Sx.cO h3 ob
 have pI:Le h B:=iI.trans Gn;obtain⟨I,bh⟩:∃I:Nat->ad->Prop,∀i h',I i h'=∃nb l,tP B h' ob nb l/\l.length<=i*bs.length/\cG x cols bs (as_.drop i) l=D:=⟨_,fun _ _=>rfl⟩;have hJ:I 0 h3:=by rw[bh];exact⟨none,[],⟨⟨_,_,_,go,.inl ⟨rfl,rfl,rfl⟩⟩,Uo,Si⟩,by simp,hD⟩
 have fin:∀h' nb l e,tP B h' ob nb l->(l,e)=D->∃b n c,h' ob=some (.cells #[.slice b n c] 34 (0,0))/\k (.tuple #[.slice b n c,.int .i64 e]) h':=fun h' nb l e q' he=>by
  obtain⟨b,n,c,g,OC⟩:=q'.out;subst he;refine⟨b,n,c,g,hk h' b n c nb (pI.trans q'.le) (fun j hj=>?_) ?_⟩
  ·subst hj;rcases OC with ⟨h1,-⟩ | ⟨j',cap,e1,-,e3,-⟩
   ·cases h1
   ·cases e1;cases hh:h j with
    |none=>rfl
    |some o=>rw[pI _ _ hh]at e3;cases e3
  ·rcases OC with ⟨h1,h2,h3⟩ | ⟨j',cap,e1,e2,e3,o⟩
   ·exact .inl ⟨h1,h2,h3⟩
   ·exact .inr ⟨j',cap,e1,e2,(by
     cases hh:h j' with
     |none=>rfl
     |some o=>rw[pI _ _ hh]at e3;cases e3),o⟩
 clear hB hk;cbv;refine Fy qr.len I hJ (fun i h' hI=>?_) (fun i a h' b1 n1 c1 hi hax hI hv'=>?_) (fun h' hI=>?_)
 ·rw[bh]at hI;obtain⟨nb,l,q',-⟩:=hI;exact qr.mono ((pI.trans q'.le).t _)
 ·rw[bh]at hI;obtain⟨nb,l,q',ra,he⟩:=hI;have hd:as_.drop i=a::as_.drop (i+1):=by obtain⟨h1,h2⟩:=List.getElem?_eq_some_iff.1 hax;rw[List.drop_eq_getElem_cons h1,h2]
  have ham:=ha a (List.mem_of_getElem? hax);have jV:i<as_.length:=(List.getElem?_eq_some_iff.1 hax).1;rw[hd,nE]at he;have hib:i*bs.length<=2^20:=by have:i*bs.length<=2^10*2^10:=Nat.mul_le_mul (by omega) wu;omega
  refine Qb q' (q.mono pI) (Gn _ _ (l2 _ _ gb)) hx hc ham.1 (fun b R8=>⟨(hb b R8).1,by have:=(hb b R8).2;have:=ham.2;omega⟩) (by omega) hv' (Gn _ _ gt) (qs.mono (pI.t _)) rfl (fun h2 yz q2 _ _=>⟨_,rfl,fun h0=>?_,fun h0=>?_⟩)
  ·have Ry:=pA (x:=x) (cols:=cols) (a:=a) (bs:=bs) (out:=l);generalize fS x cols a bs l=E at *;obtain⟨out,e⟩:=E;replace he:(if e≠0 then(out,e)else cG x cols bs (as_.drop (i+1)) out)=D:=he;rw[if_neg (fun g=>g h0)]at he;rw[bh];refine⟨yz,out,q2,?_,he⟩;have:(i+1)*bs.length=i*bs.length+bs.length:=Nat.succ_mul _ _;have Ry:out.length<=l.length+bs.length:=Ry;omega
  ·generalize fS x cols a bs l=E at *;obtain⟨out,e⟩:=E;replace he:(if e≠0 then(out,e)else cG x cols bs (as_.drop (i+1)) out)=D:=he;rw[if_pos h0]at he;obtain⟨b,n,c,g,af⟩:=fin h2 yz out e q2 he;clear fin bh hJ;cbv;refine ar g rfl rfl ?_;cbv;exact af
 ·rw[bh]at hI;obtain⟨nb,l,q',ra,he⟩:=hI;rw[List.drop_of_length_le (by rw[qr.len];exact Nat.le_refl _)]at he;have he:(l,0)=D:=he;obtain⟨b,n,c,g,af⟩:=fin h' nb l 0 q' he;clear fin bh hJ;cbv;refine ar g rfl rfl ?_;cbv;exact af
theorem D7{xs:List Row}{h:ad}{b:Option Addr}{len cap:Nat}(q:Sl 59 az h (.slice b len cap) xs):
 Ct 195 [.slice b len cap] h (fun v h'=>Le h h'/\∃b' eU,v=.slice b' len eU/\cK 59 az h h' (.slice b' len eU) xs):=by
 obtain⟨A,hA⟩:=Ar.ex;refine ah A (aq Zg.ax Zg.bm) Tryz.func195 rfl (by kernel_rfl) ?_;cbv;refine aN (fun hc=>?_) (fun hc=>?_)
 ·rw[hA.wF]at hc;cbv;have hb:b=none:=by cases b<;>simp at hc |-
  subst hb;have hl:len=0:=by
   rcases Nat.eq_zero_or_pos len with e|e
   ·exact e
   ·have:=q.bF e;cases this
  have:=q.len;have hx:xs=[]:=List.eq_nil_of_length_eq_zero (by omega);subst hx hl;exact⟨Le.refl _,none,0,rfl,cK.nil⟩
 ·cbv;intro n0 h1 jU dU;have hle:Le h h1:=by rw[dU];exact Le.set jU
  cbv;refine eJ (q.mono (hle.t _)) (by decide) rfl (by decide) (fun hn=>?_) (fun nb c h2 e1 e2 e3 e4=>?_)
  ·cbv;have:=q.len;have hx:xs=[]:=List.eq_nil_of_length_eq_zero (by omega);subst hx hn;exact⟨hle,_,_,rfl,cK.nil⟩
  ·cbv;exact⟨hle.trans e3,_,_,rfl,e4.buf (hle.none e1) q.len⟩
theorem Sl.Dl{α:Type}{e:Nat}{s:Sh α}{h:ad}{b:Option Addr}{n c c':Nat}{xs:List α}(q:Sl e s h (.slice b n c) xs)(hc:n<=c'):Sl e s h (.slice b n c') xs:=by obtain⟨b',cap,h1,h2,h3,h4⟩:=q.out;cases h1;exact⟨b,c',rfl,hc,h3,h4⟩
theorem xD{mV:Int}{n:Nat}(h:¬mV<0):min mV (n:Int)=((min mV.toNat n:Nat):Int):=by omega
theorem Ik{xs:List (Row)}{h:ad}{b:Option Addr}{n c:Nat}(q:Sl 59 az h (.slice b n c) xs)(mV:Int){k:Value->ad->Prop}(hk:∀b' n' c',Sl 59 az h (.slice b' n' c') (cH xs mV)->k (.slice b' n' c') h):
 Ct 194 [.slice b n c,.int .i64 mV] h k:=by
 obtain⟨A,hA⟩:=Ar.ex;have hn:=q.len;have hb:=q.bound;have f1:A .aF .lss mV 0=decide (mV<0):=bC A ..;obtain⟨m,hm⟩:∃m,A .kQ mV (A .nat n)=m:=⟨_,rfl⟩;have tK:m=min mV (n:Int):=by rw[<-hm,hA.kQ,hA.nat];rfl
 refine ah A (aq Zh.ax Zh.bm) Tryz.func194 rfl (by kernel_rfl) ?_;cbv;rw[f1];by_cases h0:mV<0
 ·have hP:cH xs mV=xs:=by unfold cH;rw[if_pos h0]
  rw[hP]at hk;have af:=hk b n c q;clear hk;rw[decide_eq_true h0];cbv;exact af
 ·have hP:cH xs mV=xs.take mV.toNat:=by unfold cH;rw[if_neg h0]
  have I7:aP m (min mV.toNat n):=⟨tK.trans (xD h0)⟩;have ht:xs.take mV.toNat=xs.take (min mV.toNat n):=by
   rw[hn];rcases Nat.le_total mV.toNat xs.length with h1|h1
   ·rw[Nat.min_eq_left h1]
   ·rw[Nat.min_eq_right h1,List.take_of_length_le h1,List.take_of_length_le (Nat.le_refl _)]
  rw[hP,ht]at hk;have cy:0<=m/\m<=(c:Int):=by have:=I7.eq;omega
  have WN:=dv (A:=A) I7;rw[decide_eq_false h0];cbv;rw[hm];cbv;refine⟨cy,?_⟩;have hz:m-0=((min mV.toNat n:Nat):Int):=by rw[I7.eq];omega
  have af:=fun c' nT=>hk _ _ _ (Sl.Dl (q.sN (A:=A) (z:=A .nat c) (Nat.min_le_right mV.toNat n) rfl rfl) (c':=c') nT);clear hk;cbv;rw[WN];exact af c (by omega)
theorem HP{h:ad}{qp:Nat}{x:aB}{cols:List bM}{y:Qy}(q:kV h qp x cols y)(hx:eO x)(hc:∀c∈cols,Nm c.name)(ho:y.order<0){rows:List Row}(hr:∀r∈rows,eD r)(Bp:rows.length<=2^20){rb:Option Addr}{rn rc:Nat}(qr:Sl 59 az h (.slice rb rn rc) rows)
 {k:Value->ad->Prop} (hk:∀h' b n c,Le h h'->Sl 59 az h' (.slice b n c) (iR x cols y.order rows).1->k (.tuple #[.slice b n c,.int .i64 (iR x cols y.order rows).2]) h'):
 Ct 102 [.pointer (some ⟨qp,0,none⟩),.slice rb rn rc] h k:=by
 obtain⟨A,hA⟩:=Ar.ex;have hP:iR x cols y.order rows=lz x cols (cH rows x.fE) []:=by unfold iR;rw[if_neg (by omega)]
 rw[hP]at hk;obtain⟨D,hD⟩:∃D,lz x cols (cH rows x.fE) []=D:=⟨_,rfl⟩;rw[hD]at hk;refine q.elim (fun b5 n5 c5 b6 n6 c6 b7 n7 c7 b8 n8 c8 b9 n9 c9 eQ fJ eP cb cn cc g q1 q2 q3 q4 q5 q6 q7=>?_);clear q1 q2 q3 q4 q6;have fo:A .aF .geq y.order 0=false:=by rw[bO A];exact decide_eq_false (by omega)
 refine ah A (aq T102.ax T102.bm) Tryz.func102 rfl (by kernel_rfl) ?_;cbv;intro qb h1 f1 e1;have l1:Le h h1:=by rw[e1];exact Le.set f1
 have gb:h1 qb=some (.cells #[.pointer (some ⟨qp,0,none⟩)] 186 (0,0)):=by rw[e1];exact ae
 have g1:=l1 _ _ g;clear e1;cbv;repeat (first| (rw[ai A,ai A];refine ar gb rfl rfl ?_;cbv) | (rw[ai A];refine ar gb rfl rfl ?_;cbv) | (refine ar gb rfl rfl ?_;cbv) | (rw[ai A,ai A];refine ar g1 rfl rfl ?_;cbv) | (rw[ai A];refine ar g1 rfl rfl ?_;cbv) | (refine ar g1 rfl rfl ?_;cbv) | (refine⟨⟨_,rfl,rfl⟩,?_⟩;cbv))
 intro ob W9 f2 e2;have l2a:Le h1 W9:=by rw[e2];exact Le.set f2
 have goa:W9 ob=some (.cells #[.int .i64 0] 3 (0,0)):=by rw[e2];exact ae
 clear e2;cbv;refine eH goa (by simp) (fun h2 e2=>?_);have l2:Le h1 h2:=fun b o hb=>by rw[e2,av (fun e=>by rw[e,f2]at hb;cases hb)];exact l2a _ _ hb
 have go:h2 ob=some (.cells #[.int .i64 y.order] 3 (0,0)):=by rw[e2];exact ae
 have AI:=l2 _ _ gb;have g2:=l2 _ _ g1;have iI:=l1.trans l2;have qr2:=qr.mono (iI.t _);replace q5:=q5.mono (iI.t _);replace q7:=q7.mono (iI.t _);clear e2 g gb g1;cbv;refine ar go rfl rfl ?_;cbv;rw[fo];cbv;repeat (first| (rw[ai A,ai A];refine ar AI rfl rfl ?_;cbv) | (rw[ai A];refine ar AI rfl rfl ?_;cbv) | (refine ar AI rfl rfl ?_;cbv) | (rw[ai A,ai A];refine ar g2 rfl rfl ?_;cbv) | (rw[ai A];refine ar g2 rfl rfl ?_;cbv) | (refine ar g2 rfl rfl ?_;cbv) | (refine⟨⟨_,rfl,rfl⟩,?_⟩;cbv))
 have RF:=q5.len;have KX:=q5.bound;obtain⟨LX,Sc⟩:∃LX,LX=x.items.map (fun i:dp=>i.e):=⟨_,rfl⟩;obtain⟨N9,hN9⟩:∃N9,N9=n9:=⟨_,rfl⟩;obtain⟨I,bh⟩:∃I:Nat->(Int×Option Addr×Nat×Nat)->ad->Prop,∀m g h',I m g h'=∃i,aP g.1 i/\i<=n9/\m=n9-i/\Le h2 h'/\cK 42 eR h2 h' (.slice g.2.1 g.2.2.1 g.2.2.2) (LX.take i):=⟨_,fun _ _ _=>rfl⟩;have hJ:I n9 (0,none,0,0) h2:=by rw[bh];exact⟨0,⟨rfl⟩,Nat.zero_le _,rfl,Le.refl _,cK.nil⟩
 have jV:=hx.VV;have fI:=hx.items;cbv;refine aZ.go (G:=Int×Option Addr×Nat×Nat) (fun g=>[(30,.v (.int .i64 g.1)),(7,.v (.slice g.2.1 g.2.2.1 g.2.2.2))]) (fun _=>[]) (fun m g h'=>I m g h') n9 (0,none,0,0) ⟨?_,?_,?_⟩ hJ ?_
 ·cbv
 ·cbv
 ·cbv
 ·intro m gg h3 hI;rw[bh]at hI;cbv;obtain⟨i,hz,hi,hm,zu,qb⟩:=hI;obtain⟨z,b7,n7,c7⟩:=gg;replace hz:aP z i:=hz;replace qb:cK 42 eR h2 h3 (.slice b7 n7 c7) (LX.take i):=qb;have f1:A .aF .lss z (A .nat n9)=decide (i<n9):=hz.gE (aP.nat n9);have q53:=q5.mono (zu.t _);cbv;rw[f1];by_cases aI:i<n9
  ·obtain⟨it,Gw⟩:=aD (xs:=x.items) (i:=i) (by omega);have cy:0<=z/\z<(n9:Int):=hz.ix aI;have eX:=hz.eq;have dz:=hz.succ (A:=A) (by omega);have iD:n9-(i+1)<m:=by omega
   have hLi:LX.take i++[it.e]=LX.take (i+1):=by
    have:LX[i]? =some it.e:=by rw[Sc,List.getElem?_map,Gw];rfl
    rw[List.take_add_one,this];rfl
   have hn7:n7=i:=by have h1:=qb.sl.len;rw[h1,List.length_take,Sc,List.length_map];omega
   have cU:∀h4 b4 n4 c4,Le h2 h4->cK 42 eR h2 h4 (.slice b4 n4 c4) (LX.take (i+1))->I (n9-(i+1)) (A .bA .add .i64 z 1,b4,n4,c4) h4:=fun h4 b4 n4 c4 l4 o4=>by
    rw[bh];exact⟨i+1,dz,aI,rfl,l4,o4⟩
   have O0:=q53.bF (by omega:0<n9);clear bh hJ hk dz;rw[decide_eq_true aI];cbv;refine⟨⟨O0,cy⟩,?_⟩;cbv;refine qN q53 Gw eX (fun bi ni ci qi=>?_);cbv;intro nb4 h4 f4 e4;have l4:Le h3 h4:=by rw[e4];exact Le.set f4
   have v4:Sl 42 eR h4 (.slice (some ⟨nb4,0,none⟩) 1 1) [it.e]:=bp (s:=eR) ((congrFun e4 nb4).trans ae) ⟨_,rfl,qi.mono (l4.t _)⟩;clear e4;cbv;refine(qb.mono (l4.t _)).append v4 (by decide) rfl (by decide) (by omega) (zu.trans l4) (fun m5 b5 c5 h5 Ut l5 t5 k5 te=>?_);clear t5 k5 v4;rw[hLi]at te;have af:=cU h5 b5 m5 c5 l5 te;clear cU;cbv;refine⟨n9-(i+1),(A .bA .add .i64 z 1,b5,m5,c5),iD,⟨?_,?_,?_⟩,af⟩
   ·cbv
   ·cbv
   ·cbv
  ·have hi2:i=n9:=by omega
   have hLi:LX.take i=LX:=by rw[List.take_of_length_le];rw[Sc,List.length_map];omega
   rw[hLi]at qb;have hn7:n7=x.items.length:=by have h1:=qb.sl.len;rw[h1,Sc,List.length_map]
   have g3:=zu _ _ g2;have Pv:=zu _ _ AI;have qr3:=qr2.mono (zu.t _);clear bh hJ;rw[decide_eq_false aI];cbv;repeat (first| (rw[ai A,ai A];refine ar Pv rfl rfl ?_;cbv) | (rw[ai A];refine ar Pv rfl rfl ?_;cbv) | (refine ar Pv rfl rfl ?_;cbv) | (rw[ai A,ai A];refine ar g3 rfl rfl ?_;cbv) | (rw[ai A];refine ar g3 rfl rfl ?_;cbv) | (refine ar g3 rfl rfl ?_;cbv) | (refine⟨⟨_,rfl,rfl⟩,?_⟩;cbv))
   refine Ik qr3 x.fE (fun lb ln lc qm=>?_);obtain⟨M,hM⟩:∃M,cH rows x.fE=M:=⟨_,rfl⟩;rw[hM]at qm hD;have hMr:∀r∈M,eD r:=fun r hm=>hr r (by
    rw[<-hM]at hm;unfold cH at hm;split at hm
    ·exact hm
    ·exact List.mem_of_mem_take hm)
   have hMl:M.length<=2^20:=by
    rw[<-hM];unfold cH;split
    ·exact Bp
    ·rw[List.length_take];omega
   have xI:=qm.len;have AE:=qm.bound;have qL:=qb.sl;have l3B:Le h h3:=iI.trans zu;replace q7:=q7.mono (zu.t _);obtain⟨I2,bh⟩:∃I:Nat->(Int×Option Addr×Nat×Nat)->ad->Prop,∀m g h',I m g h'=∃i out,aP g.1 i/\i<=ln/\m=ln-i/\Le h3 h'/\out.length=i/\cK 59 az h3 h' (.slice g.2.1 g.2.2.1 g.2.2.2) out/\lz x cols (M.drop i) out=D:=⟨_,fun _ _ _=>rfl⟩;have hJ:I2 ln (0,none,0,0) h3:=by rw[bh];exact⟨0,[],⟨rfl⟩,Nat.zero_le _,rfl,Le.refl _,rfl,cK.nil,hD⟩
   clear qr3 hM hD hr Bp q5 qr2 go g2 AI;cbv;refine aZ.go (G:=Int×Option Addr×Nat×Nat) (fun g=>[(48,.v (.int .i64 g.1)),(10,.v (.slice g.2.1 g.2.2.1 g.2.2.2))]) (fun _=>[]) (fun m g h'=>I2 m g h') ln (0,none,0,0) ⟨?_,?_,?_⟩ hJ ?_
   ·cbv
   ·cbv
   ·cbv
   ·intro m2 gg h4 hI;rw[bh]at hI;cbv;obtain⟨j,out,hw,hj,tK,B8,hol,qo,hD⟩:=hI;obtain⟨w,bo,no,co⟩:=gg;replace hw:aP w j:=hw;replace qo:cK 59 az h3 h4 (.slice bo no co) out:=qo;have f2:A .aF .lss w (A .nat ln)=decide (j<ln):=hw.gE (aP.nat ln);have Vb:=qm.mono (B8.t _);have fK:=qo.sl.len;cbv;rw[f2];by_cases KS:j<ln
    ·obtain⟨r,Ub⟩:=aD (xs:=M) (i:=j) (by omega);have hrm:=hMr r (List.mem_of_getElem? Ub);have mI:0<=w/\w<(ln:Int):=hw.ix KS;have hwe:=hw.eq;have V0:=hw.succ (A:=A) (by omega);have Ff:ln-(j+1)<m2:=by omega
     have xJ:M.drop j=r::M.drop (j+1):=by obtain⟨h1,h2⟩:=List.getElem?_eq_some_iff.1 Ub;rw[List.drop_eq_getElem_cons h1,h2]
     rw[xJ]at hD;replace hD:(if x.items.length=0 then lz x cols (M.drop (j+1)) (out++[r])else match ep (x.items.map (·.e)) cols r with
      | (v,e)=>if e≠0 then([],e)else lz x cols (M.drop (j+1)) (out++[v]))=D:=hD
     have xL:∀h5 b5 m5 c5 v,Le h3 h5->m5=no+1->cK 59 az h3 h5 (.slice b5 m5 c5) (out++[v])->lz x cols (M.drop (j+1)) (out++[v])=D->I2 (ln-(j+1)) (A .bA .add .i64 w 1,b5,m5,c5) h5:=fun h5 b5 m5 c5 v l5 Ut o5 hd=>by
      rw[bh];exact⟨j+1,out++[v],V0,KS,rfl,l5,by rw[List.length_append,List.length_singleton,hol],o5,hd⟩
     have Rt:=Vb.bF (by omega:0<ln);have fl:A .aF .gtr (A .nat n7) 0=decide (n7≠0):=by
      rw[bH A,hA.nat];apply decide_eq_decide.2;constructor
      ·intro h1 h2;rw[h2]at h1;exact absurd h1 (by decide)
      ·intro h1;have:0<n7:=Nat.pos_of_ne_zero h1;exact Int.natCast_pos.2 this
     have g4:=B8 _ _ g3;have Nv:=B8 _ _ Pv;clear bh hJ V0;rw[decide_eq_true KS];cbv;refine⟨⟨Rt,mI⟩,?_⟩;cbv;refine nL Vb Ub hwe (fun br nr cr L5=>?_);cbv;rw[fl];by_cases h0:n7=0
     ·rw[if_pos (by omega)]at hD;rw[decide_eq_false (fun g=>g h0)];cbv;refine(ma L5).mono (fun v5 h5 hR=>?_);obtain⟨l5,b5,c5,Wa,Qf⟩:=hR;subst Wa;cbv;intro KC h6 f6 e6;have l6:Le h5 h6:=by rw[e6];exact Le.set f6
      have v6:Sl 59 az h6 (.slice (some ⟨KC,0,none⟩) 1 1) [r]:=bp (s:=az) ((congrFun e6 KC).trans ae) ⟨_,rfl,Qf.sl.mono (l6.t _)⟩;clear e6;cbv;refine(qo.mono ((l5.trans l6).t _)).append v6 (by decide) rfl (by decide) (by omega) (B8.trans (l5.trans l6)) (fun m7 b7 c7 h7 em7 l7 t7 k7 Bs=>?_);clear t7 k7 v6;have af:=xL h7 b7 m7 c7 r l7 em7 Bs hD;clear xL hk;cbv;refine⟨ln-(j+1),(A .bA .add .i64 w 1,b7,m7,c7),Ff,⟨?_,?_,?_⟩,af⟩
      ·cbv
      ·cbv
      ·cbv
     ·rw[if_neg (by omega)]at hD;rw[decide_eq_true h0];cbv;repeat (first| (rw[ai A,ai A];refine ar Nv rfl rfl ?_;cbv) | (rw[ai A];refine ar Nv rfl rfl ?_;cbv) | (refine ar Nv rfl rfl ?_;cbv) | (rw[ai A,ai A];refine ar g4 rfl rfl ?_;cbv) | (rw[ai A];refine ar g4 rfl rfl ?_;cbv) | (refine ar g4 rfl rfl ?_;cbv) | (refine⟨⟨_,rfl,rfl⟩,?_⟩;cbv))
      refine ye (xs:=LX) (fun ex hex=>?_) hc hrm (by rw[Sc,List.length_map];omega) (qL.mono (B8.t _)) (q7.mono (B8.t _)) L5 (fun h5 b5 n5' c5' vl e l5 KQ Qf hvi=>?_)
      ·rw[Sc]at hex;obtain⟨it,DL,rfl⟩:=List.mem_map.1 hex;exact fI it DL
      rw[Sc]at KQ;rw[<-KQ]at hD;replace hD:(if e≠0 then([],e)else lz x cols (M.drop (j+1)) (out++[vl]))=D:=hD;have fe:A .aF .neq e 0=decide (e≠0):=ay A ..;cbv;rw[fe];by_cases he:e≠0
      ·rw[if_pos he]at hD;subst hD;have af:=hk h5 none 0 0 (l3B.trans (B8.trans l5)) Sl.nil;clear hk xL;rw[decide_eq_true he];cbv;exact af
      ·rw[if_neg he]at hD;rw[decide_eq_false he];cbv;refine(ma Qf.sl).mono (fun v6 h6 hR=>?_);obtain⟨l6,b6,c6,hv6,qv6⟩:=hR;subst hv6;cbv;intro TL h7 f7 e7;have l7:Le h6 h7:=by rw[e7];exact Le.set f7
       have v7:Sl 59 az h7 (.slice (some ⟨TL,0,none⟩) 1 1) [vl]:=bp (s:=az) ((congrFun e7 TL).trans ae) ⟨_,rfl,qv6.sl.mono (l7.t _)⟩;clear e7;cbv;refine(qo.mono ((l5.trans (l6.trans l7)).t _)).append v7 (by decide) rfl (by decide) (by omega) (B8.trans (l5.trans (l6.trans l7))) (fun m8 b8 c8 h8 em8 l8 t8 k8 Jp=>?_);clear t8 k8 v7;have af:=xL h8 b8 m8 c8 vl l8 em8 Jp hD;clear xL hk;cbv;refine⟨ln-(j+1),(A .bA .add .i64 w 1,b8,m8,c8),Ff,⟨?_,?_,?_⟩,af⟩
       ·cbv
       ·cbv
       ·cbv
    ·have Gv:j=ln:=by omega
     rw[List.drop_of_length_le (by omega)]at hD;replace hD:(out,0)=D:=hD;subst hD;clear bh hJ;rw[decide_eq_false KS];cbv;refine(D7 qo.sl).mono (fun v5 h5 hR=>?_);obtain⟨l5,b5,c5,Wa,Qf⟩:=hR;subst Wa;have af:=hk h5 b5 no c5 (l3B.trans (B8.trans l5)) Qf.sl;clear hk;cbv;exact af
theorem Il{xs:List (List Row)}{h:ad}{b:Option Addr}{n c:Nat}(q:Sl 34 (jH 59 az) h (.slice b n c) xs)(mV:Int){k:Value->ad->Prop}(hk:∀b' n' c',Sl 34 (jH 59 az) h (.slice b' n' c') (cH xs mV)->k (.slice b' n' c') h):
 Ct 196 [.slice b n c,.int .i64 mV] h k:=by
 obtain⟨A,hA⟩:=Ar.ex;have hn:=q.len;have hb:=q.bound;have f1:A .aF .lss mV 0=decide (mV<0):=bC A ..;obtain⟨m,hm⟩:∃m,A .kQ mV (A .nat n)=m:=⟨_,rfl⟩;have tK:m=min mV (n:Int):=by rw[<-hm,hA.kQ,hA.nat];rfl
 refine ah A (aq Zf.ax Zf.bm) Tryz.func196 rfl (by kernel_rfl) ?_;cbv;rw[f1];by_cases h0:mV<0
 ·have hP:cH xs mV=xs:=by unfold cH;rw[if_pos h0]
  rw[hP]at hk;have af:=hk b n c q;clear hk;rw[decide_eq_true h0];cbv;exact af
 ·have hP:cH xs mV=xs.take mV.toNat:=by unfold cH;rw[if_neg h0]
  have I7:aP m (min mV.toNat n):=⟨tK.trans (xD h0)⟩;have ht:xs.take mV.toNat=xs.take (min mV.toNat n):=by
   rw[hn];rcases Nat.le_total mV.toNat xs.length with h1|h1
   ·rw[Nat.min_eq_left h1]
   ·rw[Nat.min_eq_right h1,List.take_of_length_le h1,List.take_of_length_le (Nat.le_refl _)]
  rw[hP,ht]at hk;have cy:0<=m/\m<=(c:Int):=by have:=I7.eq;omega
  have WN:=dv (A:=A) I7;rw[decide_eq_false h0];cbv;rw[hm];cbv;refine⟨cy,?_⟩;have hz:m-0=((min mV.toNat n:Nat):Int):=by rw[I7.eq];omega
  have af:=fun c' nT=>hk _ _ _ (Sl.Dl (q.sN (A:=A) (z:=A .nat c) (Nat.min_le_right mV.toNat n) rfl rfl) (c':=c') nT);clear hk;cbv;rw[WN];exact af c (by omega)
theorem Nt{h:ad}{qp:Nat}{x:aB}{cols:List bM}{y:Qy}(q:kV h qp x cols y)(hg:y.group<0){rows:List Row}{rb:Option Addr}{rn rc:Nat}(qr:Sl 59 az h (.slice rb rn rc) rows)
 {k:Value->ad->Prop} (hk:∀h' b,Le h h'->Sl 34 (jH 59 az) h' (.slice (some ⟨b,0,none⟩) 1 1) [rows]->k (.slice (some ⟨b,0,none⟩) 1 1) h'):
 Ct 197 [.pointer (some ⟨qp,0,none⟩),.slice rb rn rc] h k:=by
 obtain⟨A,hA⟩:=Ar.ex;refine q.elim (fun b5 n5 c5 b6 n6 c6 b7 n7 c7 b8 n8 c8 b9 n9 c9 eQ fJ eP cb cn cc g q1 q2 q3 q4 q5 q6 q7=>?_);clear q1 q2 q3 q4 q5 q6 q7;have fo:A .aF .lss y.group 0=true:=by rw[bC A];exact decide_eq_true (by omega)
 refine ah A (aq Ze.ax Ze.bm) Tryz.func197 rfl (by kernel_rfl) ?_;cbv;intro qb h1 f1 e1;have l1:Le h h1:=by rw[e1];exact Le.set f1
 have gb:h1 qb=some (.cells #[.pointer (some ⟨qp,0,none⟩)] 186 (0,0)):=by rw[e1];exact ae
 have g1:=l1 _ _ g;clear e1;cbv;repeat (first| (rw[ai A,ai A];refine ar gb rfl rfl ?_;cbv) | (rw[ai A];refine ar gb rfl rfl ?_;cbv) | (refine ar gb rfl rfl ?_;cbv) | (rw[ai A,ai A];refine ar g1 rfl rfl ?_;cbv) | (rw[ai A];refine ar g1 rfl rfl ?_;cbv) | (refine ar g1 rfl rfl ?_;cbv) | (refine⟨⟨_,rfl,rfl⟩,?_⟩;cbv))
 intro ob W9 f2 e2;have l2a:Le h1 W9:=by rw[e2];exact Le.set f2
 have goa:W9 ob=some (.cells #[.int .i64 0] 3 (0,0)):=by rw[e2];exact ae
 clear e2;cbv;refine eH goa (by simp) (fun h2 e2=>?_);have l2:Le h1 h2:=fun b o hb=>by rw[e2,av (fun e=>by rw[e,f2]at hb;cases hb)];exact l2a _ _ hb
 have go:h2 ob=some (.cells #[.int .i64 y.group] 3 (0,0)):=by rw[e2];exact ae
 have iI:=l1.trans l2;clear e2;cbv;refine ar go rfl rfl ?_;cbv;rw[fo];cbv;intro nb h3 f3 e3;have l3:Le h2 h3:=by rw[e3];exact Le.set f3
 have v3:Sl 34 (jH 59 az) h3 (.slice (some ⟨nb,0,none⟩) 1 1) [rows]:=bp (s:=(jH 59 az)) ((congrFun e3 nb).trans ae) ⟨_,rfl,qr.mono ((iI.trans l3).t _)⟩;have af:=hk h3 nb (iI.trans l3) v3;clear e3 hk;cbv;exact af
def CU(n:Nat):dc:=⟨2,n,b0⟩
theorem CX{h:ad}{qp:Value}{rb:Option Addr}{rn rc:Nat}{eb:Option Addr}{en ec:Nat}
 {k:Value->ad->Prop} (hk:∀h' N,Le h h'->N=(rn:Int)->k (.tuple #[.agg #[.int .i64 2,.int .i64 N,.string b0],.int .i64 0]) h'):
 Ct 199 [qp,.agg #[.int .i64 1,.slice eb en ec],.slice rb rn rc] h k:=by
 obtain⟨A,hA⟩:=Ar.ex;obtain⟨N,hN⟩:∃N,A .nat rn=N:=⟨_,rfl⟩;have hN2:N=(rn:Int):=by rw[<-hN,hA.nat];rfl
 refine ah A (aq Zc.ax Zc.bm) Tryz.func199 rfl (by kernel_rfl) ?_;cbv;intro qb h1 f1 e1;have l1:Le h h1:=by rw[e1];exact Le.set f1
 clear e1;cbv;intro ib h2 f2 e2;have l2:Le h1 h2:=by rw[e2];exact Le.set f2
 have gi:h2 ib=some (.cells #[.int .i64 1,.slice eb en ec] 276 (0,0)):=by rw[e2];exact ae
 clear e2;cbv;intro vb h3 f3 e3;have l3:Le h2 h3:=by rw[e3];exact Le.set f3
 have gv:h3 vb=some (.cells #[.int .i64 0,.int .i64 0,.string ⟨#[]⟩] 61 (0,0)):=by rw[e3];exact ae
 have gi3:=l3 _ _ gi;clear e3;cbv;repeat (first| (rw[ai A,ai A];refine ar gi3 rfl rfl ?_;cbv) | (rw[ai A];refine ar gi3 rfl rfl ?_;cbv) | (refine ar gi3 rfl rfl ?_;cbv) | (refine⟨⟨_,rfl,rfl⟩,?_⟩;cbv))
 have f11:A .aF .eql 1 1=true:=by rw[aw A];rfl
 rw[f11];cbv;rw[hN];refine eH gv (by simp) (fun h4 e4=>?_);have l4:Le h2 h4:=fun b o hb=>by rw[e4,av (fun e=>by rw[e,f3]at hb;cases hb)];exact l3 _ _ hb
 have gv4:h4 vb=some (.cells #[.int .i64 2,.int .i64 N,.string b0] 61 (0,0)):=by rw[e4];exact ae
 clear e4;have af:=hk h4 N ((l1.trans l2).trans l4) hN2;clear hk;cbv;repeat (first| (rw[ai A,ai A];refine ar gv4 rfl rfl ?_;cbv) | (rw[ai A];refine ar gv4 rfl rfl ?_;cbv) | (refine ar gv4 rfl rfl ?_;cbv) | (refine⟨⟨_,rfl,rfl⟩,?_⟩;cbv))
 exact af
theorem Nx{B h:ad}{ob:Nat}{l:Row}(qo:Gf B h ob l)(hl:l.length<=2^30){qp qb gb:Nat}{rb:Option Addr}{rn rc:Nat}(gq:B qb=some (.cells #[.pointer (some ⟨qp,0,none⟩)] 186 (0,0)))(gg:B gb=some (.cells #[.slice rb rn rc] 34 (0,0))){eb:Option Addr}{en ec:Nat}
 {k:Value->ad->Prop} (hk:∀h',Gf B h' ob (l++[CU rn])->k (.int .i64 0) h'):
 Ct 198 [.agg #[.int .i64 1,.slice eb en ec],.pointer (some ⟨qb,0,none⟩),.pointer (some ⟨gb,0,none⟩),.pointer (some ⟨ob,0,none⟩)] h k:=by
 obtain⟨A,hA⟩:=Ar.ex;have l0:=qo.le;have fK:=qo.no;obtain⟨b,n,c,go,OC⟩:=qo.out;have AE:=OC.sl.len;have gq0:=l0 _ _ gq;have gg0:=l0 _ _ gg;refine ah A (aq Zd.ax Zd.bm) Tryz.func198 rfl (by kernel_rfl) ?_;cbv;repeat (first| (rw[ai A,ai A];refine ar gq0 rfl rfl ?_;cbv) | (rw[ai A];refine ar gq0 rfl rfl ?_;cbv) | (refine ar gq0 rfl rfl ?_;cbv) | (rw[ai A,ai A];refine ar gg0 rfl rfl ?_;cbv) | (rw[ai A];refine ar gg0 rfl rfl ?_;cbv) | (refine ar gg0 rfl rfl ?_;cbv) | (refine⟨⟨_,rfl,rfl⟩,?_⟩;cbv))
 refine CX (fun h1 N l1 hN=>?_);have CH:=l1 _ _ go;cbv;repeat (first| (rw[ai A,ai A];refine ar CH rfl rfl ?_;cbv) | (rw[ai A];refine ar CH rfl rfl ?_;cbv) | (refine ar CH rfl rfl ?_;cbv) | (refine⟨⟨_,rfl,rfl⟩,?_⟩;cbv))
 intro n2 h2 g2 e2;have l2:Le h1 h2:=by rw[e2];exact Le.set g2
 have v2:Sl 61 aQ h2 (.slice (some ⟨n2,0,none⟩) 1 1) [CU rn]:=bp (s:=aQ) ((congrFun e2 n2).trans ae) (by rw[hN];rfl);have go2:=l2 _ _ CH;clear e2;cbv;refine(OC.mono ((l1.trans l2).t _)).append v2 (by decide) rfl (by decide) (by omega) (l0.trans (l1.trans l2)) (fun m3 b3 c3 h3 Uu l3 t3 k3 mX=>?_);have GH:h3 ob=some (.cells #[.slice b n c] 59 (0,0)):=t3 [59] (by decide) _ _ _ _ (List.mem_singleton.2 rfl) go2;clear t3 k3 v2;cbv;refine eH GH (by simp) (fun h4 e4=>?_);have af:=hk h4 ⟨⟨b3,m3,c3,by rw[e4];exact ae,mX.mono (by rw[e4];exact bE.set GH (by decide))⟩,fun b' o' nh=>by rw[e4,av (fun e=>by rw[e,fK]at nh;cases nh)];exact l3 _ _ nh,fK⟩;clear hk e4;cbv;exact af
theorem x6{cols:List bM}{gr:Int}{g:List Row}:∀ {is:List dp} {r:Row},(∀i∈is,i.fn=1)->x7 cols gr g is r=(r++List.replicate is.length (CU g.length),0)
 | [],r,_=>by show(r,0)=_;simp
 |i::is,r,h=>by
  have h1:Oe cols gr i g=(CU g.length,0):=by unfold Oe;rw[if_pos (h i List.mem_cons_self)];rfl
  show(match Oe cols gr i g with
   | (v,e)=>if e≠0 then([],e)else x7 cols gr g is (r++[v]))=_
  rw[h1];show(if(0:Int)≠0 then([],0)else x7 cols gr g is (r++[CU g.length]))=_;rw[if_neg (fun g=>g rfl),x6 (fun j hj=>h j (List.mem_cons_of_mem _ hj))];simp[List.replicate_succ]
theorem DT{h:ad}{qp:Nat}{x:aB}{cols:List bM}{y:Qy}(q:kV h qp x cols y)(hx:eO x)(hg:y.group<0)(Uj:∀i∈x.items,i.fn=1){rows:List Row}{rb:Option Addr}{rn rc:Nat}(qr:Sl 59 az h (.slice rb rn rc) rows)
 {k:Value->ad->Prop} (hk:∀h' b n c,Le h h'->Sl 59 az h' (.slice b n c) (fL x cols y.group rows).1->k (.tuple #[.slice b n c,.int .i64 (fL x cols y.group rows).2]) h'):
 Ct 103 [.pointer (some ⟨qp,0,none⟩),.slice rb rn rc] h k:=by
 obtain⟨A,hA⟩:=Ar.ex;have hP:fL x cols y.group rows=mK x cols y.group (cH [rows] x.fE) []:=by unfold fL DP;rw[if_pos hg]
 rw[hP]at hk;obtain⟨D,hD⟩:∃D,mK x cols y.group (cH [rows] x.fE) []=D:=⟨_,rfl⟩;rw[hD]at hk;refine q.elim (fun b5 n5 c5 b6 n6 c6 b7 n7 c7 b8 n8 c8 b9 n9 c9 eQ fJ eP cb cn cc g q1 q2 q3 q4 q5 q6 q7=>?_);clear q1 q2 q3 q4 q6 q7;refine ah A (aq Z9.ax Z9.bm) Tryz.func103 rfl (by kernel_rfl) ?_;cbv;intro qb h1 f1 e1;have l1:Le h h1:=by rw[e1];exact Le.set f1
 have gb:h1 qb=some (.cells #[.pointer (some ⟨qp,0,none⟩)] 186 (0,0)):=by rw[e1];exact ae
 have g1:=l1 _ _ g;have q1:=q.mono l1;clear e1;cbv;repeat (first| (rw[ai A,ai A];refine ar gb rfl rfl ?_;cbv) | (rw[ai A];refine ar gb rfl rfl ?_;cbv) | (refine ar gb rfl rfl ?_;cbv) | (rw[ai A,ai A];refine ar g1 rfl rfl ?_;cbv) | (rw[ai A];refine ar g1 rfl rfl ?_;cbv) | (refine ar g1 rfl rfl ?_;cbv) | (refine⟨⟨_,rfl,rfl⟩,?_⟩;cbv))
 refine Nt q1 hg (qr.mono (l1.t _)) (fun h2 bg l2 qg=>?_);have AI:=l2 _ _ gb;have g2:=l2 _ _ g1;cbv;repeat (first| (rw[ai A,ai A];refine ar AI rfl rfl ?_;cbv) | (rw[ai A];refine ar AI rfl rfl ?_;cbv) | (refine ar AI rfl rfl ?_;cbv) | (rw[ai A,ai A];refine ar g2 rfl rfl ?_;cbv) | (rw[ai A];refine ar g2 rfl rfl ?_;cbv) | (refine ar g2 rfl rfl ?_;cbv) | (refine⟨⟨_,rfl,rfl⟩,?_⟩;cbv))
 refine Il qg x.fE (fun lb ln lc qm=>?_);obtain⟨M,hM⟩:∃M,cH [rows] x.fE=M:=⟨_,rfl⟩;rw[hM]at qm hD;have hMl:M.length<=1:=by
  rw[<-hM];unfold cH;split
  ·exact Nat.le_refl _
  ·rw[List.length_take];exact Nat.min_le_right _ _
 have xI:=qm.len;have iI:=l1.trans l2;replace q5:=q5.mono (iI.t _);have RF:=q5.len;have jV:=hx.VV;obtain⟨I2,bh⟩:∃I:Nat->(Int×Option Addr×Nat×Nat)->ad->Prop,∀m g h',I m g h'=∃i out,aP g.1 i/\i<=ln/\m=ln-i/\Le h2 h'/\out.length=i/\cK 59 az h2 h' (.slice g.2.1 g.2.2.1 g.2.2.2) out/\mK x cols y.group (M.drop i) out=D:=⟨_,fun _ _ _=>rfl⟩;have hJ:I2 ln (0,none,0,0) h2:=by rw[bh];exact⟨0,[],⟨rfl⟩,Nat.zero_le _,rfl,Le.refl _,rfl,cK.nil,hD⟩
 clear hM hD qg q1 q qr;cbv;repeat (refine⟨⟨_,rfl,rfl⟩,?_⟩;cbv)
 refine aZ.go (G:=Int×Option Addr×Nat×Nat) (fun g=>[(21,.v (.int .i64 g.1)),(6,.v (.slice g.2.1 g.2.2.1 g.2.2.2))]) (fun _=>[]) (fun m g h'=>I2 m g h') ln (0,none,0,0) ⟨?_,?_,?_⟩ hJ ?_
 ·cbv
 ·cbv
 ·cbv
 ·intro m2 gg h4 hI;rw[bh]at hI;cbv;obtain⟨j,out,hw,hj,tK,sX,hol,qo,hD⟩:=hI;obtain⟨w,bo,no,co⟩:=gg;replace hw:aP w j:=hw;replace qo:cK 59 az h2 h4 (.slice bo no co) out:=qo;have f2:A .aF .lss w (A .nat ln)=decide (j<ln):=hw.gE (aP.nat ln);have Vb:=qm.mono (sX.t _);have fK:=qo.sl.len;cbv;rw[f2];by_cases KS:j<ln
  ·obtain⟨r,Ub⟩:=aD (xs:=M) (i:=j) (by omega);have mI:0<=w/\w<(ln:Int):=hw.ix KS;have hwe:=hw.eq;have V0:=hw.succ (A:=A) (by omega);have Ff:ln-(j+1)<m2:=by omega
   have xJ:M.drop j=r::M.drop (j+1):=by obtain⟨h1,h2⟩:=List.getElem?_eq_some_iff.1 Ub;rw[List.drop_eq_getElem_cons h1,h2]
   obtain⟨RV,hRV⟩:∃RV,RV=List.replicate x.items.length (CU r.length):=⟨_,rfl⟩;rw[xJ]at hD;replace hD:(match x7 cols y.group r x.items []with
    | (r,e)=>if e≠0 then([],e)else mK x cols y.group (M.drop (j+1)) (out++[r]))=D:=hD
   rw[x6 Uj,List.nil_append,<-hRV]at hD;replace hD:(if(0:Int)≠0 then([],0)else mK x cols y.group (M.drop (j+1)) (out++[RV]))=D:=hD;rw[if_neg (fun g=>g rfl)]at hD;have xL:∀h5 b5 m5 c5,Le h2 h5->m5=no+1->cK 59 az h2 h5 (.slice b5 m5 c5) (out++[RV])->I2 (ln-(j+1)) (A .bA .add .i64 w 1,b5,m5,c5) h5:=fun h5 b5 m5 c5 l5 Ut o5=>by
    rw[bh];exact⟨j+1,out++[RV],V0,KS,rfl,l5,by rw[List.length_append,List.length_singleton,hol],o5,hD⟩
   have Rt:=Vb.bF (by omega:0<ln);have g4:=sX _ _ g2;have Nv:=sX _ _ AI;clear bh hJ V0;rw[decide_eq_true KS];cbv;refine⟨⟨Rt,mI⟩,?_⟩;cbv;refine nL Vb Ub hwe (fun br nr cr L5=>?_);have hnr:=L5.len;cbv;intro gx h5a f5 e5;have l5a:Le h4 h5a:=by rw[e5];exact Le.set f5
   have ggxa:h5a gx=some (.cells #[.slice none 0 0] 34 (0,0)):=by rw[e5];exact ae
   clear e5;cbv;refine eH ggxa (by simp) (fun h5 e5=>?_);have l5:Le h4 h5:=fun b o hb=>by rw[e5,av (fun e=>by rw[e,f5]at hb;cases hb)];exact l5a _ _ hb
   have ggx:h5 gx=some (.cells #[.slice br nr cr] 34 (0,0)):=by rw[e5];exact ae
   clear e5;cbv;intro ox h6 f6 e6;have l6:Le h5 h6:=by rw[e6];exact Le.set f6
   have gox:h6 ox=some (.cells #[.slice none 0 0] 59 (0,0)):=by rw[e6];exact ae
   have l6B:Le h5 (Sx.cI h6 ox):=fun b o hb=>by
    rw[Sx.bV (fun e=>by rw[e,f6]at hb;cases hb)];exact l6 _ _ hb
   clear e6;obtain⟨B,hB⟩:∃B,B=Sx.cI h6 ox:=⟨_,rfl⟩;rw[<-hB]at l6B;have hB6:Le B h6:=by rw[hB];exact Sx.dN h6 ox
   have Si:B ox=none:=by rw[hB];exact Sx.cO h6 ox
   have l4B:Le h4 B:=l5.trans l6B;obtain⟨J,dI⟩:∃J:Nat->ad->Prop,∀i h',J i h'=Gf B h' ox (List.replicate i (CU r.length)):=⟨_,fun _ _=>rfl⟩;have Un:J 0 h6:=by rw[dI];exact⟨⟨none,0,0,gox,cK.nil⟩,hB6,Si⟩
   have g6:=l5.trans l6 _ _ g4;have gb6:=l5.trans l6 _ _ Nv;have q54:=q5.mono (sX.t _);clear hB;cbv;repeat (first| (rw[ai A,ai A];refine ar gb6 rfl rfl ?_;cbv) | (rw[ai A];refine ar gb6 rfl rfl ?_;cbv) | (refine ar gb6 rfl rfl ?_;cbv) | (rw[ai A,ai A];refine ar g6 rfl rfl ?_;cbv) | (rw[ai A];refine ar g6 rfl rfl ?_;cbv) | (refine ar g6 rfl rfl ?_;cbv) | (refine⟨⟨_,rfl,rfl⟩,?_⟩;cbv))
   refine AP RF J Un (fun i h' hI=>?_) (fun i it h' b1 n1 c1 hi Gw hI hv=>?_) (fun h' hI=>?_)
   ·rw[dI]at hI;exact q54.mono ((l4B.trans hI.le).t _)
   ·rw[dI]at hI;rw[Uj it (List.mem_of_getElem? Gw)];refine Nx hI (by rw[List.length_replicate];omega) (l4B _ _ Nv) (l6B _ _ ggx) (fun h7 q7=>⟨0,rfl,fun _=>?_,fun h0=>absurd rfl h0⟩);rw[hnr,<-List.replicate_succ']at q7;rw[dI];exact q7
   ·rw[dI]at hI;obtain⟨b7,n7,c7,g7,qb7⟩:=hI.out;have l7:Le h4 h':=l4B.trans hI.le;have fe:A .aF .neq 0 0=false:=by rw[ay A];rfl
    rw[RF,<-hRV]at qb7;cbv;rw[fe];cbv;repeat (first| (rw[ai A,ai A];refine ar g7 rfl rfl ?_;cbv) | (rw[ai A];refine ar g7 rfl rfl ?_;cbv) | (refine ar g7 rfl rfl ?_;cbv) | (refine⟨⟨_,rfl,rfl⟩,?_⟩;cbv))
    refine(ma qb7.sl).mono (fun v8 h8 hR=>?_);obtain⟨l8,b8,c8,hv8,qv8⟩:=hR;subst hv8;cbv;intro nb9 h9 f9 e9;have l9:Le h8 h9:=by rw[e9];exact Le.set f9
    have v9:Sl 59 az h9 (.slice (some ⟨nb9,0,none⟩) 1 1) [RV]:=bp (s:=az) ((congrFun e9 nb9).trans ae) ⟨_,rfl,qv8.sl.mono (l9.t _)⟩;clear e9;cbv;refine(qo.mono ((l7.trans (l8.trans l9)).t _)).append v9 (by decide) rfl (by decide) (by omega) (sX.trans (l7.trans (l8.trans l9))) (fun TO eQ eP fh S3 mE t10 IE yW=>?_);clear t10 IE v9;have af:=xL fh eQ TO eP mE S3 yW;clear xL hk dI Un;cbv;refine⟨ln-(j+1),(A .bA .add .i64 w 1,eQ,TO,eP),Ff,⟨?_,?_,?_⟩,af⟩
    ·cbv
    ·cbv
    ·cbv
  ·have Gv:j=ln:=by omega
   rw[List.drop_of_length_le (by omega)]at hD;replace hD:(out,0)=D:=hD;subst hD;clear bh hJ;rw[decide_eq_false KS];cbv;refine(D7 qo.sl).mono (fun v5 h5 hR=>?_);obtain⟨l5,b5,c5,Wa,Qf⟩:=hR;subst Wa;have af:=hk h5 b5 no c5 (iI.trans (sX.trans l5)) Qf.sl;clear hk;cbv;exact af
end Go.S
