import Derived.Test.YtekoaiendgjkdaaGreatQC
import Derived.Test.YtekoaiendgjkdaaGreatEA
set_option linter.unusedVariables false
set_option linter.unusedSimpArgs false
set_option linter.unusedSectionVars false
set_option maxRecDepth 100000
set_option maxHeartbeats 8000000
namespace Go.S
open Go.Sx Go.Proofs
theorem V0{h:ad}{qp qb:Nat}{x:az}{cols:List bT}{y:Qy}(q:lf h qp x cols y)(gb:h qb=some (.cells #[.pointer (some ⟨qp,0,none⟩)] 186 (0,0)))(hx:eG x)(hc:∀c∈cols,Nm c.name){k:Value->ad->Prop}
 (hk:∀h',Le h h'->k (.int .i64 (aF x.on cols)) h'):Ct 175 [.pointer (some ⟨qb,0,none⟩)] h k:=by
 obtain⟨A,hA⟩:=Ar.ex;refine q.elim (fun b5 n5 c5 b6 n6 c6 b7 n7 c7 b8 n8 c8 b9 n9 c9 fG gG fF cb cn cc g q1 q2 q3 q4 q5 q6 q7=>?_);refine ah A (ar T175.aA T175.bm) Tryz.func175 rfl (by kernel_rfl) ?_;cbv;repeat (first| (rw[ai A,ai A];refine av gb rfl rfl ?_;cbv) | (rw[ai A];refine av gb rfl rfl ?_;cbv) | (refine av gb rfl rfl ?_;cbv) | (rw[ai A,ai A];refine av g rfl rfl ?_;cbv) | (rw[ai A];refine av g rfl rfl ?_;cbv) | (refine av g rfl rfl ?_;cbv) | (refine⟨⟨_,rfl,rfl⟩,?_⟩;cbv))
 refine ns hx.on hc q2 q7 (fun h1 e l1 he=>?_);rw[<-he]at hk;have ae:=hk h1 l1;clear hk he;cbv;exact ae
theorem VZ{h:ad}{qp qb:Nat}{x:az}{cols:List bT}{y:Qy}(q:lf h qp x cols y)(gb:h qb=some (.cells #[.pointer (some ⟨qp,0,none⟩)] 186 (0,0)))(hx:eG x)(hc:∀c∈cols,Nm c.name){k:Value->ad->Prop}
 (hk:∀h',Le h h'->k (.int .i64 (aF x.bM cols)) h'):Ct 176 [.pointer (some ⟨qb,0,none⟩)] h k:=by
 obtain⟨A,hA⟩:=Ar.ex;refine q.elim (fun b5 n5 c5 b6 n6 c6 b7 n7 c7 b8 n8 c8 b9 n9 c9 fG gG fF cb cn cc g q1 q2 q3 q4 q5 q6 q7=>?_);refine ah A (ar T176.aA T176.bm) Tryz.func176 rfl (by kernel_rfl) ?_;cbv;repeat (first| (rw[ai A,ai A];refine av gb rfl rfl ?_;cbv) | (rw[ai A];refine av gb rfl rfl ?_;cbv) | (refine av gb rfl rfl ?_;cbv) | (rw[ai A,ai A];refine av g rfl rfl ?_;cbv) | (rw[ai A];refine av g rfl rfl ?_;cbv) | (refine av g rfl rfl ?_;cbv) | (refine⟨⟨_,rfl,rfl⟩,?_⟩;cbv))
 refine ns hx.bM hc q6 q7 (fun h1 e l1 he=>?_);rw[<-he]at hk;have ae:=hk h1 l1;clear hk he;cbv;exact ae
theorem VX{h:ad}{qp qb:Nat}{x:az}{cols:List bT}{y:Qy}(q:lf h qp x cols y)(gb:h qb=some (.cells #[.pointer (some ⟨qp,0,none⟩)] 186 (0,0)))(hx:eG x)(hc:∀c∈cols,Nm c.name){k:Value->ad->Prop}
 (hk:∀h',Kp [qp] h h'->lf h' qp x cols ⟨(bh x.group cols).1,y.order,y.jK⟩->k (.int .i64 (bh x.group cols).2) h'):Ct 180 [.pointer (some ⟨qb,0,none⟩)] h k:=by
 obtain⟨A,hA⟩:=Ar.ex;refine q.elim (fun b5 n5 c5 b6 n6 c6 b7 n7 c7 b8 n8 c8 b9 n9 c9 fG gG fF cb cn cc g q1 q2 q3 q4 q5 q6 q7=>?_);refine ah A (ar T180.aA T180.bm) Tryz.func180 rfl (by kernel_rfl) ?_;cbv;repeat (first| (rw[ai A,ai A];refine av gb rfl rfl ?_;cbv) | (rw[ai A];refine av gb rfl rfl ?_;cbv) | (refine av gb rfl rfl ?_;cbv) | (rw[ai A,ai A];refine av g rfl rfl ?_;cbv) | (rw[ai A];refine av g rfl rfl ?_;cbv) | (refine av g rfl rfl ?_;cbv) | (refine⟨⟨_,rfl,rfl⟩,?_⟩;cbv))
 refine FJ q hc hx.group (fun h1 l1=>?_);have Px:=l1 _ _ gb;have g1:=l1 _ _ g;have eK:cF mq h h1:=l1.t _;generalize bh x.group cols=E at *;obtain⟨e1,e2⟩:=E;cbv;repeat (first| (rw[ai A,ai A];refine av Px rfl rfl ?_;cbv) | (rw[ai A];refine av Px rfl rfl ?_;cbv) | (refine av Px rfl rfl ?_;cbv) | (refine⟨⟨_,rfl,rfl⟩,?_⟩;cbv))
 first|rw[ai A] |skip
 refine jz g1 (by simp) (fun h2 CT=>?_);have gy:cF mq h1 h2:=by rw[CT];exact cF.set g1 (by decide)
 have lt:=eK.trans gy;have ae:=hk h2 (fun b o hb hn=>by rw[CT,aP (by simpa using hn)];exact l1 _ _ hb) ⟨b5,n5,c5,b6,n6,c6,b7,n7,c7,b8,n8,c8,b9,n9,c9,fG,gG,fF,cb,cn,cc,(by rw[CT,af];rfl),q1.mono (lt.sub (by decide)),q2.mono (lt.sub (by decide)),q3.mono (lt.sub (by decide)),q4.mono (lt.sub (by decide)),q5.mono (lt.sub (by decide)),q6.mono (lt.sub (by decide)),q7.mono (lt.sub (by decide))⟩;clear hk CT;cbv;exact ae
theorem VW{h:ad}{qp qb:Nat}{x:az}{cols:List bT}{y:Qy}(q:lf h qp x cols y)(gb:h qb=some (.cells #[.pointer (some ⟨qp,0,none⟩)] 186 (0,0)))(hx:eG x)(hc:∀c∈cols,Nm c.name){k:Value->ad->Prop}
 (hk:∀h',Kp [qp] h h'->lf h' qp x cols ⟨y.group,(bh x.order cols).1,y.jK⟩->k (.int .i64 (bh x.order cols).2) h'):Ct 182 [.pointer (some ⟨qb,0,none⟩)] h k:=by
 obtain⟨A,hA⟩:=Ar.ex;refine q.elim (fun b5 n5 c5 b6 n6 c6 b7 n7 c7 b8 n8 c8 b9 n9 c9 fG gG fF cb cn cc g q1 q2 q3 q4 q5 q6 q7=>?_);refine ah A (ar T182.aA T182.bm) Tryz.func182 rfl (by kernel_rfl) ?_;cbv;repeat (first| (rw[ai A,ai A];refine av gb rfl rfl ?_;cbv) | (rw[ai A];refine av gb rfl rfl ?_;cbv) | (refine av gb rfl rfl ?_;cbv) | (rw[ai A,ai A];refine av g rfl rfl ?_;cbv) | (rw[ai A];refine av g rfl rfl ?_;cbv) | (refine av g rfl rfl ?_;cbv) | (refine⟨⟨_,rfl,rfl⟩,?_⟩;cbv))
 refine FJ q hc hx.order (fun h1 l1=>?_);have Px:=l1 _ _ gb;have g1:=l1 _ _ g;have eK:cF mq h h1:=l1.t _;generalize bh x.order cols=E at *;obtain⟨e1,e2⟩:=E;cbv;repeat (first| (rw[ai A,ai A];refine av Px rfl rfl ?_;cbv) | (rw[ai A];refine av Px rfl rfl ?_;cbv) | (refine av Px rfl rfl ?_;cbv) | (refine⟨⟨_,rfl,rfl⟩,?_⟩;cbv))
 first|rw[ai A] |skip
 refine jz g1 (by simp) (fun h2 CT=>?_);have gy:cF mq h1 h2:=by rw[CT];exact cF.set g1 (by decide)
 have lt:=eK.trans gy;have ae:=hk h2 (fun b o hb hn=>by rw[CT,aP (by simpa using hn)];exact l1 _ _ hb) ⟨b5,n5,c5,b6,n6,c6,b7,n7,c7,b8,n8,c8,b9,n9,c9,fG,gG,fF,cb,cn,cc,(by rw[CT,af];rfl),q1.mono (lt.sub (by decide)),q2.mono (lt.sub (by decide)),q3.mono (lt.sub (by decide)),q4.mono (lt.sub (by decide)),q5.mono (lt.sub (by decide)),q6.mono (lt.sub (by decide)),q7.mono (lt.sub (by decide))⟩;clear hk CT;cbv;exact ae
theorem jM{α:Type}(f:α->Int)(x:α)(r:List α):cD f (x::r)=if f x≠0 then f x else cD f r:=rfl
theorem VY{h:ad}{qp qb:Nat}{x:az}{cols:List bT}{y:Qy}(q:lf h qp x cols y)(gb:h qb=some (.cells #[.pointer (some ⟨qp,0,none⟩)] 186 (0,0)))(hx:eG x)(hc:∀c∈cols,Nm c.name){k:Value->ad->Prop}
 (hk:∀h',Le h h'->k (.int .i64 (cD (gN cols) x.items)) h'):Ct 177 [.pointer (some ⟨qb,0,none⟩)] h k:=by
 obtain⟨A,hA⟩:=Ar.ex;refine q.elim (fun b5 n5 c5 b6 n6 c6 b7 n7 c7 b8 n8 c8 b9 n9 c9 fG gG fF cb cn cc g q1 q2 q3 q4 q5 q6 q7=>?_);clear q1 q2 q3 q4 q6 q7;obtain⟨R,hR⟩:∃R,cD (gN cols) x.items=R:=⟨_,rfl⟩;rw[hR]at hk;obtain⟨I,bl⟩:∃I:Nat->ad->Prop,∀i h',I i h'=(Le h h'/\cD (gN cols) (x.items.drop i)=R):=⟨_,fun _ _=>rfl⟩;have hJ:I 0 h:=by rw[bl];exact⟨Le.refl _,hR⟩
 refine ah A (ar T177.aA T177.bm) Tryz.func177 rfl (by kernel_rfl) ?_;cbv;repeat (first| (rw[ai A,ai A];refine av gb rfl rfl ?_;cbv) | (rw[ai A];refine av gb rfl rfl ?_;cbv) | (refine av gb rfl rfl ?_;cbv) | (rw[ai A,ai A];refine av g rfl rfl ?_;cbv) | (rw[ai A];refine av g rfl rfl ?_;cbv) | (refine av g rfl rfl ?_;cbv) | (refine⟨⟨_,rfl,rfl⟩,?_⟩;cbv))
 refine Hy q5.len I hJ (fun i h' hI=>?_) (fun i it h' ib im ic hi rv hI hv=>?_) (fun h' hI=>?_)
 ·rw[bl]at hI;exact q5.mono (hI.1.t _)
 ·rw[bl]at hI;obtain⟨l,he⟩:=hI;have hd:x.items.drop i=it::x.items.drop (i+1):=by obtain⟨h1,h2⟩:=List.getElem?_eq_some_iff.1 rv;rw[List.drop_eq_getElem_cons h1,h2]
  rw[hd,jM]at he;refine YW (q.mono l) hc (hx.items it (List.mem_of_getElem? rv)) hv (fun h2 l2=>⟨_,rfl,fun h0=>?_,fun h0=>?_⟩)
  ·rw[if_neg (fun g=>g h0)]at he;rw[bl];exact⟨l.trans l2,he⟩
  ·rw[if_pos h0]at he;rw[he];have ae:=hk h2 (l.trans l2);clear hk bl h0;cbv;exact ae
 ·rw[bl]at hI;obtain⟨l,he⟩:=hI;rw[List.drop_of_length_le (by rw[q5.len];exact Nat.le_refl _)]at he;have he:(0:Int)=R:=he;subst he;have ae:=hk h' l;clear hk bl;cbv;exact ae
theorem VV(fn:Int){h:ad}{ib:Option Addr}{im ic:Nat}{k:Value->ad->Prop}(hk:k (.bool (decide (fn≠0))) h):Ct 186 [.agg #[.int .i64 fn,.slice ib im ic]] h k:=by obtain⟨A,hA⟩:=Ar.ex;have f1:A .aG .neq fn 0=decide (fn≠0):=aB A ..;refine ah A (ar T186.aA T186.bm) Tryz.func186 rfl (by kernel_rfl) ?_;cbv;rw[f1];exact hk
theorem GX{xs:List dG}{h:ad}{b:Option Addr}{n c:Nat}(q:Sl 276 cm h (.slice b n c) xs){k:Value->ad->Prop}
 (hk:∀z:Int,decide (z>=0)=xs.any (fun i=>decide (i.fn≠0))->k (.int .i64 z) h):Ct 251 [.slice b n c,.func (.func 186) #[] #[]] h k:=by
 obtain⟨A,hA⟩:=Ar.ex;have hn:=q.len;have hb:=q.bound;obtain⟨R,hR⟩:∃R,xs.any (fun i=>decide (i.fn≠0))=R:=⟨_,rfl⟩;rw[hR]at hk;obtain⟨J,eR⟩:∃J:Nat->Int->ad->Prop,∀m z h',J m z h'=∃i,aS z i/\i<=n/\m=n-i/\h'=h/\(xs.drop i).any (fun i=>decide (i.fn≠0))=R:=⟨_,fun _ _ _=>rfl⟩;have hJ:J n 0 h:=by rw[eR];exact⟨0,⟨rfl⟩,Nat.zero_le _,rfl,rfl,hR⟩
 refine ah A (ar T251.aA T251.bm) Tryz.func251 rfl (by kernel_rfl) ?_;cbv;refine aX.go (G:=Int) (fun z=>[(8,.v (.int .i64 z))]) (fun _=>[]) (fun m z h'=>J m z h') n 0 ⟨?_,?_,?_⟩ hJ ?_
 ·cbv
 ·cbv
 ·cbv
 ·intro m z h1 hI;rw[eR]at hI;cbv;obtain⟨i,hz,hi,hm,e',he⟩:=hI;subst e';have f1:A .aG .lss z (A .nat n)=decide (i<n):=hz.gy (aS.nat n);rw[f1];by_cases aK:i<n
  ·obtain⟨x,hx⟩:=aI (xs:=xs) (i:=i) (by omega);have hd:xs.drop i=x::xs.drop (i+1):=by obtain⟨h1,h2⟩:=List.getElem?_eq_some_iff.1 hx;rw[List.drop_eq_getElem_cons h1,h2]
   rw[hd,List.any_cons]at he;have cU:b.isSome=true/\0<=z/\z<(n:Int):=⟨q.bu (by omega),hz.ix aK⟩;have fA:=hz.eq;have dD:=hz.succ (A:=A) (by omega);have j0:n-(i+1)<m:=by omega
   have jt:(xs.drop (i+1)).any (fun i=>decide (i.fn≠0))=R->J (n-(i+1)) (A .bA .add .i64 z 1) h1:=fun e=>by rw[eR];exact⟨i+1,dD,aK,rfl,rfl,e⟩
   have BJ:decide (z>=0)=true:=decide_eq_true (by omega);clear eR hJ dD;rw[decide_eq_true aK];cbv;refine⟨cU,?_⟩;cbv;refine rl q hx fA (fun b1 n1 c1 hv=>?_);obtain⟨xf,xe⟩:=x;replace he:(decide (xf≠0)||(xs.drop (i+1)).any (fun i=>decide (i.fn≠0)))=R:=he;cbv;refine VV xf ?_;by_cases h0:xf≠0
   ·have e1:R=true:=by rw[<-he,decide_eq_true h0];rfl
    have ae:=hk z (by rw[BJ,e1]);clear hk jt he;rw[decide_eq_true h0];cbv;exact ae
   ·rw[decide_eq_false h0,Bool.false_or]at he;have ae:=jt he;clear hk jt he;rw[decide_eq_false h0];cbv;refine⟨n-(i+1),A .bA .add .i64 z 1,j0,⟨?_,?_,?_⟩,ae⟩
    ·cbv
    ·cbv
    ·cbv
  ·rw[List.drop_of_length_le (by omega)]at he;have he:false=R:=he;have ae:=hk (-1) (by rw[<-he];rfl);clear hk eR hJ;rw[decide_eq_false aK];cbv;exact ae
theorem Au{xs:List dG}{h:ad}{b:Option Addr}{n c:Nat}(q:Sl 276 cm h (.slice b n c) xs){k:Value->ad->Prop}
 (hk:k (.bool (xs.any (fun i=>decide (i.fn≠0)))) h):Ct 185 [.slice b n c,.func (.func 186) #[] #[]] h k:=by
 obtain⟨A,hA⟩:=Ar.ex;refine ah A (ar T185.aA T185.bm) Tryz.func185 rfl (by kernel_rfl) ?_;cbv;refine GX q (fun z hz=>?_);have f1:A .aG .geq z 0=decide (z>=0):=bS A ..;rw[<-hz]at hk;clear hz;cbv;rw[f1];exact hk
theorem chk1{h:ad}{qp qb:Nat}{x:az}{cols:List bT}{y:Qy}(q:lf h qp x cols y)(gb:h qb=some (.cells #[.pointer (some ⟨qp,0,none⟩)] 186 (0,0)))(hx:eG x)(hc:∀c∈cols,Nm c.name){k:Value->ad->Prop}
 (hk:∀h',Le h h'->k (.int .i64 (aF x.on cols)) h'):Ct 184 [.func (.func 175) #[] #[.pointer (some ⟨qb,0,none⟩)]] h k:=by
 obtain⟨A,hA⟩:=Ar.ex;refine ah A (ar xK.aA xK.bm) Tryz.func184 rfl (by kernel_rfl) ?_;cbv;refine V0 q gb hx hc (fun h1 l1=>?_);have ae:=hk h1 l1;clear hk;generalize aF x.on cols=z at *;cbv;exact ae
theorem chk2{h:ad}{qp qb:Nat}{x:az}{cols:List bT}{y:Qy}(q:lf h qp x cols y)(gb:h qb=some (.cells #[.pointer (some ⟨qp,0,none⟩)] 186 (0,0)))(hx:eG x)(hc:∀c∈cols,Nm c.name){k:Value->ad->Prop}
 (hk:∀h',Le h h'->k (.int .i64 (aF x.bM cols)) h'):Ct 184 [.func (.func 176) #[] #[.pointer (some ⟨qb,0,none⟩)]] h k:=by
 obtain⟨A,hA⟩:=Ar.ex;refine ah A (ar xK.aA xK.bm) Tryz.func184 rfl (by kernel_rfl) ?_;cbv;refine VZ q gb hx hc (fun h1 l1=>?_);have ae:=hk h1 l1;clear hk;generalize aF x.bM cols=z at *;cbv;exact ae
theorem chk3{h:ad}{qp qb:Nat}{x:az}{cols:List bT}{y:Qy}(q:lf h qp x cols y)(gb:h qb=some (.cells #[.pointer (some ⟨qp,0,none⟩)] 186 (0,0)))(hx:eG x)(hc:∀c∈cols,Nm c.name){k:Value->ad->Prop}
 (hk:∀h',Le h h'->k (.int .i64 (cD (gN cols) x.items)) h'):Ct 184 [.func (.func 177) #[] #[.pointer (some ⟨qb,0,none⟩)]] h k:=by
 obtain⟨A,hA⟩:=Ar.ex;refine ah A (ar xK.aA xK.bm) Tryz.func184 rfl (by kernel_rfl) ?_;cbv;refine VY q gb hx hc (fun h1 l1=>?_);have ae:=hk h1 l1;clear hk;generalize cD (gN cols) x.items=z at *;cbv;exact ae
theorem chk4{h:ad}{qp qb:Nat}{x:az}{cols:List bT}{y:Qy}(q:lf h qp x cols y)(gb:h qb=some (.cells #[.pointer (some ⟨qp,0,none⟩)] 186 (0,0)))(hx:eG x)(hc:∀c∈cols,Nm c.name){k:Value->ad->Prop}
 (hk:∀h',Kp [qp] h h'->lf h' qp x cols ⟨(bh x.group cols).1,y.order,y.jK⟩->k (.int .i64 (bh x.group cols).2) h'):Ct 184 [.func (.func 180) #[] #[.pointer (some ⟨qb,0,none⟩)]] h k:=by
 obtain⟨A,hA⟩:=Ar.ex;refine ah A (ar xK.aA xK.bm) Tryz.func184 rfl (by kernel_rfl) ?_;cbv;refine VX q gb hx hc (fun h1 k1 q1=>?_);have ae:=hk h1 k1 q1;clear hk;generalize (bh x.group cols).2=z at *;cbv;exact ae
theorem chk5{h:ad}{qp qb:Nat}{x:az}{cols:List bT}{y:Qy}(q:lf h qp x cols y)(gb:h qb=some (.cells #[.pointer (some ⟨qp,0,none⟩)] 186 (0,0)))(hx:eG x)(hc:∀c∈cols,Nm c.name){k:Value->ad->Prop}
 (hk:∀h',Kp [qp] h h'->lf h' qp x cols ⟨y.group,(bh x.order cols).1,y.jK⟩->k (.int .i64 (bh x.order cols).2) h'):Ct 184 [.func (.func 182) #[] #[.pointer (some ⟨qb,0,none⟩)]] h k:=by
 obtain⟨A,hA⟩:=Ar.ex;refine ah A (ar xK.aA xK.bm) Tryz.func184 rfl (by kernel_rfl) ?_;cbv;refine VW q gb hx hc (fun h1 k1 q1=>?_);have ae:=hk h1 k1 q1;clear hk;generalize (bh x.order cols).2=z at *;cbv;exact ae
theorem Ca(x:az)(cols:List bT):
 (aF x.on cols≠0->(dm x cols).2=aF x.on cols)/\
 (aF x.on cols=0->aF x.bM cols≠0->(dm x cols).2=aF x.bM cols)/\
 (aF x.on cols=0->aF x.bM cols=0->cD (gN cols) x.items≠0->(dm x cols).2=cD (gN cols) x.items)/\
 (aF x.on cols=0->aF x.bM cols=0->cD (gN cols) x.items=0->(bh x.group cols).2≠0->(dm x cols).2=(bh x.group cols).2)/\
 (aF x.on cols=0->aF x.bM cols=0->cD (gN cols) x.items=0->(bh x.group cols).2=0->(bh x.order cols).2≠0->(dm x cols).2=(bh x.order cols).2)/\
 (aF x.on cols=0->aF x.bM cols=0->cD (gN cols) x.items=0->(bh x.group cols).2=0->(bh x.order cols).2=0->dm x cols=
  if(decide (x.group≠b0)||x.items.any fun i=>decide (i.fn≠0))=false then(⟨(bh x.group cols).1,(bh x.order cols).1,false⟩,0)
  else if x.items.length=0\/((bh x.order cols).1>=0/\(bh x.order cols).1≠(bh x.group cols).1)then(⟨(bh x.group cols).1,(bh x.order cols).1,true⟩,3)
  else(⟨(bh x.group cols).1,(bh x.order cols).1,true⟩,cD (bD cols (bh x.group cols).1) x.items)):=by
 have hP:dm x cols=if aF x.on cols≠0 then(⟨-1,-1,false⟩,aF x.on cols)
  else if aF x.bM cols≠0 then(⟨-1,-1,false⟩,aF x.bM cols)
  else if cD (gN cols) x.items≠0 then(⟨-1,-1,false⟩,cD (gN cols) x.items)
  else match bh x.group cols with
   | (g,e)=>if e≠0 then(⟨g,-1,false⟩,e)else match bh x.order cols with
    | (o,e)=>if e≠0 then(⟨g,o,false⟩,e)else
     if(decide (x.group≠b0)||x.items.any fun i=>decide (i.fn≠0))=false then(⟨g,o,false⟩,0)
     else if x.items.length=0\/(o>=0/\o≠g)then(⟨g,o,true⟩,3)
     else(⟨g,o,true⟩,cD (bD cols g) x.items):=rfl
 generalize dm x cols=D at *;generalize aF x.on cols=c1 at *;generalize aF x.bM cols=c2 at *;generalize cD (gN cols) x.items=c3 at *;generalize bh x.group cols=G at *;generalize bh x.order cols=O at *;obtain⟨g,c4⟩:=G;obtain⟨o,c5⟩:=O;refine⟨fun h=>?_,fun h1 h=>?_,fun h1 h2 h=>?_,fun h1 h2 h3 h=>?_,fun h1 h2 h3 h4 h=>?_,fun h1 h2 h3 h4 h5=>?_⟩
 ·rw[hP,if_pos h]
 ·rw[hP,if_neg (fun g=>g h1),if_pos h]
 ·rw[hP,if_neg (fun g=>g h1),if_neg (fun g=>g h2),if_pos h]
 ·replace h:c4≠0:=h;rw[hP,if_neg (fun g=>g h1),if_neg (fun g=>g h2),if_neg (fun g=>g h3)];show(if c4≠0 then _ else _:Qy×Int).2=c4;rw[if_pos h]
 ·replace h4:c4=0:=h4;replace h:c5≠0:=h;rw[hP,if_neg (fun g=>g h1),if_neg (fun g=>g h2),if_neg (fun g=>g h3)];show(if c4≠0 then _ else if c5≠0 then _ else _:Qy×Int).2=c5;rw[if_neg (fun g=>g h4),if_pos h]
 ·replace h4:c4=0:=h4;replace h5:c5=0:=h5;rw[hP,if_neg (fun g=>g h1),if_neg (fun g=>g h2),if_neg (fun g=>g h3)];show(if c4≠0 then _ else if c5≠0 then _ else _:Qy×Int)=_;rw[if_neg (fun g=>g h4),if_neg (fun g=>g h5)]
theorem RM{h:ad}{qp:Nat}{x:az}{cols:List bT}(q:lf h qp x cols ⟨-1,-1,false⟩)(hx:eG x)(hc:∀c∈cols,Nm c.name){k:Value->ad->Prop}
 (hk:∀h' y,Kp [qp] h h'->lf h' qp x cols y->((dm x cols).2=0->y=(dm x cols).1)->k (.int .i64 (dm x cols).2) h'):
 Ct 100 [.pointer (some ⟨qp,0,none⟩)] h k:=by
 obtain⟨A,hA⟩:=Ar.ex;obtain⟨s1,s2,s3,s4,s5,s6⟩:=Ca x cols;have Xv:∀g,cD (bD cols g) x.items=cD (bD cols g) x.items:=fun _=>rfl;have ur:∀ {h1:ad} {qb:Nat} {y:Qy},lf h1 qp x cols y->h1 qb=some (.cells #[.pointer (some ⟨qp,0,none⟩)] 186 (0,0))->True:=fun _ _=>trivial;clear ur Xv;generalize dm x cols=D at *;obtain⟨Dy,De⟩:=D;replace hk:∀h' y,Kp [qp] h h'->lf h' qp x cols y->(De=0->y=Dy)->k (.int .i64 De) h':=hk;obtain⟨cq,hq⟩:=q.has;have gb_ne:∀ {n:Nat},h n=none->n≠qp:=fun hn e=>by rw[e,hq]at hn;cases hn
 refine ah A (ar T100.aA T100.bm) Tryz.func100 rfl (by kernel_rfl) ?_;cbv;intro qb h1 f1 e1;have l1:Le h h1:=by rw[e1];exact Le.set f1
 have Px:h1 qb=some (.cells #[.pointer (some ⟨qp,0,none⟩)] 186 (0,0)):=by rw[e1];exact af
 have hbq:=gb_ne f1;clear e1;cbv;intro sb h2 f2 e2;have l2:Le h1 h2:=by rw[e2];exact Le.set f2
 have Xr:sb≠qp:=fun e=>by rw[e,l1 _ _ hq]at f2;cases f2
 have qs:Sl 173 (Jj (.pointer (some ⟨qb,0,none⟩))) h2 (.slice (some ⟨sb,0,none⟩) 5 5) [175,176,177,180,182]:=by
  refine Sl.fresh (s:=Jj (.pointer (some ⟨qb,0,none⟩))) (h:=h2) (n:=sb) (xs:=[175,176,177,180,182]) (cap:=5) (c:=[.func (.func 175) #[] #[.pointer (some ⟨qb,0,none⟩)],.func (.func 176) #[] #[.pointer (some ⟨qb,0,none⟩)],.func (.func 177) #[] #[.pointer (some ⟨qb,0,none⟩)],.func (.func 180) #[] #[.pointer (some ⟨qb,0,none⟩)],.func (.func 182) #[] #[.pointer (some ⟨qb,0,none⟩)]]) (by rw[e2];exact af) ⟨Nat.le_refl 5,fun i x hx=>?_⟩ (by show 5<=_;omega) (Nat.le_refl 5)
  match i,hx with
  |0,hx=>cases hx;rfl
  |1,hx=>cases hx;rfl
  |2,hx=>cases hx;rfl
  |3,hx=>cases hx;rfl
  |4,hx=>cases hx;rfl
  |i+5,hx=>simp at hx
 clear e2;have ko:=l1.trans l2;have q2:=q.mono ko;have B6:=l2 _ _ Px;have g0:(bh x.group cols).1=(bh x.group cols).1:=rfl;obtain⟨I,bl⟩:∃I:Nat->ad->Prop,∀i h',I i h'=(Kp [qp] h2 h'/\lf h' qp x cols ⟨if 3<i then(bh x.group cols).1 else -1,if 4<i then(bh x.order cols).1 else -1,false⟩/\
  (0<i->aF x.on cols=0)/\(1<i->aF x.bM cols=0)/\(2<i->cD (gN cols) x.items=0)/\(3<i->(bh x.group cols).2=0)/\(4<i->(bh x.order cols).2=0)):=⟨_,fun _ _=>rfl⟩
 have hJ:I 0 h2:=by rw[bl];exact⟨Kp.refl _ _,q2,fun g=>by omega,fun g=>by omega,fun g=>by omega,fun g=>by omega,fun g=>by omega⟩
 have qkp:∀ {h':ad},Kp [qp] h2 h'->∀tys,188∉tys->cF tys h2 h':=fun kp tys ht=>by
  obtain⟨c,g⟩:=q2.has;exact kp.vH g ht
 have bad:∀ {h':ad} {y:Qy} {e:Int},Kp [qp] h2 h'->lf h' qp x cols y->De=e->e≠0->k (.int .i64 e) h':=fun kp q' he h0=>by
  rw[<-he];exact hk _ _ ((ko.kp _).trans kp) q' (fun h=>absurd (he ▸ h) h0)
 cbv;refine Ek (p:=.pointer (some ⟨qb,0,none⟩)) (xs:=[175,176,177,180,182]) (n:=5) rfl I hJ (fun i h' hI=>?_) (fun i g h' hi hg hI _=>?_) (fun h' hI=>?_)
 ·rw[bl]at hI;exact qs.mono (qkp hI.1 _ (by show 188∉[173];decide))
 ·rw[bl]at hI;obtain⟨kp,q',p1,p2,p3,p4,p5⟩:=hI;have B7:=kp _ _ B6 (by simpa using hbq)
  match i,hg with
  |0,hg=>
   cases hg;refine chk1 q' B7 hx hc (fun h3 l3=>⟨_,rfl,fun h0=>?_,fun h0=>?_⟩)
   ·rw[bl];exact⟨kp.trans (l3.kp _),q'.mono l3,fun _=>h0,fun g=>by omega,fun g=>by omega,fun g=>by omega,fun g=>by omega⟩
   ·have ae:=bad (kp.trans (l3.kp _)) (q'.mono l3) (s1 h0) h0;have fe:A .aG .neq (aF x.on cols) 0=true:=by rw[aB A];exact decide_eq_true h0
    clear hk bad bl;generalize aF x.on cols=z at *;cbv;rw[fe];cbv;exact ae
  |1,hg=>
   cases hg;refine chk2 q' B7 hx hc (fun h3 l3=>⟨_,rfl,fun h0=>?_,fun h0=>?_⟩)
   ·rw[bl];exact⟨kp.trans (l3.kp _),q'.mono l3,fun _=>p1 (by omega),fun _=>h0,fun g=>by omega,fun g=>by omega,fun g=>by omega⟩
   ·have ae:=bad (kp.trans (l3.kp _)) (q'.mono l3) (s2 (p1 (by omega)) h0) h0;have fe:A .aG .neq (aF x.bM cols) 0=true:=by rw[aB A];exact decide_eq_true h0
    clear hk bad bl;generalize aF x.bM cols=z at *;cbv;rw[fe];cbv;exact ae
  |2,hg=>
   cases hg;refine chk3 q' B7 hx hc (fun h3 l3=>⟨_,rfl,fun h0=>?_,fun h0=>?_⟩)
   ·rw[bl];exact⟨kp.trans (l3.kp _),q'.mono l3,fun _=>p1 (by omega),fun _=>p2 (by omega),fun _=>h0,fun g=>by omega,fun g=>by omega⟩
   ·have ae:=bad (kp.trans (l3.kp _)) (q'.mono l3) (s3 (p1 (by omega)) (p2 (by omega)) h0) h0;have fe:A .aG .neq (cD (gN cols) x.items) 0=true:=by rw[aB A];exact decide_eq_true h0
    clear hk bad bl;generalize cD (gN cols) x.items=z at *;cbv;rw[fe];cbv;exact ae
  |3,hg=>
   cases hg;refine chk4 q' B7 hx hc (fun h3 k3 q3=>⟨_,rfl,fun h0=>?_,fun h0=>?_⟩)
   ·rw[bl];exact⟨kp.trans k3,q3,fun _=>p1 (by omega),fun _=>p2 (by omega),fun _=>p3 (by omega),fun _=>h0,fun g=>by omega⟩
   ·have ae:=bad (kp.trans k3) q3 (s4 (p1 (by omega)) (p2 (by omega)) (p3 (by omega)) h0) h0;have fe:A .aG .neq (bh x.group cols).2 0=true:=by rw[aB A];exact decide_eq_true h0
    clear hk bad bl q3;generalize (bh x.group cols).2=z at *;cbv;rw[fe];cbv;exact ae
  |4,hg=>
   cases hg;refine chk5 q' B7 hx hc (fun h3 k3 q3=>⟨_,rfl,fun h0=>?_,fun h0=>?_⟩)
   ·rw[bl];exact⟨kp.trans k3,q3,fun _=>p1 (by omega),fun _=>p2 (by omega),fun _=>p3 (by omega),fun _=>p4 (by omega),fun _=>h0⟩
   ·have ae:=bad (kp.trans k3) q3 (s5 (p1 (by omega)) (p2 (by omega)) (p3 (by omega)) (p4 (by omega)) h0) h0;have fe:A .aG .neq (bh x.order cols).2 0=true:=by rw[aB A];exact decide_eq_true h0
    clear hk bad bl q3;generalize (bh x.order cols).2=z at *;cbv;rw[fe];cbv;exact ae
  |i+5,hg=>simp at hg
 ·rw[bl]at hI;obtain⟨kp,q',p1,p2,p3,p4,p5⟩:=hI;have hD:=s6 (p1 (by omega)) (p2 (by omega)) (p3 (by omega)) (p4 (by omega)) (p5 (by omega));have B7:=kp _ _ B6 (by simpa using hbq);rw[if_pos (by omega),if_pos (by omega)]at q';clear s1 s2 s3 s4 s5 s6 p1 p2 p3 p4 p5 bad bl hJ;have k0:Kp [qp] h h':=(ko.kp _).trans kp;generalize (bh x.group cols).1=yg at *;generalize (bh x.order cols).1=yo at *;have f0:A .aG .neq 0 0=false:=by rw[aB A];rfl
  have fg:A .iY .neq x.group ⟨#[]⟩=decide (x.group≠b0):=uD A ..;refine q'.elim (fun b5 n5 c5 b6 n6 c6 b7 n7 c7 b8 n8 c8 b9 n9 c9 fG gG fF cb cn cc g q1 W9 q3 q4 q5 q6 q7=>?_);cbv;rw[f0];cbv;clear q2 qkp;obtain⟨ga,vS⟩:∃ga,ga=(decide (x.group≠b0)||x.items.any fun i=>decide (i.fn≠0)):=⟨_,rfl⟩;rw[<-vS]at hD;have Gq:∀h5,h5=bp h' qp (.cells #[.int .i64 x.kind,.string x.mS.name,.slice b5 n5 c5,.int .i64 x.mS.key,.bool x.mS.only,.string x.table,.string x.join,.slice b6 n6 c6,.slice b7 n7 c7,.slice b8 n8 c8,.slice b9 n9 c9,.slice fG gG fF,.string x.group,.string x.order,.bool x.desc,.int .i64 x.fw,.string x.name,.slice cb cn cc,.int .i64 yg,.int .i64 yo,.bool ga] 188 (0,0))->
   lf h5 qp x cols ⟨yg,yo,ga⟩/\Kp [qp] h h5:=fun h5 e5=>by
   have ri:cF mq h' h5:=by rw[e5];exact cF.set g (by decide)
   exact⟨⟨b5,n5,c5,b6,n6,c6,b7,n7,c7,b8,n8,c8,b9,n9,c9,fG,gG,fF,cb,cn,cc,(by rw[e5];exact af),q1.mono (ri.sub (by decide)),W9.mono (ri.sub (by decide)),q3.mono (ri.sub (by decide)),q4.mono (ri.sub (by decide)),q5.mono (ri.sub (by decide)),q6.mono (ri.sub (by decide)),q7.mono (ri.sub (by decide))⟩,k0.trans (by rw[e5];exact Kp.set (by simp))⟩
  have Ra:=q5.len;have tail:∀h5,h5=bp h' qp (.cells #[.int .i64 x.kind,.string x.mS.name,.slice b5 n5 c5,.int .i64 x.mS.key,.bool x.mS.only,.string x.table,.string x.join,.slice b6 n6 c6,.slice b7 n7 c7,.slice b8 n8 c8,.slice b9 n9 c9,.slice fG gG fF,.string x.group,.string x.order,.bool x.desc,.int .i64 x.fw,.string x.name,.slice cb cn cc,.int .i64 yg,.int .i64 yo,.bool ga] 188 (0,0))->
   lf h5 qp x cols ⟨yg,yo,ga⟩/\Kp [qp] h h5:=Gq
  clear tail q1 W9 q3 q4 q6 q7;repeat (first| (rw[ai A,ai A];refine av B7 rfl rfl ?_;cbv) | (rw[ai A];refine av B7 rfl rfl ?_;cbv) | (refine av B7 rfl rfl ?_;cbv) | (rw[ai A,ai A];refine av g rfl rfl ?_;cbv) | (rw[ai A];refine av g rfl rfl ?_;cbv) | (refine av g rfl rfl ?_;cbv) | (refine⟨⟨_,rfl,rfl⟩,?_⟩;cbv))
  rw[fg];by_cases Xv:x.group≠b0
  ·have hg1:ga=true:=by rw[vS,decide_eq_true Xv];rfl
   rw[hg1]at hD Gq;rw[decide_eq_true Xv];cbv;first|rw[ai A] |skip
   refine jz g (by simp) (fun h5 e5=>?_);obtain⟨Jx,k5⟩:=Gq h5 e5;have mK:h5 qb=some (.cells #[.pointer (some ⟨qp,0,none⟩)] 186 (0,0)):=by rw[e5,aP hbq];exact B7
   have ri:cF mq h' h5:=by rw[e5];exact cF.set g (by decide)
   clear e5 Gq g vS;rw[if_neg (by simp)]at hD;have nt:A .not true=false:=by rw[hA.not];rfl
   have K2:=fun h' l e=>hk h' ⟨yg,yo,true⟩ (k5.trans (Le.kp l _)) (Jx.mono l) e;clear hk;refine Jx.elim (fun b5y n5y c5y b6y n6y c6y b7y n7y c7y b8y n8y c8y b9y n9y c9y b10y YG c10y cby cny ccy g5 _ _ _ _ QH _ _=>?_);have kh:=QH.len;have fl:A .aG .eql (A .nat n9y) 0=decide (x.items.length=0):=by rw[aw A,hA.nat,decide_eq_decide,Int.ofNat_eq_natCast];omega
   have fo:A .aG .geq yo 0=decide (yo>=0):=bS A ..;have fn:A .aG .neq yo yg=decide (yo≠yg):=aB A ..;have hr:∀h' e,Le h5 h'->De=e->(De=0->Dy=⟨yg,yo,true⟩)->k (.int .i64 e) h':=fun h' e l he hy=>by rw[<-he];exact K2 h' l (fun h0=>(hy h0).symm)
   clear K2;cbv;repeat (first| (rw[ai A,ai A];refine av mK rfl rfl ?_;cbv) | (rw[ai A];refine av mK rfl rfl ?_;cbv) | (refine av mK rfl rfl ?_;cbv) | (rw[ai A,ai A];refine av g5 rfl rfl ?_;cbv) | (rw[ai A];refine av g5 rfl rfl ?_;cbv) | (refine av g5 rfl rfl ?_;cbv) | (refine⟨⟨_,rfl,rfl⟩,?_⟩;cbv))
   rw[nt];cbv;repeat (first| (rw[ai A,ai A];refine av mK rfl rfl ?_;cbv) | (rw[ai A];refine av mK rfl rfl ?_;cbv) | (refine av mK rfl rfl ?_;cbv) | (rw[ai A,ai A];refine av g5 rfl rfl ?_;cbv) | (rw[ai A];refine av g5 rfl rfl ?_;cbv) | (refine av g5 rfl rfl ?_;cbv) | (refine⟨⟨_,rfl,rfl⟩,?_⟩;cbv))
   rw[fl];by_cases Hm:x.items.length=0
   ·rw[if_pos (.inl Hm)]at hD;cases hD;have ae:=hr h5 3 (Le.refl _) rfl (fun h=>by cases h);clear hr;rw[decide_eq_true Hm];cbv;exact ae
   rw[decide_eq_false Hm];cbv;repeat (first| (rw[ai A,ai A];refine av mK rfl rfl ?_;cbv) | (rw[ai A];refine av mK rfl rfl ?_;cbv) | (refine av mK rfl rfl ?_;cbv) | (rw[ai A,ai A];refine av g5 rfl rfl ?_;cbv) | (rw[ai A];refine av g5 rfl rfl ?_;cbv) | (refine av g5 rfl rfl ?_;cbv) | (refine⟨⟨_,rfl,rfl⟩,?_⟩;cbv))
   rw[fo];have wu:¬(yo>=0/\yo≠yg)->(Dy,De)=(⟨yg,yo,true⟩,cD (bD cols yg) x.items):=fun hn=>by
    rw[if_neg (by rintro(g|g)<;>contradiction)]at hD;exact hD
   by_cases ho:yo>=0
   ·rw[decide_eq_true ho];cbv;repeat (first| (rw[ai A,ai A];refine av mK rfl rfl ?_;cbv) | (rw[ai A];refine av mK rfl rfl ?_;cbv) | (refine av mK rfl rfl ?_;cbv) | (rw[ai A,ai A];refine av g5 rfl rfl ?_;cbv) | (rw[ai A];refine av g5 rfl rfl ?_;cbv) | (refine av g5 rfl rfl ?_;cbv) | (refine⟨⟨_,rfl,rfl⟩,?_⟩;cbv))
    rw[fn];by_cases hn:yo≠yg
    ·rw[if_pos (.inr ⟨ho,hn⟩)]at hD;cases hD;have ae:=hr h5 3 (Le.refl _) rfl (fun h=>by cases h);clear hr wu;rw[decide_eq_true hn];cbv;exact ae
    have hE:=wu (fun g=>hn g.2);clear wu hD;rw[decide_eq_false hn];cbv;repeat (first| (rw[ai A,ai A];refine av mK rfl rfl ?_;cbv) | (rw[ai A];refine av mK rfl rfl ?_;cbv) | (refine av mK rfl rfl ?_;cbv) | (rw[ai A,ai A];refine av g5 rfl rfl ?_;cbv) | (rw[ai A];refine av g5 rfl rfl ?_;cbv) | (refine av g5 rfl rfl ?_;cbv) | (refine⟨⟨_,rfl,rfl⟩,?_⟩;cbv))
    obtain⟨R,hR⟩:∃R,cD (bD cols yg) x.items=R:=⟨_,rfl⟩;rw[hR]at hE;cases hE;obtain⟨I2,di⟩:∃I:Nat->ad->Prop,∀i h',I i h'=(Le h5 h'/\cD (bD cols yg) (x.items.drop i)=De):=⟨_,fun _ _=>rfl⟩;have jt:I2 0 h5:=by rw[di];exact⟨Le.refl _,hR⟩
    refine kB kh I2 jt (fun i h' hI=>?_) (fun i it h' ib im ic hi rv hI hv=>?_) (fun h' hI=>?_)
    ·rw[di]at hI;exact QH.mono (hI.1.t _)
    ·rw[di]at hI;obtain⟨l,he⟩:=hI;have hd:x.items.drop i=it::x.items.drop (i+1):=by obtain⟨h1,h2⟩:=List.getElem?_eq_some_iff.1 rv;rw[List.drop_eq_getElem_cons h1,h2]
     rw[hd,jM]at he;refine rM (Jx.mono l) hc (hx.items it (List.mem_of_getElem? rv)) hv (fun h2 l2=>⟨_,rfl,fun h0=>?_,fun h0=>?_⟩)
     ·replace h0:bD cols yg it=0:=h0;rw[if_neg (fun g=>g h0)]at he;rw[di];exact⟨l.trans l2,he⟩
     ·replace h0:bD cols yg it≠0:=h0;rw[if_pos h0]at he;have ae:=hr h2 De (l.trans l2) rfl (fun _=>rfl);clear hr di h0;have BV:bD cols yg it=De:=he;rw[show bD cols (⟨yg,yo,true⟩:Qy).group it=De from BV];cbv;exact ae
    ·rw[di]at hI;obtain⟨l,he⟩:=hI;rw[List.drop_of_length_le (by rw[kh];exact Nat.le_refl _)]at he;have he:(0:Int)=De:=he;have ae:=hr h' 0 l he.symm (fun _=>rfl);clear hr di;cbv;exact ae
   have hE:=wu (fun g=>ho g.1);clear wu hD;rw[decide_eq_false ho];cbv;repeat (first| (rw[ai A,ai A];refine av mK rfl rfl ?_;cbv) | (rw[ai A];refine av mK rfl rfl ?_;cbv) | (refine av mK rfl rfl ?_;cbv) | (rw[ai A,ai A];refine av g5 rfl rfl ?_;cbv) | (rw[ai A];refine av g5 rfl rfl ?_;cbv) | (refine av g5 rfl rfl ?_;cbv) | (refine⟨⟨_,rfl,rfl⟩,?_⟩;cbv))
   obtain⟨R,hR⟩:∃R,cD (bD cols yg) x.items=R:=⟨_,rfl⟩;rw[hR]at hE;cases hE;obtain⟨I2,di⟩:∃I:Nat->ad->Prop,∀i h',I i h'=(Le h5 h'/\cD (bD cols yg) (x.items.drop i)=De):=⟨_,fun _ _=>rfl⟩;have jt:I2 0 h5:=by rw[di];exact⟨Le.refl _,hR⟩
   refine kB kh I2 jt (fun i h' hI=>?_) (fun i it h' ib im ic hi rv hI hv=>?_) (fun h' hI=>?_)
   ·rw[di]at hI;exact QH.mono (hI.1.t _)
   ·rw[di]at hI;obtain⟨l,he⟩:=hI;have hd:x.items.drop i=it::x.items.drop (i+1):=by obtain⟨h1,h2⟩:=List.getElem?_eq_some_iff.1 rv;rw[List.drop_eq_getElem_cons h1,h2]
    rw[hd,jM]at he;refine rM (Jx.mono l) hc (hx.items it (List.mem_of_getElem? rv)) hv (fun h2 l2=>⟨_,rfl,fun h0=>?_,fun h0=>?_⟩)
    ·replace h0:bD cols yg it=0:=h0;rw[if_neg (fun g=>g h0)]at he;rw[di];exact⟨l.trans l2,he⟩
    ·replace h0:bD cols yg it≠0:=h0;rw[if_pos h0]at he;have ae:=hr h2 De (l.trans l2) rfl (fun _=>rfl);clear hr di h0;have BV:bD cols yg it=De:=he;rw[show bD cols (⟨yg,yo,true⟩:Qy).group it=De from BV];cbv;exact ae
   ·rw[di]at hI;obtain⟨l,he⟩:=hI;rw[List.drop_of_length_le (by rw[kh];exact Nat.le_refl _)]at he;have he:(0:Int)=De:=he;have ae:=hr h' 0 l he.symm (fun _=>rfl);clear hr di;cbv;exact ae
  ·rw[decide_eq_false Xv];rw[decide_eq_false Xv,Bool.false_or]at vS;cbv;repeat (first| (rw[ai A,ai A];refine av B7 rfl rfl ?_;cbv) | (rw[ai A];refine av B7 rfl rfl ?_;cbv) | (refine av B7 rfl rfl ?_;cbv) | (rw[ai A,ai A];refine av g rfl rfl ?_;cbv) | (rw[ai A];refine av g rfl rfl ?_;cbv) | (refine av g rfl rfl ?_;cbv) | (refine⟨⟨_,rfl,rfl⟩,?_⟩;cbv))
   refine Au q5 ?_;rw[<-vS];cbv;repeat (first| (rw[ai A,ai A];refine av B7 rfl rfl ?_;cbv) | (rw[ai A];refine av B7 rfl rfl ?_;cbv) | (refine av B7 rfl rfl ?_;cbv) | (rw[ai A,ai A];refine av g rfl rfl ?_;cbv) | (rw[ai A];refine av g rfl rfl ?_;cbv) | (refine av g rfl rfl ?_;cbv) | (refine⟨⟨_,rfl,rfl⟩,?_⟩;cbv))
   first|rw[ai A] |skip
   refine jz g (by simp) (fun h5 e5=>?_);obtain⟨Jx,k5⟩:=Gq h5 e5;have mK:h5 qb=some (.cells #[.pointer (some ⟨qp,0,none⟩)] 186 (0,0)):=by rw[e5,aP hbq];exact B7
   have ri:cF mq h' h5:=by rw[e5];exact cF.set g (by decide)
   clear e5 Gq g vS;cases ga with
   |false=>
    rw[if_pos rfl]at hD;cases hD;have ae:=hk h5 _ k5 Jx (fun _=>rfl);refine Jx.elim (fun b5y n5y c5y b6y n6y c6y b7y n7y c7y b8y n8y c8y b9y n9y c9y b10y YG c10y cby cny ccy g5 _ _ _ _ QH _ _=>?_);clear hk;cbv;repeat (first| (rw[ai A,ai A];refine av mK rfl rfl ?_;cbv) | (rw[ai A];refine av mK rfl rfl ?_;cbv) | (refine av mK rfl rfl ?_;cbv) | (rw[ai A,ai A];refine av g5 rfl rfl ?_;cbv) | (rw[ai A];refine av g5 rfl rfl ?_;cbv) | (refine av g5 rfl rfl ?_;cbv) | (refine⟨⟨_,rfl,rfl⟩,?_⟩;cbv))
    have nt:A .not false=true:=by rw[hA.not];rfl
    rw[nt];cbv;exact ae
   |true=>
    rw[if_neg (by simp)]at hD;have nt:A .not true=false:=by rw[hA.not];rfl
    have K2:=fun h' l e=>hk h' ⟨yg,yo,true⟩ (k5.trans (Le.kp l _)) (Jx.mono l) e;clear hk;refine Jx.elim (fun b5y n5y c5y b6y n6y c6y b7y n7y c7y b8y n8y c8y b9y n9y c9y b10y YG c10y cby cny ccy g5 _ _ _ _ QH _ _=>?_);have kh:=QH.len;have fl:A .aG .eql (A .nat n9y) 0=decide (x.items.length=0):=by rw[aw A,hA.nat,decide_eq_decide,Int.ofNat_eq_natCast];omega
    have fo:A .aG .geq yo 0=decide (yo>=0):=bS A ..;have fn:A .aG .neq yo yg=decide (yo≠yg):=aB A ..;have hr:∀h' e,Le h5 h'->De=e->(De=0->Dy=⟨yg,yo,true⟩)->k (.int .i64 e) h':=fun h' e l he hy=>by rw[<-he];exact K2 h' l (fun h0=>(hy h0).symm)
    clear K2;cbv;repeat (first| (rw[ai A,ai A];refine av mK rfl rfl ?_;cbv) | (rw[ai A];refine av mK rfl rfl ?_;cbv) | (refine av mK rfl rfl ?_;cbv) | (rw[ai A,ai A];refine av g5 rfl rfl ?_;cbv) | (rw[ai A];refine av g5 rfl rfl ?_;cbv) | (refine av g5 rfl rfl ?_;cbv) | (refine⟨⟨_,rfl,rfl⟩,?_⟩;cbv))
    rw[nt];cbv;repeat (first| (rw[ai A,ai A];refine av mK rfl rfl ?_;cbv) | (rw[ai A];refine av mK rfl rfl ?_;cbv) | (refine av mK rfl rfl ?_;cbv) | (rw[ai A,ai A];refine av g5 rfl rfl ?_;cbv) | (rw[ai A];refine av g5 rfl rfl ?_;cbv) | (refine av g5 rfl rfl ?_;cbv) | (refine⟨⟨_,rfl,rfl⟩,?_⟩;cbv))
    rw[fl];by_cases Hm:x.items.length=0
    ·rw[if_pos (.inl Hm)]at hD;cases hD;have ae:=hr h5 3 (Le.refl _) rfl (fun h=>by cases h);clear hr;rw[decide_eq_true Hm];cbv;exact ae
    rw[decide_eq_false Hm];cbv;repeat (first| (rw[ai A,ai A];refine av mK rfl rfl ?_;cbv) | (rw[ai A];refine av mK rfl rfl ?_;cbv) | (refine av mK rfl rfl ?_;cbv) | (rw[ai A,ai A];refine av g5 rfl rfl ?_;cbv) | (rw[ai A];refine av g5 rfl rfl ?_;cbv) | (refine av g5 rfl rfl ?_;cbv) | (refine⟨⟨_,rfl,rfl⟩,?_⟩;cbv))
    rw[fo];have wu:¬(yo>=0/\yo≠yg)->(Dy,De)=(⟨yg,yo,true⟩,cD (bD cols yg) x.items):=fun hn=>by
     rw[if_neg (by rintro(g|g)<;>contradiction)]at hD;exact hD
    by_cases ho:yo>=0
    ·rw[decide_eq_true ho];cbv;repeat (first| (rw[ai A,ai A];refine av mK rfl rfl ?_;cbv) | (rw[ai A];refine av mK rfl rfl ?_;cbv) | (refine av mK rfl rfl ?_;cbv) | (rw[ai A,ai A];refine av g5 rfl rfl ?_;cbv) | (rw[ai A];refine av g5 rfl rfl ?_;cbv) | (refine av g5 rfl rfl ?_;cbv) | (refine⟨⟨_,rfl,rfl⟩,?_⟩;cbv))
     rw[fn];by_cases hn:yo≠yg
     ·rw[if_pos (.inr ⟨ho,hn⟩)]at hD;cases hD;have ae:=hr h5 3 (Le.refl _) rfl (fun h=>by cases h);clear hr wu;rw[decide_eq_true hn];cbv;exact ae
     have hE:=wu (fun g=>hn g.2);clear wu hD;rw[decide_eq_false hn];cbv;repeat (first| (rw[ai A,ai A];refine av mK rfl rfl ?_;cbv) | (rw[ai A];refine av mK rfl rfl ?_;cbv) | (refine av mK rfl rfl ?_;cbv) | (rw[ai A,ai A];refine av g5 rfl rfl ?_;cbv) | (rw[ai A];refine av g5 rfl rfl ?_;cbv) | (refine av g5 rfl rfl ?_;cbv) | (refine⟨⟨_,rfl,rfl⟩,?_⟩;cbv))
     obtain⟨R,hR⟩:∃R,cD (bD cols yg) x.items=R:=⟨_,rfl⟩;rw[hR]at hE;cases hE;obtain⟨I2,di⟩:∃I:Nat->ad->Prop,∀i h',I i h'=(Le h5 h'/\cD (bD cols yg) (x.items.drop i)=De):=⟨_,fun _ _=>rfl⟩;have jt:I2 0 h5:=by rw[di];exact⟨Le.refl _,hR⟩
     refine kB kh I2 jt (fun i h' hI=>?_) (fun i it h' ib im ic hi rv hI hv=>?_) (fun h' hI=>?_)
     ·rw[di]at hI;exact QH.mono (hI.1.t _)
     ·rw[di]at hI;obtain⟨l,he⟩:=hI;have hd:x.items.drop i=it::x.items.drop (i+1):=by obtain⟨h1,h2⟩:=List.getElem?_eq_some_iff.1 rv;rw[List.drop_eq_getElem_cons h1,h2]
      rw[hd,jM]at he;refine rM (Jx.mono l) hc (hx.items it (List.mem_of_getElem? rv)) hv (fun h2 l2=>⟨_,rfl,fun h0=>?_,fun h0=>?_⟩)
      ·replace h0:bD cols yg it=0:=h0;rw[if_neg (fun g=>g h0)]at he;rw[di];exact⟨l.trans l2,he⟩
      ·replace h0:bD cols yg it≠0:=h0;rw[if_pos h0]at he;have ae:=hr h2 De (l.trans l2) rfl (fun _=>rfl);clear hr di h0;have BV:bD cols yg it=De:=he;rw[show bD cols (⟨yg,yo,true⟩:Qy).group it=De from BV];cbv;exact ae
     ·rw[di]at hI;obtain⟨l,he⟩:=hI;rw[List.drop_of_length_le (by rw[kh];exact Nat.le_refl _)]at he;have he:(0:Int)=De:=he;have ae:=hr h' 0 l he.symm (fun _=>rfl);clear hr di;cbv;exact ae
    have hE:=wu (fun g=>ho g.1);clear wu hD;rw[decide_eq_false ho];cbv;repeat (first| (rw[ai A,ai A];refine av mK rfl rfl ?_;cbv) | (rw[ai A];refine av mK rfl rfl ?_;cbv) | (refine av mK rfl rfl ?_;cbv) | (rw[ai A,ai A];refine av g5 rfl rfl ?_;cbv) | (rw[ai A];refine av g5 rfl rfl ?_;cbv) | (refine av g5 rfl rfl ?_;cbv) | (refine⟨⟨_,rfl,rfl⟩,?_⟩;cbv))
    obtain⟨R,hR⟩:∃R,cD (bD cols yg) x.items=R:=⟨_,rfl⟩;rw[hR]at hE;cases hE;obtain⟨I2,di⟩:∃I:Nat->ad->Prop,∀i h',I i h'=(Le h5 h'/\cD (bD cols yg) (x.items.drop i)=De):=⟨_,fun _ _=>rfl⟩;have jt:I2 0 h5:=by rw[di];exact⟨Le.refl _,hR⟩
    refine kB kh I2 jt (fun i h' hI=>?_) (fun i it h' ib im ic hi rv hI hv=>?_) (fun h' hI=>?_)
    ·rw[di]at hI;exact QH.mono (hI.1.t _)
    ·rw[di]at hI;obtain⟨l,he⟩:=hI;have hd:x.items.drop i=it::x.items.drop (i+1):=by obtain⟨h1,h2⟩:=List.getElem?_eq_some_iff.1 rv;rw[List.drop_eq_getElem_cons h1,h2]
     rw[hd,jM]at he;refine rM (Jx.mono l) hc (hx.items it (List.mem_of_getElem? rv)) hv (fun h2 l2=>⟨_,rfl,fun h0=>?_,fun h0=>?_⟩)
     ·replace h0:bD cols yg it=0:=h0;rw[if_neg (fun g=>g h0)]at he;rw[di];exact⟨l.trans l2,he⟩
     ·replace h0:bD cols yg it≠0:=h0;rw[if_pos h0]at he;have ae:=hr h2 De (l.trans l2) rfl (fun _=>rfl);clear hr di h0;have BV:bD cols yg it=De:=he;rw[show bD cols (⟨yg,yo,true⟩:Qy).group it=De from BV];cbv;exact ae
    ·rw[di]at hI;obtain⟨l,he⟩:=hI;rw[List.drop_of_length_le (by rw[kh];exact Nat.le_refl _)]at he;have he:(0:Int)=De:=he;have ae:=hr h' 0 l he.symm (fun _=>rfl);clear hr di;cbv;exact ae
theorem growV{h:ad}{z:Int}{m:Nat}(hz:aS z m)(hm:m<=2^38):
 Ct 252 [.slice none 0 0,.int .i64 z] h (fun v h'=>Le h h'/\∃b' c',v=.slice b' 0 c'/\cX 61 bq h h' (.slice b' 0 c') ([]:List dg)):=by
 obtain⟨A,hA⟩:=Ar.ex;have h0:aS (A .nat 0) 0:=aS.nat 0;have hw:=hz.sub (A:=A) (h0.sub (A:=A) h0 (by omega) (by omega)) (by omega) (by omega);simp only[Nat.sub_zero,Nat.sub_self]at hw;refine ah A (ar T252.aA T252.bm) Tryz.func252 rfl (by kernel_rfl) ?_;cbv;rw[hz.GM (A:=A)];cbv;generalize eg:A .aG .gtr (A .bA .sub .i64 z (A .bA .sub .i64 (A .nat 0) (A .nat 0))) 0=u;generalize ew:A .bA .sub .i64 z (A .bA .sub .i64 (A .nat 0) (A .nat 0))=w at hw eg;rw[bJ A]at eg;cases u with
 |true=>
  have hp:=of_decide_eq_true eg;have KW:0<m:=by have:=hw.eq;omega
  cbv;have BJ:(0:Int)<=A .nat 0/\A .nat 0<=((0:Nat):Int):=by have:=h0.eq;omega
  refine⟨BJ,?_⟩;cbv;refine⟨oU hw (by omega) (by decide),?_⟩;cbv;rw[dM (A:=A) hw,dM (A:=A) h0];refine jO (s:=bq) (xs:=([]:List dg)) Sl.nil (by omega) rfl (by decide) (by omega) rfl rfl (fun nb c h1 fk l1 hc ho=>?_);rw[Nat.zero_add];have cU:(0:Int)<=A .nat 0/\A .nat 0<=((c:Nat):Int):=by have:=h0.eq;omega
  cbv;refine⟨cU,?_⟩;cbv;rw[dM (A:=A) h0,rV (A:=A)];exact⟨l1,_,_,rfl,ho.buf fk rfl⟩
 |false=>cbv;exact⟨Le.refl _,_,_,rfl,cX.nil⟩
theorem PQ{L:List (List dg)}{h:ad}{b:Option Addr}{n c:Nat}(q:Sl 59 (jU 61 bq) h (.slice b n c) L)(hn:L.flatten.length<=2^38):
 Ct 190 [.slice b n c] h (fun v h'=>Le h h'/\∃b' n' c',v=.slice b' n' c'/\cX 61 bq h h' (.slice b' n' c') L.flatten):=by
 obtain⟨A,hA⟩:=Ar.ex;have hlen:=q.len;obtain⟨ll,jS⟩:=q.bound;refine ah A (ar T190.aA T190.bm) Tryz.func190 rfl (by kernel_rfl) ?_;cbv;refine aX.go (G:=Int×Int) (fun g=>[(11,.v (.int .i64 g.1)),(3,.v (.int .i64 g.2))]) (fun _=>[])
  (fun k g h'=>∃i:Nat,aS g.1 i/\k=n-i/\i<=n/\h'=h/\aS g.2 (L.take i).flatten.length) n (0,0) ⟨?_,?_,?_⟩ ⟨0,⟨rfl⟩,by omega,by omega,rfl,⟨rfl⟩⟩ ?_
 ·cbv
 ·cbv
 ·cbv
 ·intro k g h' hI;cbv;obtain⟨i,hz,hk,hi,rfl,hw⟩:=hI;refine aQ (fun hc=>?_) (fun hc=>?_)
  ·have aK:=hz.lt hc;clear hc;cbv;obtain⟨x,hx⟩:=aI (xs:=L) (i:=i) (by omega);refine⟨⟨q.bu (by omega),hz.ix aK⟩,?_⟩;cbv;refine q.load hx hz.eq (fun cs aC=>?_);obtain⟨v,rfl,hv⟩:=aC;obtain⟨b1,l1,c1,rfl⟩:=hv.form;have AO:=hv.len;have hle:=po L (i+1);rw[gC hx,List.length_append,<-AO]at hle;have pN:=hw.add (A:=A) (aS.nat (A:=A) l1) (by omega);have BT:=gC hx;cbv;rw[pN.GM (A:=A)];cbv;refine⟨n-(i+1),(_,A .bA .add .i64 g.2 (A .nat l1)),by omega,⟨?_,?_,?_⟩,i+1,hz.succ (A:=A) (by omega),rfl,by omega,rfl,?_⟩
   ·cbv
   ·cbv
   ·cbv
   ·rw[BT,List.length_append,<-AO];exact pN
  ·have iR:=hz.ge hc;have eW:i=n:=by omega
   rw[List.take_of_length_le (by omega)]at hw;obtain⟨z,w⟩:=g;have hw:aS w L.flatten.length:=hw;cbv;refine(growV hw hn).mono (fun v h1 hR=>?_);obtain⟨l1,b1,c1,rfl,hb⟩:=hR;cbv;refine aX.go (G:=Int×Option Addr×Nat×Nat) (fun g=>[(27,.v (.int .i64 g.1)),(6,.v (.slice g.2.1 g.2.2.1 g.2.2.2))]) (fun _=>[])
    (fun k g h2=>∃i:Nat,aS g.1 i/\k=n-i/\i<=n/\Le h' h2/\cX 61 bq h' h2 (.slice g.2.1 g.2.2.1 g.2.2.2) (L.take i).flatten) n (0,b1,0,c1) ⟨?_,?_,?_⟩ ⟨0,⟨rfl⟩,by omega,by omega,l1,hb⟩ ?_
   ·cbv
   ·cbv
   ·cbv
   ·intro k g h2 hI;cbv;obtain⟨i,hz,hk,hi,hle,hb⟩:=hI;obtain⟨z,gb,gl,gc⟩:=g;have hz:aS z i:=hz;have hb:cX 61 bq h' h2 (.slice gb gl gc) (L.take i).flatten:=hb;refine aQ (fun hc=>?_) (fun hc=>?_)
    ·have aK:=hz.lt hc;clear hc;cbv;obtain⟨x,hx⟩:=aI (xs:=L) (i:=i) (by omega);refine⟨⟨q.bu (by omega),hz.ix aK⟩,?_⟩;cbv;refine(q.mono (hle.t _)).load hx hz.eq (fun cs aC=>?_);obtain⟨v,rfl,hv⟩:=aC;obtain⟨b2,l2,c2,rfl⟩:=hv.form;have tO:=hv.len;have Aj:gl=(L.take i).flatten.length:=hb.sl.len;have cP:=po L (i+1);have BT:=gC hx;rw[BT,List.length_append,<-tO,<-Aj]at cP;cbv;refine hb.append hv (by decide) rfl (by decide) (by omega) hle (fun m b' c' h3 hm l3 t3 k3 nP=>?_);cbv;refine⟨n-(i+1),(_,b',m,c'),by omega,⟨?_,?_,?_⟩,i+1,hz.succ (A:=A) (by omega),rfl,by omega,l3,?_⟩
     ·cbv
     ·cbv
     ·cbv
     ·rw[BT];exact nP
    ·have iR:=hz.ge hc;cbv;rw[List.take_of_length_le (by omega)]at hb;exact⟨hle,_,_,_,rfl,hb⟩
structure uy(B h:ad)(ob:Nat)(nb:Option Nat)(l:List Row):Prop where
 out:∃b n c,h ob=some (.cells #[.slice b n c] 34 (0,0))/\Bx 59 aL B h nb (.slice b n c) l
 le:Le B h
 no:B ob=none
theorem uy.mono{B h h':ad}{ob:Nat}{nb:Option Nat}{l:List Row}(q:uy B h ob nb l)(hl:Le h h'):uy B h' ob nb l:=by obtain⟨b,n,c,g,qb⟩:=q.out;exact⟨⟨b,n,c,hl _ _ g,qb.mono (hl.t _)⟩,q.le.trans hl,q.no⟩
def nF(x:az)(cols:List bT)(a b:Row)(out:List Row):List Row×Int:=match dL x.on cols (a++b)with
 | (on,e)=>if e≠0 then(out,e)else if on=false then(out,0)else match dL x.bM cols (a++b)with
  | (is,e)=>if e≠0 then(out,e)else(if is=true then out++[a++b]else out,0)
theorem oy(x:az)(cols:List bT)(a b:Row)(bs out:List Row):ef x cols a (b::bs) out=if(nF x cols a b out).2≠0 then nF x cols a b out else ef x cols a bs (nF x cols a b out).1:=by
 show(match dL x.on cols (a++b)with
  | (on,e)=>if e≠0 then(out,e)else if on=false then ef x cols a bs out else match dL x.bM cols (a++b)with
   | (is,e)=>if e≠0 then(out,e)else ef x cols a bs (if is=true then out++[a++b]else out))=_
 unfold nF;generalize dL x.on cols (a++b)=H;obtain⟨on,e⟩:=H;generalize dL x.bM cols (a++b)=H2;obtain⟨is,e2⟩:=H2;by_cases h0:e=0
 ·subst h0;cases on with
  |false=>simp
  |true=>
   by_cases h2:e2=0
   ·simp[h2]
   ·simp[h2]
 ·simp[h0]
theorem SF{B h:ad}{ob:Nat}{nb:Option Nat}{l:List Row}(qo:uy B h ob nb l)(hl:l.length<=2^37){qp qb:Nat}{x:az}{cols:List bT}{y:Qy}(q:lf B qp x cols y)(gb:B qb=some (.cells #[.pointer (some ⟨qp,0,none⟩)] 186 (0,0)))(hx:eG x)(hc:∀c∈cols,Nm c.name)
 {a b:Row} (ha:fM a) (hb:fM b) (Ir:a.length+b.length<=2^30) {xp:Nat} {ab:Option Addr} {an ac:Nat} (gx:h xp=some (.cells #[.slice ab an ac] 59 (0,0))) (qa:Sl 61 bq h (.slice ab an ac) a) {bb:Option Addr} {bn bc:Nat} (qbb:Sl 61 bq h (.slice bb bn bc) b)
 {D:List Row×Int} (hD:D=nF x cols a b l) {k:Value->ad->Prop}
 (hk:∀h' mV,uy B h' ob mV D.1->(mV=nb\/∃j,mV=some j/\h j=none)->Kp (ob::nb.toList) h h'->k (.int .i64 D.2) h'):
 Ct 189 [.slice bb bn bc,.pointer (some ⟨xp,0,none⟩),.pointer (some ⟨qb,0,none⟩),.pointer (some ⟨ob,0,none⟩)] h k:=by
 obtain⟨A,hA⟩:=Ar.ex;have l0:=qo.le;have gB:=qo.no;have gb0:=l0 _ _ gb;replace hD:D=match dL x.on cols (a++b)with
  | (on,e)=>if e≠0 then(l,e)else if on=false then(l,0)else match dL x.bM cols (a++b)with
   | (is,e)=>if e≠0 then(l,e)else(if is=true then l++[a++b]else l,0):=hD
 have eW:fM (a++b):=fun v hv=>by
  rcases List.mem_append.1 hv with hv|hv
  ·exact ha v hv
  ·exact hb v hv
 refine(q.mono l0).elim (fun b5 n5 c5 b6 n6 c6 b7 n7 c7 b8 n8 c8 b9 n9 c9 fG gG fF cb cn cc g q1 q2 q3 q4 q5 q6 q7=>?_);clear q1 q3 q4 q5;refine ah A (ar T189.aA T189.bm) Tryz.func189 rfl (by kernel_rfl) ?_;cbv;refine av gx rfl rfl ?_;cbv;intro t2 h1 f1 e1;have l1:Le h h1:=by rw[e1];exact Le.set f1
 have qL:Sl 59 (jU 61 bq) h1 (.slice (some ⟨t2,0,none⟩) 2 2) [a,b]:=by
  refine Sl.fresh (s:=jU 61 bq) (h:=h1) (n:=t2) (xs:=[a,b]) (cap:=2) (c:=[.slice ab an ac,.slice bb bn bc]) (by rw[e1];exact af) ⟨Nat.le_refl 2,fun i x hx=>?_⟩ (by show 2<=_;omega) (Nat.le_refl 2)
  match i,hx with
  |0,hx=>cases hx;exact⟨_,rfl,qa.mono (l1.t _)⟩
  |1,hx=>cases hx;exact⟨_,rfl,qbb.mono (l1.t _)⟩
  |i+2,hx=>simp at hx
 clear e1;cbv;refine(PQ qL (by simp;omega)).mono (fun v h2 hR=>?_);obtain⟨l2,rb,rn,rc,hv,qr⟩:=hR;subst hv;rw[show [a,b].flatten=a++b by simp]at qr;have ko:=l1.trans l2;have B6:=ko _ _ gb0;have g2:=ko _ _ g;have qo2:=qo.mono ko;clear qL qa qbb gx;cbv;repeat (first| (rw[ai A,ai A];refine av B6 rfl rfl ?_;cbv) | (rw[ai A];refine av B6 rfl rfl ?_;cbv) | (refine av B6 rfl rfl ?_;cbv) | (rw[ai A,ai A];refine av g2 rfl rfl ?_;cbv) | (rw[ai A];refine av g2 rfl rfl ?_;cbv) | (refine av g2 rfl rfl ?_;cbv) | (refine⟨⟨_,rfl,rfl⟩,?_⟩;cbv))
 refine KT hx.on hc eW (q2.mono (ko.t _)) (q7.mono (ko.t _)) qr.sl (fun h3 t e l3 ht=>?_);rw[<-ht]at hD;replace hD:D=if e≠0 then(l,e)else if t=false then(l,0)else match dL x.bM cols (a++b)with
  | (is,e)=>if e≠0 then(l,e)else(if is=true then l++[a++b]else l,0):=hD
 have fe:A .aG .neq e 0=decide (e≠0):=aB A ..;have uh:A .not t= !t:=by rw[hA.not]
 have xw:=ko.trans l3;have qo3:=qo2.mono l3;by_cases h0:e≠0
 ·rw[if_pos h0]at hD;subst hD;have ae:=hk h3 nb qo3 (.inl rfl) (xw.kp _);clear hk;cbv;rw[fe,decide_eq_true h0];cbv;exact ae
 rw[if_neg h0]at hD;have e0:e=0:=Decidable.not_not.1 h0;subst e0;cases t with
 |false=>rw[if_pos rfl]at hD;subst hD;have ae:=hk h3 nb qo3 (.inl rfl) (xw.kp _);clear hk;cbv;rw[fe,decide_eq_false h0];cbv;rw[uh];cbv;exact ae
 |true=>
  rw[if_neg (by simp)]at hD;have RJ:=xw _ _ gb0;have g3:=xw _ _ g;cbv;rw[fe,decide_eq_false h0];cbv;rw[uh];cbv;repeat (first| (rw[ai A,ai A];refine av RJ rfl rfl ?_;cbv) | (rw[ai A];refine av RJ rfl rfl ?_;cbv) | (refine av RJ rfl rfl ?_;cbv) | (rw[ai A,ai A];refine av g3 rfl rfl ?_;cbv) | (rw[ai A];refine av g3 rfl rfl ?_;cbv) | (refine av g3 rfl rfl ?_;cbv) | (refine⟨⟨_,rfl,rfl⟩,?_⟩;cbv))
  refine KT hx.bM hc eW (q6.mono (xw.t _)) (q7.mono (xw.t _)) (qr.sl.mono (l3.t _)) (fun h4 u e l4 hu=>?_);rw[<-hu]at hD;replace hD:D=if e≠0 then(l,e)else(if u=true then l++[a++b]else l,0):=hD
  have nT:=xw.trans l4;have Dp:=qo3.mono l4;have fe2:A .aG .eql e 0=decide (e=0):=aw A ..;cases u with
  |false=>
   have hD:D=(l,e):=by
    rw[hD];by_cases h0:e≠0
    ·rw[if_pos h0]
    ·rw[if_neg h0,if_neg (by simp),Decidable.not_not.1 h0]
   subst hD;have ae:=hk h4 nb Dp (.inl rfl) (nT.kp _);clear hk;cbv;exact ae
  |true=>
   by_cases h1:e=0
   ·subst h1;rw[if_neg (fun g=>g rfl),if_pos rfl]at hD;subst hD;obtain⟨b1,n1,c1,go,qx⟩:=Dp.out;have lB:=Dp.le;have ma:n1+1<=2^39:=by have:=qx.sl.len;omega
    have qr4:=qr.sl.mono ((l3.trans l4).t _);have DZ:∀h5 j,(nb=some j\/h5 j=none)->Le h4 h5->(some j=nb\/∃i,some j=some i/\h i=none):=fun h5 j hj l5=>by
     rcases hj with hj|hj
     ·exact .inl hj.symm
     ·refine .inr ⟨j,rfl,?_⟩;cases hh:h j with
      |none=>rfl
      |some o=>rw[l5 _ _ (nT _ _ hh)]at hj;cases hj
    clear qo qo2 qo3 Dp;cbv;rw[fe2];cbv;refine av go rfl rfl ?_;cbv;intro t5 h5 f5 e5;have l5:Le h4 h5:=by rw[e5];exact Le.set f5
    have v5:Sl 59 aL h5 (.slice (some ⟨t5,0,none⟩) 1 1) [a++b]:=bU (s:=aL) ((congrFun e5 t5).trans af) ⟨_,rfl,qr4.mono (l5.t _)⟩;have go5:=l5 _ _ go;have Zz:∀j,nb=some j->j≠ob:=fun j hj e=>by
     subst hj;obtain⟨c,fr,gg⟩:=qx.has;rw[e,go]at gg;cases gg
    clear e5;cbv;refine(qx.mono (l5.t _)).app v5 (by decide) rfl (by decide) ma (lB.trans l5) (fun j m c' h6 l6 MO DD hj bx6=>?_);have go6:=MO _ _ go5 (fun hm=>by
     cases nb with
     |none=>cases hm
     |some i=>have:ob=i:=by simpa using hm
              exact Zz i rfl this.symm)
    have DZ:=DZ h5 j hj l5;cbv;refine jz go6 (by simp) (fun h7 e7=>?_);have ae:=hk h7 (some j) ⟨⟨_,m,c',(by rw[e7];exact af),bx6.mono (by rw[e7];exact cF.set go6 (by decide))⟩,(fun b o hb=>by rw[e7,aP (fun e=>by rw[e,gB]at hb;cases hb)];exact l6 _ _ hb),gB⟩ DZ
     (fun b o hb hn=>by
      have n1:b≠ob:=fun e=>hn (by rw[e];exact List.mem_cons_self);rw[e7,aP n1];exact MO _ _ (l5 _ _ (nT _ _ hb)) (fun hm=>hn (List.mem_cons_of_mem _ hm)))
    clear hk e7;cbv;exact ae
   ·rw[if_pos h1]at hD;subst hD;have ae:=hk h4 nb Dp (.inl rfl) (nT.kp _);clear hk;cbv;rw[fe2,decide_eq_false h1];cbv;exact ae
def Fr(h:ad)(nb mV:Option Nat):Prop:=∀j o,mV=some j->h j=some o->nb=some j
theorem Fr.refl{h:ad}{nb:Option Nat}:Fr h nb nb:=fun j o e _=>e
theorem Fr.of{h:ad}{nb mV:Option Nat}(hh:mV=nb\/∃j,mV=some j/\h j=none):Fr h nb mV:=fun j o e1 e2=>by
 rcases hh with hh| ⟨i,h1,h2⟩
 ·rw[<-hh];exact e1
 ·rw[h1]at e1;cases e1;rw[h2]at e2;cases e2
theorem Fr.trans{h1 h':ad}{B B':ad}{ob:Nat}{nb mV xd:Option Nat}{l l':List Row}(Hh:Fr h1 nb mV)(QS:Kp (ob::nb.toList) h1 h')(q':∃b n c,h' ob=some (.cells #[.slice b n c] 34 (0,0))/\Bx 59 aL B h' mV (.slice b n c) l')
 (q1:∃b n c,h1 ob=some (.cells #[.slice b n c] 34 (0,0))/\Bx 59 aL B' h1 nb (.slice b n c) l) (nN:Fr h' mV xd):Fr h1 nb xd:=fun j o e1 e2=>by
 by_cases hm:j∈ob::nb.toList
 ·rcases List.mem_cons.1 hm with hm|hm
  ·obtain⟨b,n,c,g,qb⟩:=q';have:=nN j _ e1 (by rw[hm];exact g);subst this;obtain⟨cc,fr,gg⟩:=qb.has;rw[hm,g]at gg;cases gg
  ·cases nb with
   |none=>cases hm
   |some i=>have:j=i:=by simpa using hm
            rw[this]
 ·exact Hh j o (nN j _ e1 (QS _ _ e2 hm)) e2
theorem uy.YT{B h h':ad}{ob:Nat}{nb:Option Nat}{l:List Row}(q:uy B h ob nb l)(k:Kp (ob::nb.toList) h h'){tys:List Nat}(h1:34∉tys)(h2:59∉tys):cF tys h h':=fun b c e fr hm hb=>by
 obtain⟨sb,n,cc,g,qb⟩:=q.out;refine k b _ hb (fun hn=>?_);rcases List.mem_cons.1 hn with hn|hn
 ·rw[hn,g]at hb;cases hb;exact h1 hm
 ·cases nb with
  |none=>cases hn
  |some j=>
   have:b=j:=by simpa using hn
   subst this;obtain⟨c',Iz,g'⟩:=qb.has;rw[g']at hb;cases hb;exact h2 hm
theorem yq{x:az}{cols:List bT}{a b:Row}{out:List Row}:(nF x cols a b out).1.length<=out.length+1:=by
 unfold nF;generalize dL x.on cols (a++b)=H;obtain⟨on,e⟩:=H;generalize dL x.bM cols (a++b)=H2;obtain⟨is,e2⟩:=H2;by_cases h0:e=0
 ·subst h0;cases on with
  |false=>simp
  |true=>
   by_cases h2:e2=0
   ·cases is<;>simp[h2]
   ·simp[h2]
 ·simp[h0]
theorem SG{B h:ad}{ob:Nat}{nb:Option Nat}{l:List Row}(qo:uy B h ob nb l){qp qb:Nat}{x:az}{cols:List bT}{y:Qy}(q:lf B qp x cols y)(gb:B qb=some (.cells #[.pointer (some ⟨qp,0,none⟩)] 186 (0,0)))(hx:eG x)(hc:∀c∈cols,Nm c.name)
 {a:Row} (ha:fM a) {bs:List Row} (hb:∀b∈bs,fM b/\a.length+b.length<=2^30) (hl:l.length+bs.length<=2^37) {ab:Option Addr} {an ac:Nat} (qa:Sl 61 bq h (.slice ab an ac) a)
 {tb:Nat} {v1 v2 v3 v4:Value} {rb:Option Addr} {rn rc:Nat} (gt:B tb=some (.cells #[v1,v2,v3,v4,.slice rb rn rc] 51 (0,0))) (qr:Sl 59 aL B (.slice rb rn rc) bs)
 {D:List Row×Int} (hD:D=ef x cols a bs l) {k:Value->ad->Prop}
 (hk:∀h' mV,uy B h' ob mV D.1->Fr h nb mV->Kp (ob::nb.toList) h h'->k (.int .i64 D.2) h'):
 Ct 188 [.slice ab an ac,.pointer (some ⟨tb,0,none⟩),.pointer (some ⟨qb,0,none⟩),.pointer (some ⟨ob,0,none⟩)] h k:=by
 obtain⟨A,hA⟩:=Ar.ex;refine ah A (ar T188.aA T188.bm) Tryz.func188 rfl (by kernel_rfl) ?_;cbv;intro xp h1 f1 e1;have l1:Le h h1:=by rw[e1];exact Le.set f1
 have gx1:h1 xp=some (.cells #[.slice ab an ac] 59 (0,0)):=by rw[e1];exact af
 have SS:=qo.mono l1;have hxo:xp≠ob:=fun e=>by
  obtain⟨sb,n,cc,g,-⟩:=qo.out;rw[e,g]at f1;cases f1
 have KF:nb≠some xp:=fun e=>by
  obtain⟨sb,n,cc,g,qbx⟩:=qo.out;subst e;obtain⟨c,fr,gg⟩:=qbx.has;rw[gg]at f1;cases f1
 have VJ:=SS.le _ _ gt;clear e1;obtain⟨I,bl⟩:∃I:Nat->ad->Prop,∀i h',I i h'=∃mV l',uy B h' ob mV l'/\l'.length<=l.length+i/\Fr h1 nb mV/\Kp (ob::nb.toList) h1 h'/\h' xp=some (.cells #[.slice ab an ac] 59 (0,0))/\Sl 61 bq h' (.slice ab an ac) a/\ef x cols a (bs.drop i) l'=D:=⟨_,fun _ _=>rfl⟩;have hJ:I 0 h1:=by rw[bl];exact⟨nb,l,SS,Nat.le_refl _,Fr.refl,Kp.refl _ _,gx1,qa.mono (l1.t _),hD.symm⟩
 have hfr:∀mV,Fr h1 nb mV->Fr h nb mV:=fun mV hh j o e1 e2=>hh j o e1 (l1 _ _ e2);cbv;rw[ai A];refine av VJ rfl rfl ?_;cbv;refine Ej qr.len I hJ (fun i h' hI=>?_) (fun i b h' b1 n1 c1 hi O9 hI hv=>?_) (fun h' hI=>?_)
 ·rw[bl]at hI;obtain⟨mV,l',q',-⟩:=hI;exact qr.mono (q'.le.t _)
 ·rw[bl]at hI;obtain⟨mV,l',q',qJ,Hh,QS,gx',qa',he⟩:=hI;have hd:bs.drop i=b::bs.drop (i+1):=by obtain⟨h1,h2⟩:=List.getElem?_eq_some_iff.1 O9;rw[List.drop_eq_getElem_cons h1,h2]
  have Vu:=hb b (List.mem_of_getElem? O9);have kh:i<bs.length:=(List.getElem?_eq_some_iff.1 O9).1;rw[hd,oy]at he;have hxn':mV≠some xp:=fun e=>KF (Hh xp _ e gx1);refine SF q' (by omega) q gb hx hc ha Vu.1 Vu.2 gx' qa' hv rfl (fun h2 xd q2 nN kp2=>⟨_,rfl,fun h0=>?_,fun h0=>?_⟩)
  ·rw[if_neg (fun g=>g h0)]at he;have hkx:xp∉ob::mV.toList:=fun hm=>by
    rcases List.mem_cons.1 hm with hm|hm
    ·exact hxo hm
    ·cases mV with
     |none=>cases hm
     |some j=>have:xp=j:=by simpa using hm
              exact hxn' (by rw[this])
   rw[bl];refine⟨xd,_,q2,Nat.le_trans yq (by omega),?_,?_,kp2 _ _ gx' hkx,qa'.mono (q'.YT kp2 (by decide) (by decide)),he⟩
   ·exact Fr.trans Hh QS q'.out SS.out (Fr.of nN)
   ·exact fun b' o nj hm=>kp2 _ _ (QS _ _ nj hm) (fun tN=>by
     rcases List.mem_cons.1 tN with tN|tN
     ·exact hm (by rw[tN];exact List.mem_cons_self)
     ·cases mV with
      |none=>cases tN
      |some j=>
       have:b'=j:=by simpa using tN
       subst this;have:=Hh b' o rfl nj;exact hm (List.mem_cons_of_mem _ (by rw[this];simp)))
  ·rw[if_pos h0]at he;have q3:=q2;rw[he]at q3;have hfr2:=hfr xd (Fr.trans Hh QS q'.out SS.out (Fr.of nN));have kp3:Kp (ob::nb.toList) h h2:=fun b' o nj hm=>by
    have ll:=l1 _ _ nj;refine kp2 _ _ (QS _ _ ll hm) (fun tN=>?_);rcases List.mem_cons.1 tN with tN|tN
    ·exact hm (by rw[tN];exact List.mem_cons_self)
    ·cases mV with
     |none=>cases tN
     |some j=>
      have:b'=j:=by simpa using tN
      subst this;have:=Hh b' o rfl ll;exact hm (List.mem_cons_of_mem _ (by rw[this];simp))
   have ae:=hk h2 xd q3 hfr2 kp3;rw[he];clear hk bl hJ;generalize D.2=De at *;cbv;exact ae
 ·rw[bl]at hI;obtain⟨mV,l',q',qJ,Hh,QS,gx',qa',he⟩:=hI;rw[List.drop_of_length_le (by rw[qr.len];exact Nat.le_refl _)]at he;have he:(l',0)=D:=he;subst he;have ae:=hk h' mV q' (hfr mV Hh) (fun b' o nj hm=>QS _ _ (l1 _ _ nj) hm);clear hk bl hJ;cbv;exact ae
theorem oz(x:az)(cols:List bT)(bs:List Row)(a:Row)(l out:List Row):cy x cols bs (a::l) out=match ef x cols a bs out with
 | (out,e)=>if e≠0 then(out,e)else cy x cols bs l out:=rfl
theorem pW{x:az}{cols:List bT}{a:Row}:∀ {bs out:List Row},(ef x cols a bs out).1.length<=out.length+bs.length
 | [],out=>Nat.le_refl _
 |b::bs,out=>by
  rw[oy];have h1:=yq (x:=x) (cols:=cols) (a:=a) (b:=b) (out:=out);by_cases c:(nF x cols a b out).2≠0
  ·rw[if_pos c];simp only[List.length_cons];omega
  ·rw[if_neg c];have:=pW (x:=x) (cols:=cols) (a:=a) (bs:=bs) (out:=(nF x cols a b out).1);simp only[List.length_cons];omega
theorem QC{h:ad}{qp:Nat}{x:az}{cols:List bT}{y:Qy}(q:lf h qp x cols y)(hx:eG x)(hc:∀c∈cols,Nm c.name){as_ bs:List Row}(ha:∀a∈as_,fM a/\a.length<=2^20)(hb:∀b∈bs,fM b/\b.length<=2^20)(hal:as_.length<=2^10)(xh:bs.length<=2^10)
 {u1 u2 u3 u4 v1 v2 v3 v4:Value} (hu:jo [u1,u2,u3,u4]=true) (hv:jo [v1,v2,v3,v4]=true) {rb:Option Addr} {rn rc:Nat} (qr:Sl 59 aL h (.slice rb rn rc) as_) {sb:Option Addr} {sn sc:Nat} (qs:Sl 59 aL h (.slice sb sn sc) bs)
 {k:Value->ad->Prop} (hk:∀h' b n c nb,Le h h'->(∀j,nb=some j->h j=none)->Bx 59 aL h h' nb (.slice b n c) (cy x cols bs as_ []).1->k (.tuple #[.slice b n c,.int .i64 (cy x cols bs as_ []).2]) h'):
 Ct 101 [.pointer (some ⟨qp,0,none⟩),.agg #[u1,u2,u3,u4,.slice rb rn rc],.agg #[v1,v2,v3,v4,.slice sb sn sc]] h k:=by
 obtain⟨A,hA⟩:=Ar.ex;obtain⟨D,hD⟩:∃D,cy x cols bs as_ []=D:=⟨_,rfl⟩;rw[hD]at hk;refine ah A (ar T101.aA T101.bm) Tryz.func101 rfl (by kernel_rfl) ?_;cbv;intro qb h1 f1 e1;have l1:Le h h1:=by rw[e1];exact Le.set f1
 have gb:h1 qb=some (.cells #[.pointer (some ⟨qp,0,none⟩)] 186 (0,0)):=by rw[e1];exact af
 clear e1;cbv;intro tb h2 f2 e2;have l2:Le h1 h2:=by rw[e2];exact Le.set f2
 have gt:h2 tb=some (.cells #[v1,v2,v3,v4,.slice sb sn sc] 51 (0,0)):=by rw[e2];exact af
 clear e2;cbv;intro ob h3 f3 e3;have l3:Le h2 h3:=by rw[e3];exact Le.set f3
 have go:h3 ob=some (.cells #[.slice none 0 0] 34 (0,0)):=by rw[e3];exact af
 clear e3;have ko:=l1.trans l2;have l2B:Le h2 (Sx.de h3 ob):=fun b o hb=>by
  rw[Sx.eQ (fun e=>by rw[e,f3]at hb;cases hb)];exact l3 _ _ hb
 obtain⟨B,hB⟩:∃B,B=Sx.de h3 ob:=⟨_,rfl⟩;rw[<-hB]at l2B;have XC:Le B h3:=by rw[hB];exact Sx.fJ h3 ob
 have VB:B ob=none:=by rw[hB];exact Sx.dX h3 ob
 have zP:Le h B:=ko.trans l2B;obtain⟨I,bl⟩:∃I:Nat->ad->Prop,∀i h',I i h'=∃nb l,uy B h' ob nb l/\l.length<=i*bs.length/\cy x cols bs (as_.drop i) l=D:=⟨_,fun _ _=>rfl⟩;have hJ:I 0 h3:=by rw[bl];exact⟨none,[],⟨⟨_,_,_,go,.inl ⟨rfl,rfl,rfl⟩⟩,XC,VB⟩,by simp,hD⟩
 have fin:∀h' nb l e,uy B h' ob nb l->(l,e)=D->∃b n c,h' ob=some (.cells #[.slice b n c] 34 (0,0))/\k (.tuple #[.slice b n c,.int .i64 e]) h':=fun h' nb l e q' he=>by
  obtain⟨b,n,c,g,QG⟩:=q'.out;subst he;refine⟨b,n,c,g,hk h' b n c nb (zP.trans q'.le) (fun j hj=>?_) ?_⟩
  ·subst hj;rcases QG with ⟨h1,-⟩ | ⟨j',cap,e1,-,e3,-⟩
   ·cases h1
   ·cases e1;cases hh:h j with
    |none=>rfl
    |some o=>rw[zP _ _ hh]at e3;cases e3
  ·rcases QG with ⟨h1,h2,h3⟩ | ⟨j',cap,e1,e2,e3,o⟩
   ·exact .inl ⟨h1,h2,h3⟩
   ·exact .inr ⟨j',cap,e1,e2,(by
     cases hh:h j' with
     |none=>rfl
     |some o=>rw[zP _ _ hh]at e3;cases e3),o⟩
 clear hB hk;cbv;refine Hx qr.len I hJ (fun i h' hI=>?_) (fun i a h' b1 n1 c1 hi hax hI hv'=>?_) (fun h' hI=>?_)
 ·rw[bl]at hI;obtain⟨nb,l,q',-⟩:=hI;exact qr.mono ((zP.trans q'.le).t _)
 ·rw[bl]at hI;obtain⟨nb,l,q',qJ,he⟩:=hI;have hd:as_.drop i=a::as_.drop (i+1):=by obtain⟨h1,h2⟩:=List.getElem?_eq_some_iff.1 hax;rw[List.drop_eq_getElem_cons h1,h2]
  have ham:=ha a (List.mem_of_getElem? hax);have kh:i<as_.length:=(List.getElem?_eq_some_iff.1 hax).1;rw[hd,oz]at he;have hib:i*bs.length<=2^20:=by have:i*bs.length<=2^10*2^10:=Nat.mul_le_mul (by omega) xh;omega
  refine SG q' (q.mono zP) (l2B _ _ (l2 _ _ gb)) hx hc ham.1 (fun b Vu=>⟨(hb b Vu).1,by have:=(hb b Vu).2;have:=ham.2;omega⟩) (by omega) hv' (l2B _ _ gt) (qs.mono (zP.t _)) rfl (fun h2 xd q2 _ _=>⟨_,rfl,fun h0=>?_,fun h0=>?_⟩)
  ·have MT:=pW (x:=x) (cols:=cols) (a:=a) (bs:=bs) (out:=l);generalize ef x cols a bs l=E at *;obtain⟨out,e⟩:=E;replace he:(if e≠0 then(out,e)else cy x cols bs (as_.drop (i+1)) out)=D:=he;rw[if_neg (fun g=>g h0)]at he;rw[bl];refine⟨xd,out,q2,?_,he⟩;have:(i+1)*bs.length=i*bs.length+bs.length:=Nat.succ_mul _ _;have MT:out.length<=l.length+bs.length:=MT;omega
  ·generalize ef x cols a bs l=E at *;obtain⟨out,e⟩:=E;replace he:(if e≠0 then(out,e)else cy x cols bs (as_.drop (i+1)) out)=D:=he;rw[if_pos h0]at he;obtain⟨b,n,c,g,ae⟩:=fin h2 xd out e q2 he;clear fin bl hJ;cbv;refine av g rfl rfl ?_;cbv;exact ae
 ·rw[bl]at hI;obtain⟨nb,l,q',qJ,he⟩:=hI;rw[List.drop_of_length_le (by rw[qr.len];exact Nat.le_refl _)]at he;have he:(l,0)=D:=he;obtain⟨b,n,c,g,ae⟩:=fin h' nb l 0 q' he;clear fin bl hJ;cbv;refine av g rfl rfl ?_;cbv;exact ae
theorem FL{xs:List Row}{h:ad}{b:Option Addr}{len cap:Nat}(q:Sl 59 aL h (.slice b len cap) xs):
 Ct 195 [.slice b len cap] h (fun v h'=>Le h h'/\∃b' eV,v=.slice b' len eV/\cX 59 aL h h' (.slice b' len eV) xs):=by
 obtain⟨A,hA⟩:=Ar.ex;refine ah A (ar T195.aA T195.bm) Tryz.func195 rfl (by kernel_rfl) ?_;cbv;refine aQ (fun hc=>?_) (fun hc=>?_)
 ·rw[hA.xy]at hc;cbv;have hb:b=none:=by cases b<;>simp at hc |-
  subst hb;have hl:len=0:=by
   rcases Nat.eq_zero_or_pos len with e|e
   ·exact e
   ·have:=q.bu e;cases this
  have:=q.len;have hx:xs=[]:=List.eq_nil_of_length_eq_zero (by omega);subst hx hl;exact⟨Le.refl _,none,0,rfl,cX.nil⟩
 ·cbv;intro n0 h1 kg eF;have hle:Le h h1:=by rw[eF];exact Le.set kg
  cbv;refine fi (q.mono (hle.t _)) (by decide) rfl (by decide) (fun hn=>?_) (fun nb c h2 e1 e2 e3 e4=>?_)
  ·cbv;have:=q.len;have hx:xs=[]:=List.eq_nil_of_length_eq_zero (by omega);subst hx hn;exact⟨hle,_,_,rfl,cX.nil⟩
  ·cbv;exact⟨hle.trans e3,_,_,rfl,e4.buf (hle.none e1) q.len⟩
theorem Sl.ET{α:Type}{e:Nat}{s:Sh α}{h:ad}{b:Option Addr}{n c c':Nat}{xs:List α}(q:Sl e s h (.slice b n c) xs)(hc:n<=c'):Sl e s h (.slice b n c') xs:=by obtain⟨b',cap,h1,h2,h3,h4⟩:=q.out;cases h1;exact⟨b,c',rfl,hc,h3,h4⟩
theorem yw{nL:Int}{n:Nat}(h:¬nL<0):min nL (n:Int)=((min nL.toNat n:Nat):Int):=by omega
theorem J5{xs:List (List Row)}{h:ad}{b:Option Addr}{n c:Nat}(q:Sl 34 (jU 59 aL) h (.slice b n c) xs)(nL:Int){k:Value->ad->Prop}(hk:∀b' n' c',Sl 34 (jU 59 aL) h (.slice b' n' c') (cH xs nL)->k (.slice b' n' c') h):
 Ct 196 [.slice b n c,.int .i64 nL] h k:=by
 obtain⟨A,hA⟩:=Ar.ex;have hn:=q.len;have hb:=q.bound;have f1:A .aG .lss nL 0=decide (nL<0):=bE A ..;obtain⟨m,hm⟩:∃m,A .lq nL (A .nat n)=m:=⟨_,rfl⟩;have tN:m=min nL (n:Int):=by rw[<-hm,hA.lq,hA.nat];rfl
 refine ah A (ar T196.aA T196.bm) Tryz.func196 rfl (by kernel_rfl) ?_;cbv;rw[f1];by_cases h0:nL<0
 ·have hP:cH xs nL=xs:=by unfold cH;rw[if_pos h0]
  rw[hP]at hk;have ae:=hk b n c q;clear hk;rw[decide_eq_true h0];cbv;exact ae
 ·have hP:cH xs nL=xs.take nL.toNat:=by unfold cH;rw[if_neg h0]
  have KU:aS m (min nL.toNat n):=⟨tN.trans (yw h0)⟩;have ht:xs.take nL.toNat=xs.take (min nL.toNat n):=by
   rw[hn];rcases Nat.le_total nL.toNat xs.length with h1|h1
   ·rw[Nat.min_eq_left h1]
   ·rw[Nat.min_eq_right h1,List.take_of_length_le h1,List.take_of_length_le (Nat.le_refl _)]
  rw[hP,ht]at hk;have cU:0<=m/\m<=(c:Int):=by have:=KU.eq;omega
  have ZT:=dM (A:=A) KU;rw[decide_eq_false h0];cbv;rw[hm];cbv;refine⟨cU,?_⟩;have hz:m-0=((min nL.toNat n:Nat):Int):=by rw[KU.eq];omega
  have ae:=fun c' oP=>hk _ _ _ (Sl.ET (q.tA (A:=A) (z:=A .nat c) (Nat.min_le_right nL.toNat n) rfl rfl) (c':=c') oP);clear hk;cbv;rw[ZT];exact ae c (by omega)
theorem Pu{h:ad}{qp:Nat}{x:az}{cols:List bT}{y:Qy}(q:lf h qp x cols y)(hg:y.group<0){rows:List Row}{rb:Option Addr}{rn rc:Nat}(qr:Sl 59 aL h (.slice rb rn rc) rows)
 {k:Value->ad->Prop} (hk:∀h' b,Le h h'->Sl 34 (jU 59 aL) h' (.slice (some ⟨b,0,none⟩) 1 1) [rows]->k (.slice (some ⟨b,0,none⟩) 1 1) h'):
 Ct 197 [.pointer (some ⟨qp,0,none⟩),.slice rb rn rc] h k:=by
 obtain⟨A,hA⟩:=Ar.ex;refine q.elim (fun b5 n5 c5 b6 n6 c6 b7 n7 c7 b8 n8 c8 b9 n9 c9 fG gG fF cb cn cc g q1 q2 q3 q4 q5 q6 q7=>?_);clear q1 q2 q3 q4 q5 q6 q7;have fo:A .aG .lss y.group 0=true:=by rw[bE A];exact decide_eq_true (by omega)
 refine ah A (ar T197.aA T197.bm) Tryz.func197 rfl (by kernel_rfl) ?_;cbv;intro qb h1 f1 e1;have l1:Le h h1:=by rw[e1];exact Le.set f1
 have gb:h1 qb=some (.cells #[.pointer (some ⟨qp,0,none⟩)] 186 (0,0)):=by rw[e1];exact af
 have g1:=l1 _ _ g;clear e1;cbv;repeat (first| (rw[ai A,ai A];refine av gb rfl rfl ?_;cbv) | (rw[ai A];refine av gb rfl rfl ?_;cbv) | (refine av gb rfl rfl ?_;cbv) | (rw[ai A,ai A];refine av g1 rfl rfl ?_;cbv) | (rw[ai A];refine av g1 rfl rfl ?_;cbv) | (refine av g1 rfl rfl ?_;cbv) | (refine⟨⟨_,rfl,rfl⟩,?_⟩;cbv))
 intro ob h2a f2 e2;have l2a:Le h1 h2a:=by rw[e2];exact Le.set f2
 have goa:h2a ob=some (.cells #[.int .i64 0] 3 (0,0)):=by rw[e2];exact af
 clear e2;cbv;refine jz goa (by simp) (fun h2 e2=>?_);have l2:Le h1 h2:=fun b o hb=>by rw[e2,aP (fun e=>by rw[e,f2]at hb;cases hb)];exact l2a _ _ hb
 have go:h2 ob=some (.cells #[.int .i64 y.group] 3 (0,0)):=by rw[e2];exact af
 have ko:=l1.trans l2;clear e2;cbv;refine av go rfl rfl ?_;cbv;rw[fo];cbv;intro nb h3 f3 e3;have l3:Le h2 h3:=by rw[e3];exact Le.set f3
 have v3:Sl 34 (jU 59 aL) h3 (.slice (some ⟨nb,0,none⟩) 1 1) [rows]:=bU (s:=(jU 59 aL)) ((congrFun e3 nb).trans af) ⟨_,rfl,qr.mono ((ko.trans l3).t _)⟩;have ae:=hk h3 nb (ko.trans l3) v3;clear e3 hk;cbv;exact ae
def Eu(n:Nat):dg:=⟨2,n,b0⟩
theorem Ey{h:ad}{qp:Value}{rb:Option Addr}{rn rc:Nat}{eb:Option Addr}{en ec:Nat}
 {k:Value->ad->Prop} (hk:∀h' N,Le h h'->N=(rn:Int)->k (.tuple #[.agg #[.int .i64 2,.int .i64 N,.string b0],.int .i64 0]) h'):
 Ct 199 [qp,.agg #[.int .i64 1,.slice eb en ec],.slice rb rn rc] h k:=by
 obtain⟨A,hA⟩:=Ar.ex;obtain⟨N,hN⟩:∃N,A .nat rn=N:=⟨_,rfl⟩;have hN2:N=(rn:Int):=by rw[<-hN,hA.nat];rfl
 refine ah A (ar T199.aA T199.bm) Tryz.func199 rfl (by kernel_rfl) ?_;cbv;intro qb h1 f1 e1;have l1:Le h h1:=by rw[e1];exact Le.set f1
 clear e1;cbv;intro ib h2 f2 e2;have l2:Le h1 h2:=by rw[e2];exact Le.set f2
 have gi:h2 ib=some (.cells #[.int .i64 1,.slice eb en ec] 276 (0,0)):=by rw[e2];exact af
 clear e2;cbv;intro vb h3 f3 e3;have l3:Le h2 h3:=by rw[e3];exact Le.set f3
 have gv:h3 vb=some (.cells #[.int .i64 0,.int .i64 0,.string ⟨#[]⟩] 61 (0,0)):=by rw[e3];exact af
 have gi3:=l3 _ _ gi;clear e3;cbv;repeat (first| (rw[ai A,ai A];refine av gi3 rfl rfl ?_;cbv) | (rw[ai A];refine av gi3 rfl rfl ?_;cbv) | (refine av gi3 rfl rfl ?_;cbv) | (refine⟨⟨_,rfl,rfl⟩,?_⟩;cbv))
 have f11:A .aG .eql 1 1=true:=by rw[aw A];rfl
 rw[f11];cbv;rw[hN];refine jz gv (by simp) (fun h4 e4=>?_);have l4:Le h2 h4:=fun b o hb=>by rw[e4,aP (fun e=>by rw[e,f3]at hb;cases hb)];exact l3 _ _ hb
 have gv4:h4 vb=some (.cells #[.int .i64 2,.int .i64 N,.string b0] 61 (0,0)):=by rw[e4];exact af
 clear e4;have ae:=hk h4 N ((l1.trans l2).trans l4) hN2;clear hk;cbv;repeat (first| (rw[ai A,ai A];refine av gv4 rfl rfl ?_;cbv) | (rw[ai A];refine av gv4 rfl rfl ?_;cbv) | (refine av gv4 rfl rfl ?_;cbv) | (refine⟨⟨_,rfl,rfl⟩,?_⟩;cbv))
 exact ae
theorem Py{B h:ad}{ob:Nat}{l:Row}(qo:H0 B h ob l)(hl:l.length<=2^30){qp qb gb:Nat}{rb:Option Addr}{rn rc:Nat}(gq:B qb=some (.cells #[.pointer (some ⟨qp,0,none⟩)] 186 (0,0)))(gg:B gb=some (.cells #[.slice rb rn rc] 34 (0,0))){eb:Option Addr}{en ec:Nat}
 {k:Value->ad->Prop} (hk:∀h',H0 B h' ob (l++[Eu rn])->k (.int .i64 0) h'):
 Ct 198 [.agg #[.int .i64 1,.slice eb en ec],.pointer (some ⟨qb,0,none⟩),.pointer (some ⟨gb,0,none⟩),.pointer (some ⟨ob,0,none⟩)] h k:=by
 obtain⟨A,hA⟩:=Ar.ex;have l0:=qo.le;have gB:=qo.no;obtain⟨b,n,c,go,QG⟩:=qo.out;have BY:=QG.sl.len;have gq0:=l0 _ _ gq;have gg0:=l0 _ _ gg;refine ah A (ar T198.aA T198.bm) Tryz.func198 rfl (by kernel_rfl) ?_;cbv;repeat (first| (rw[ai A,ai A];refine av gq0 rfl rfl ?_;cbv) | (rw[ai A];refine av gq0 rfl rfl ?_;cbv) | (refine av gq0 rfl rfl ?_;cbv) | (rw[ai A,ai A];refine av gg0 rfl rfl ?_;cbv) | (rw[ai A];refine av gg0 rfl rfl ?_;cbv) | (refine av gg0 rfl rfl ?_;cbv) | (refine⟨⟨_,rfl,rfl⟩,?_⟩;cbv))
 refine Ey (fun h1 N l1 hN=>?_);have Ee:=l1 _ _ go;cbv;repeat (first| (rw[ai A,ai A];refine av Ee rfl rfl ?_;cbv) | (rw[ai A];refine av Ee rfl rfl ?_;cbv) | (refine av Ee rfl rfl ?_;cbv) | (refine⟨⟨_,rfl,rfl⟩,?_⟩;cbv))
 intro n2 h2 g2 e2;have l2:Le h1 h2:=by rw[e2];exact Le.set g2
 have v2:Sl 61 bq h2 (.slice (some ⟨n2,0,none⟩) 1 1) [Eu rn]:=bU (s:=bq) ((congrFun e2 n2).trans af) (by rw[hN];rfl);have go2:=l2 _ _ Ee;clear e2;cbv;refine(QG.mono ((l1.trans l2).t _)).append v2 (by decide) rfl (by decide) (by omega) (l0.trans (l1.trans l2)) (fun m3 b3 c3 h3 XK l3 t3 k3 nP=>?_);have Iw:h3 ob=some (.cells #[.slice b n c] 59 (0,0)):=t3 [59] (by decide) _ _ _ _ (List.mem_singleton.2 rfl) go2;clear t3 k3 v2;cbv;refine jz Iw (by simp) (fun h4 e4=>?_);have ae:=hk h4 ⟨⟨b3,m3,c3,by rw[e4];exact af,nP.mono (by rw[e4];exact cF.set Iw (by decide))⟩,fun b' o' nj=>by rw[e4,aP (fun e=>by rw[e,gB]at nj;cases nj)];exact l3 _ _ nj,gB⟩;clear hk e4;cbv;exact ae
theorem yW{cols:List bT}{gr:Int}{g:List Row}:∀ {is:List dG} {r:Row},(∀i∈is,i.fn=1)->yX cols gr g is r=(r++List.replicate is.length (Eu g.length),0)
 | [],r,_=>by show(r,0)=_;simp
 |i::is,r,h=>by
  have h1:Qi cols gr i g=(Eu g.length,0):=by unfold Qi;rw[if_pos (h i List.mem_cons_self)];rfl
  show(match Qi cols gr i g with
   | (v,e)=>if e≠0 then([],e)else yX cols gr g is (r++[v]))=_
  rw[h1];show(if(0:Int)≠0 then([],0)else yX cols gr g is (r++[Eu g.length]))=_;rw[if_neg (fun g=>g rfl),yW (fun j hj=>h j (List.mem_cons_of_mem _ hj))];simp[List.replicate_succ]
theorem Pz{h:ad}{qp:Nat}{x:az}{cols:List bT}{y:Qy}(q:lf h qp x cols y)(hx:eG x)(hg:y.group<0)(Rs:∀i∈x.items,i.fn=1){rows:List Row}{rb:Option Addr}{rn rc:Nat}(qr:Sl 59 aL h (.slice rb rn rc) rows)
 {k:Value->ad->Prop} (hk:∀h' b n c,Le h h'->Sl 59 aL h' (.slice b n c) (eS x cols y.group rows).1->k (.tuple #[.slice b n c,.int .i64 (eS x cols y.group rows).2]) h'):
 Ct 103 [.pointer (some ⟨qp,0,none⟩),.slice rb rn rc] h k:=by
 obtain⟨A,hA⟩:=Ar.ex;have hP:eS x cols y.group rows=np x cols y.group (cH [rows] x.fw) []:=by unfold eS Fv;rw[if_pos hg]
 rw[hP]at hk;obtain⟨D,hD⟩:∃D,np x cols y.group (cH [rows] x.fw) []=D:=⟨_,rfl⟩;rw[hD]at hk;refine q.elim (fun b5 n5 c5 b6 n6 c6 b7 n7 c7 b8 n8 c8 b9 n9 c9 fG gG fF cb cn cc g q1 q2 q3 q4 q5 q6 q7=>?_);clear q1 q2 q3 q4 q6 q7;refine ah A (ar T103.aA T103.bm) Tryz.func103 rfl (by kernel_rfl) ?_;cbv;intro qb h1 f1 e1;have l1:Le h h1:=by rw[e1];exact Le.set f1
 have gb:h1 qb=some (.cells #[.pointer (some ⟨qp,0,none⟩)] 186 (0,0)):=by rw[e1];exact af
 have g1:=l1 _ _ g;have q1:=q.mono l1;clear e1;cbv;repeat (first| (rw[ai A,ai A];refine av gb rfl rfl ?_;cbv) | (rw[ai A];refine av gb rfl rfl ?_;cbv) | (refine av gb rfl rfl ?_;cbv) | (rw[ai A,ai A];refine av g1 rfl rfl ?_;cbv) | (rw[ai A];refine av g1 rfl rfl ?_;cbv) | (refine av g1 rfl rfl ?_;cbv) | (refine⟨⟨_,rfl,rfl⟩,?_⟩;cbv))
 refine Pu q1 hg (qr.mono (l1.t _)) (fun h2 bg l2 qg=>?_);have B6:=l2 _ _ gb;have g2:=l2 _ _ g1;cbv;repeat (first| (rw[ai A,ai A];refine av B6 rfl rfl ?_;cbv) | (rw[ai A];refine av B6 rfl rfl ?_;cbv) | (refine av B6 rfl rfl ?_;cbv) | (rw[ai A,ai A];refine av g2 rfl rfl ?_;cbv) | (rw[ai A];refine av g2 rfl rfl ?_;cbv) | (refine av g2 rfl rfl ?_;cbv) | (refine⟨⟨_,rfl,rfl⟩,?_⟩;cbv))
 refine J5 qg x.fw (fun lb ln lc qm=>?_);obtain⟨M,hM⟩:∃M,cH [rows] x.fw=M:=⟨_,rfl⟩;rw[hM]at qm hD;have hMl:M.length<=1:=by
  rw[<-hM];unfold cH;split
  ·exact Nat.le_refl _
  ·rw[List.length_take];exact Nat.min_le_right _ _
 have Ag:=qm.len;have ko:=l1.trans l2;replace q5:=q5.mono (ko.t _);have MW:=q5.len;have kh:=hx.YZ;obtain⟨I2,bl⟩:∃I:Nat->(Int×Option Addr×Nat×Nat)->ad->Prop,∀m g h',I m g h'=∃i out,aS g.1 i/\i<=ln/\m=ln-i/\Le h2 h'/\out.length=i/\cX 59 aL h2 h' (.slice g.2.1 g.2.2.1 g.2.2.2) out/\np x cols y.group (M.drop i) out=D:=⟨_,fun _ _ _=>rfl⟩;have hJ:I2 ln (0,none,0,0) h2:=by rw[bl];exact⟨0,[],⟨rfl⟩,Nat.zero_le _,rfl,Le.refl _,rfl,cX.nil,hD⟩
 clear hM hD qg q1 q qr;cbv;repeat (refine⟨⟨_,rfl,rfl⟩,?_⟩;cbv)
 refine aX.go (G:=Int×Option Addr×Nat×Nat) (fun g=>[(21,.v (.int .i64 g.1)),(6,.v (.slice g.2.1 g.2.2.1 g.2.2.2))]) (fun _=>[]) (fun m g h'=>I2 m g h') ln (0,none,0,0) ⟨?_,?_,?_⟩ hJ ?_
 ·cbv
 ·cbv
 ·cbv
 ·intro m2 gg h4 hI;rw[bl]at hI;cbv;obtain⟨j,out,hw,hj,tN,tK,hol,qo,hD⟩:=hI;obtain⟨w,bo,no,co⟩:=gg;replace hw:aS w j:=hw;replace qo:cX 59 aL h2 h4 (.slice bo no co) out:=qo;have f2:A .aG .lss w (A .nat ln)=decide (j<ln):=hw.gy (aS.nat ln);have Yk:=qm.mono (tK.t _);have gB:=qo.sl.len;cbv;rw[f2];by_cases MX:j<ln
  ·obtain⟨r,Xt⟩:=aI (xs:=M) (i:=j) (by omega);have kW:0<=w/\w<(ln:Int):=hw.ix MX;have hwe:=hw.eq;have Za:=hw.succ (A:=A) (by omega);have D4:ln-(j+1)<m2:=by omega
   have AP:M.drop j=r::M.drop (j+1):=by obtain⟨h1,h2⟩:=List.getElem?_eq_some_iff.1 Xt;rw[List.drop_eq_getElem_cons h1,h2]
   obtain⟨RV,hRV⟩:∃RV,RV=List.replicate x.items.length (Eu r.length):=⟨_,rfl⟩;rw[AP]at hD;replace hD:(match yX cols y.group r x.items []with
    | (r,e)=>if e≠0 then([],e)else np x cols y.group (M.drop (j+1)) (out++[r]))=D:=hD
   rw[yW Rs,List.nil_append,<-hRV]at hD;replace hD:(if(0:Int)≠0 then([],0)else np x cols y.group (M.drop (j+1)) (out++[RV]))=D:=hD;rw[if_neg (fun g=>g rfl)]at hD;have uL:∀h5 b5 m5 c5,Le h2 h5->m5=no+1->cX 59 aL h2 h5 (.slice b5 m5 c5) (out++[RV])->I2 (ln-(j+1)) (A .bA .add .i64 w 1,b5,m5,c5) h5:=fun h5 b5 m5 c5 l5 XJ o5=>by
    rw[bl];exact⟨j+1,out++[RV],Za,MX,rfl,l5,by rw[List.length_append,List.length_singleton,hol],o5,hD⟩
   have UJ:=Yk.bu (by omega:0<ln);have g4:=tK _ _ g2;have Pw:=tK _ _ B6;clear bl hJ Za;rw[decide_eq_true MX];cbv;refine⟨⟨UJ,kW⟩,?_⟩;cbv;refine iO Yk Xt hwe (fun br nr cr N2=>?_);have hnr:=N2.len;cbv;intro gx h5a f5 e5;have l5a:Le h4 h5a:=by rw[e5];exact Le.set f5
   have ggxa:h5a gx=some (.cells #[.slice none 0 0] 34 (0,0)):=by rw[e5];exact af
   clear e5;cbv;refine jz ggxa (by simp) (fun h5 e5=>?_);have l5:Le h4 h5:=fun b o hb=>by rw[e5,aP (fun e=>by rw[e,f5]at hb;cases hb)];exact l5a _ _ hb
   have ggx:h5 gx=some (.cells #[.slice br nr cr] 34 (0,0)):=by rw[e5];exact af
   clear e5;cbv;intro ox h6 f6 e6;have l6:Le h5 h6:=by rw[e6];exact Le.set f6
   have gox:h6 ox=some (.cells #[.slice none 0 0] 59 (0,0)):=by rw[e6];exact af
   have l6B:Le h5 (Sx.de h6 ox):=fun b o hb=>by
    rw[Sx.eQ (fun e=>by rw[e,f6]at hb;cases hb)];exact l6 _ _ hb
   clear e6;obtain⟨B,hB⟩:∃B,B=Sx.de h6 ox:=⟨_,rfl⟩;rw[<-hB]at l6B;have hB6:Le B h6:=by rw[hB];exact Sx.fJ h6 ox
   have VB:B ox=none:=by rw[hB];exact Sx.dX h6 ox
   have l4B:Le h4 B:=l5.trans l6B;obtain⟨J,eR⟩:∃J:Nat->ad->Prop,∀i h',J i h'=H0 B h' ox (List.replicate i (Eu r.length)):=⟨_,fun _ _=>rfl⟩;have XA:J 0 h6:=by rw[eR];exact⟨⟨none,0,0,gox,cX.nil⟩,hB6,VB⟩
   have g6:=l5.trans l6 _ _ g4;have gb6:=l5.trans l6 _ _ Pw;have q54:=q5.mono (tK.t _);clear hB;cbv;repeat (first| (rw[ai A,ai A];refine av gb6 rfl rfl ?_;cbv) | (rw[ai A];refine av gb6 rfl rfl ?_;cbv) | (refine av gb6 rfl rfl ?_;cbv) | (rw[ai A,ai A];refine av g6 rfl rfl ?_;cbv) | (rw[ai A];refine av g6 rfl rfl ?_;cbv) | (refine av g6 rfl rfl ?_;cbv) | (refine⟨⟨_,rfl,rfl⟩,?_⟩;cbv))
   refine Cd MW J XA (fun i h' hI=>?_) (fun i it h' b1 n1 c1 hi Im hI hv=>?_) (fun h' hI=>?_)
   ·rw[eR]at hI;exact q54.mono ((l4B.trans hI.le).t _)
   ·rw[eR]at hI;rw[Rs it (List.mem_of_getElem? Im)];refine Py hI (by rw[List.length_replicate];omega) (l4B _ _ Pw) (l6B _ _ ggx) (fun h7 q7=>⟨0,rfl,fun _=>?_,fun h0=>absurd rfl h0⟩);rw[hnr,<-List.replicate_succ']at q7;rw[eR];exact q7
   ·rw[eR]at hI;obtain⟨b7,n7,c7,g7,qb7⟩:=hI.out;have l7:Le h4 h':=l4B.trans hI.le;have fe:A .aG .neq 0 0=false:=by rw[aB A];rfl
    rw[MW,<-hRV]at qb7;cbv;rw[fe];cbv;repeat (first| (rw[ai A,ai A];refine av g7 rfl rfl ?_;cbv) | (rw[ai A];refine av g7 rfl rfl ?_;cbv) | (refine av g7 rfl rfl ?_;cbv) | (refine⟨⟨_,rfl,rfl⟩,?_⟩;cbv))
    refine(py qb7.sl).mono (fun v8 h8 hR=>?_);obtain⟨l8,b8,c8,hv8,qv8⟩:=hR;subst hv8;cbv;intro nb9 h9 f9 e9;have l9:Le h8 h9:=by rw[e9];exact Le.set f9
    have v9:Sl 59 aL h9 (.slice (some ⟨nb9,0,none⟩) 1 1) [RV]:=bU (s:=aL) ((congrFun e9 nb9).trans af) ⟨_,rfl,qv8.sl.mono (l9.t _)⟩;clear e9;cbv;refine(qo.mono ((l7.trans (l8.trans l9)).t _)).append v9 (by decide) rfl (by decide) (by omega) (tK.trans (l7.trans (l8.trans l9))) (fun Xd fG fF kx Wi mZ t10 Km Am=>?_);clear t10 Km v9;have ae:=uL kx fG Xd fF mZ Wi Am;clear uL hk eR XA;cbv;refine⟨ln-(j+1),(A .bA .add .i64 w 1,fG,Xd,fF),D4,⟨?_,?_,?_⟩,ae⟩
    ·cbv
    ·cbv
    ·cbv
  ·have K3:j=ln:=by omega
   rw[List.drop_of_length_le (by omega)]at hD;replace hD:(out,0)=D:=hD;subst hD;clear bl hJ;rw[decide_eq_false MX];cbv;refine(FL qo.sl).mono (fun v5 h5 hR=>?_);obtain⟨l5,b5,c5,MQ,SP⟩:=hR;subst MQ;have ae:=hk h5 b5 no c5 (ko.trans (tK.trans l5)) SP.sl;clear hk;cbv;exact ae
end Go.S
