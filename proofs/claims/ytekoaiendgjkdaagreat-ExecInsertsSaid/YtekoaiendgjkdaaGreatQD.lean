import Derived.Test.YtekoaiendgjkdaaGreatQC
import Derived.Test.YtekoaiendgjkdaaGreatEA
set_option linter.unusedVariables false
set_option linter.unusedSimpArgs false
set_option linter.unusedSectionVars false
set_option maxRecDepth 100000
set_option maxHeartbeats 8000000
namespace Go.S
open Go.Sx Go.Proofs
theorem QE{h:ad}{qp qb:Nat}{x:aA}{cols:List bS}{y:Qy}(q:kL h qp x cols y)(gb:h qb=some (.cells #[.pointer (some ⟨qp,0,none⟩)] 186 (0,0)))(hx:gy x)(hc:∀c∈cols,Nm c.name){k:Value->ad->Prop}
 (hk:∀h',Le h h'->k (.int .i64 (aK x.on cols)) h'):Ct 175 [.pointer (some ⟨qb,0,none⟩)] h k:=by
 obtain⟨A,hA⟩:=Ar.ex;refine q.elim (fun b5 n5 c5 b6 n6 c6 b7 n7 c7 b8 n8 c8 b9 n9 c9 fJ iq fI cb cn cc g q1 q2 q3 q4 q5 q6 q7=>?_);refine af A (ar Xh.aw Xh.aZ) Tryz.func175 rfl (by kernel_rfl) ?_;cbv;repeat (first| (rw[aj A,aj A];refine ay gb rfl rfl ?_;cbv) | (rw[aj A];refine ay gb rfl rfl ?_;cbv) | (refine ay gb rfl rfl ?_;cbv) | (rw[aj A,aj A];refine ay g rfl rfl ?_;cbv) | (rw[aj A];refine ay g rfl rfl ?_;cbv) | (refine ay g rfl rfl ?_;cbv) | (refine⟨⟨_,rfl,rfl⟩,?_⟩;cbv))
 refine uC hx.on hc q2 q7 (fun h1 e l1 he=>?_);rw[<-he]at hk;have ae:=hk h1 l1;clear hk he;cbv;exact ae
theorem QD{h:ad}{qp qb:Nat}{x:aA}{cols:List bS}{y:Qy}(q:kL h qp x cols y)(gb:h qb=some (.cells #[.pointer (some ⟨qp,0,none⟩)] 186 (0,0)))(hx:gy x)(hc:∀c∈cols,Nm c.name){k:Value->ad->Prop}
 (hk:∀h',Le h h'->k (.int .i64 (aK x.bT cols)) h'):Ct 176 [.pointer (some ⟨qb,0,none⟩)] h k:=by
 obtain⟨A,hA⟩:=Ar.ex;refine q.elim (fun b5 n5 c5 b6 n6 c6 b7 n7 c7 b8 n8 c8 b9 n9 c9 fJ iq fI cb cn cc g q1 q2 q3 q4 q5 q6 q7=>?_);refine af A (ar Xg.aw Xg.aZ) Tryz.func176 rfl (by kernel_rfl) ?_;cbv;repeat (first| (rw[aj A,aj A];refine ay gb rfl rfl ?_;cbv) | (rw[aj A];refine ay gb rfl rfl ?_;cbv) | (refine ay gb rfl rfl ?_;cbv) | (rw[aj A,aj A];refine ay g rfl rfl ?_;cbv) | (rw[aj A];refine ay g rfl rfl ?_;cbv) | (refine ay g rfl rfl ?_;cbv) | (refine⟨⟨_,rfl,rfl⟩,?_⟩;cbv))
 refine uC hx.bT hc q6 q7 (fun h1 e l1 he=>?_);rw[<-he]at hk;have ae:=hk h1 l1;clear hk he;cbv;exact ae
theorem QB{h:ad}{qp qb:Nat}{x:aA}{cols:List bS}{y:Qy}(q:kL h qp x cols y)(gb:h qb=some (.cells #[.pointer (some ⟨qp,0,none⟩)] 186 (0,0)))(hx:gy x)(hc:∀c∈cols,Nm c.name){k:Value->ad->Prop}
 (hk:∀h',Kp [qp] h h'->kL h' qp x cols ⟨(aT x.group cols).1,y.order,y.mE⟩->k (.int .i64 (aT x.group cols).2) h'):Ct 180 [.pointer (some ⟨qb,0,none⟩)] h k:=by
 obtain⟨A,hA⟩:=Ar.ex;refine q.elim (fun b5 n5 c5 b6 n6 c6 b7 n7 c7 b8 n8 c8 b9 n9 c9 fJ iq fI cb cn cc g q1 q2 q3 q4 q5 q6 q7=>?_);refine af A (ar Xd.aw Xd.aZ) Tryz.func180 rfl (by kernel_rfl) ?_;cbv;repeat (first| (rw[aj A,aj A];refine ay gb rfl rfl ?_;cbv) | (rw[aj A];refine ay gb rfl rfl ?_;cbv) | (refine ay gb rfl rfl ?_;cbv) | (rw[aj A,aj A];refine ay g rfl rfl ?_;cbv) | (rw[aj A];refine ay g rfl rfl ?_;cbv) | (refine ay g rfl rfl ?_;cbv) | (refine⟨⟨_,rfl,rfl⟩,?_⟩;cbv))
 refine CO q hc hx.group (fun h1 l1=>?_);have LH:=l1 _ _ gb;have g1:=l1 _ _ g;have dU:cG mh h h1:=l1.t _;generalize aT x.group cols=E at *;obtain⟨e1,e2⟩:=E;cbv;repeat (first| (rw[aj A,aj A];refine ay LH rfl rfl ?_;cbv) | (rw[aj A];refine ay LH rfl rfl ?_;cbv) | (refine ay LH rfl rfl ?_;cbv) | (refine⟨⟨_,rfl,rfl⟩,?_⟩;cbv))
 first|rw[aj A] |skip
 refine kP g1 (by simp) (fun h2 Ay=>?_);have gK:cG mh h1 h2:=by rw[Ay];exact cG.set g1 (by decide)
 have lt:=dU.trans gK;have ae:=hk h2 (fun b o hb hn=>by rw[Ay,aU (by simpa using hn)];exact l1 _ _ hb) ⟨b5,n5,c5,b6,n6,c6,b7,n7,c7,b8,n8,c8,b9,n9,c9,fJ,iq,fI,cb,cn,cc,(by rw[Ay,ah];rfl),q1.mono (lt.sub (by decide)),q2.mono (lt.sub (by decide)),q3.mono (lt.sub (by decide)),q4.mono (lt.sub (by decide)),q5.mono (lt.sub (by decide)),q6.mono (lt.sub (by decide)),q7.mono (lt.sub (by decide))⟩;clear hk Ay;cbv;exact ae
theorem QA{h:ad}{qp qb:Nat}{x:aA}{cols:List bS}{y:Qy}(q:kL h qp x cols y)(gb:h qb=some (.cells #[.pointer (some ⟨qp,0,none⟩)] 186 (0,0)))(hx:gy x)(hc:∀c∈cols,Nm c.name){k:Value->ad->Prop}
 (hk:∀h',Kp [qp] h h'->kL h' qp x cols ⟨y.group,(aT x.order cols).1,y.mE⟩->k (.int .i64 (aT x.order cols).2) h'):Ct 182 [.pointer (some ⟨qb,0,none⟩)] h k:=by
 obtain⟨A,hA⟩:=Ar.ex;refine q.elim (fun b5 n5 c5 b6 n6 c6 b7 n7 c7 b8 n8 c8 b9 n9 c9 fJ iq fI cb cn cc g q1 q2 q3 q4 q5 q6 q7=>?_);refine af A (ar Xb.aw Xb.aZ) Tryz.func182 rfl (by kernel_rfl) ?_;cbv;repeat (first| (rw[aj A,aj A];refine ay gb rfl rfl ?_;cbv) | (rw[aj A];refine ay gb rfl rfl ?_;cbv) | (refine ay gb rfl rfl ?_;cbv) | (rw[aj A,aj A];refine ay g rfl rfl ?_;cbv) | (rw[aj A];refine ay g rfl rfl ?_;cbv) | (refine ay g rfl rfl ?_;cbv) | (refine⟨⟨_,rfl,rfl⟩,?_⟩;cbv))
 refine CO q hc hx.order (fun h1 l1=>?_);have LH:=l1 _ _ gb;have g1:=l1 _ _ g;have dU:cG mh h h1:=l1.t _;generalize aT x.order cols=E at *;obtain⟨e1,e2⟩:=E;cbv;repeat (first| (rw[aj A,aj A];refine ay LH rfl rfl ?_;cbv) | (rw[aj A];refine ay LH rfl rfl ?_;cbv) | (refine ay LH rfl rfl ?_;cbv) | (refine⟨⟨_,rfl,rfl⟩,?_⟩;cbv))
 first|rw[aj A] |skip
 refine kP g1 (by simp) (fun h2 Ay=>?_);have gK:cG mh h1 h2:=by rw[Ay];exact cG.set g1 (by decide)
 have lt:=dU.trans gK;have ae:=hk h2 (fun b o hb hn=>by rw[Ay,aU (by simpa using hn)];exact l1 _ _ hb) ⟨b5,n5,c5,b6,n6,c6,b7,n7,c7,b8,n8,c8,b9,n9,c9,fJ,iq,fI,cb,cn,cc,(by rw[Ay,ah];rfl),q1.mono (lt.sub (by decide)),q2.mono (lt.sub (by decide)),q3.mono (lt.sub (by decide)),q4.mono (lt.sub (by decide)),q5.mono (lt.sub (by decide)),q6.mono (lt.sub (by decide)),q7.mono (lt.sub (by decide))⟩;clear hk Ay;cbv;exact ae
theorem jc{α:Type}(f:α->Int)(x:α)(r:List α):cd f (x::r)=if f x≠0 then f x else cd f r:=rfl
theorem QC{h:ad}{qp qb:Nat}{x:aA}{cols:List bS}{y:Qy}(q:kL h qp x cols y)(gb:h qb=some (.cells #[.pointer (some ⟨qp,0,none⟩)] 186 (0,0)))(hx:gy x)(hc:∀c∈cols,Nm c.name){k:Value->ad->Prop}
 (hk:∀h',Le h h'->k (.int .i64 (cd (fG cols) x.items)) h'):Ct 177 [.pointer (some ⟨qb,0,none⟩)] h k:=by
 obtain⟨A,hA⟩:=Ar.ex;refine q.elim (fun b5 n5 c5 b6 n6 c6 b7 n7 c7 b8 n8 c8 b9 n9 c9 fJ iq fI cb cn cc g q1 q2 q3 q4 q5 q6 q7=>?_);clear q1 q2 q3 q4 q6 q7;obtain⟨R,hR⟩:∃R,cd (fG cols) x.items=R:=⟨_,rfl⟩;rw[hR]at hk;obtain⟨I,bm⟩:∃I:Nat->ad->Prop,∀i h',I i h'=(Le h h'/\cd (fG cols) (x.items.drop i)=R):=⟨_,fun _ _=>rfl⟩;have hJ:I 0 h:=by rw[bm];exact⟨Le.refl _,hR⟩
 refine af A (ar Xf.aw Xf.aZ) Tryz.func177 rfl (by kernel_rfl) ?_;cbv;repeat (first| (rw[aj A,aj A];refine ay gb rfl rfl ?_;cbv) | (rw[aj A];refine ay gb rfl rfl ?_;cbv) | (refine ay gb rfl rfl ?_;cbv) | (rw[aj A,aj A];refine ay g rfl rfl ?_;cbv) | (rw[aj A];refine ay g rfl rfl ?_;cbv) | (refine ay g rfl rfl ?_;cbv) | (refine⟨⟨_,rfl,rfl⟩,?_⟩;cbv))
 refine Eg q5.len I hJ (fun i h' hI=>?_) (fun i it h' ib im ic hi pH hI hv=>?_) (fun h' hI=>?_)
 ·rw[bm]at hI;exact q5.mono (hI.1.t _)
 ·rw[bm]at hI;obtain⟨l,he⟩:=hI;have hd:x.items.drop i=it::x.items.drop (i+1):=by obtain⟨h1,h2⟩:=List.getElem?_eq_some_iff.1 pH;rw[List.drop_eq_getElem_cons h1,h2]
  rw[hd,jc]at he;refine Tj (q.mono l) hc (hx.items it (List.mem_of_getElem? pH)) hv (fun h2 l2=>⟨_,rfl,fun h0=>?_,fun h0=>?_⟩)
  ·rw[if_neg (fun g=>g h0)]at he;rw[bm];exact⟨l.trans l2,he⟩
  ·rw[if_pos h0]at he;rw[he];have ae:=hk h2 (l.trans l2);clear hk bm h0;cbv;exact ae
 ·rw[bm]at hI;obtain⟨l,he⟩:=hI;rw[List.drop_of_length_le (by rw[q5.len];exact Nat.le_refl _)]at he;have he:(0:Int)=R:=he;subst he;have ae:=hk h' l;clear hk bm;cbv;exact ae
theorem Qz(fn:Int){h:ad}{ib:Option Addr}{im ic:Nat}{k:Value->ad->Prop}(hk:k (.bool (decide (fn≠0))) h):Ct 186 [.agg #[.int .i64 fn,.slice ib im ic]] h k:=by obtain⟨A,hA⟩:=Ar.ex;have f1:A .aD .neq fn 0=decide (fn≠0):=aC A ..;refine af A (ar W8.aw W8.aZ) Tryz.func186 rfl (by kernel_rfl) ?_;cbv;rw[f1];exact hk
theorem DV{xs:List dq}{h:ad}{b:Option Addr}{n c:Nat}(q:Sl 276 bV h (.slice b n c) xs){k:Value->ad->Prop}
 (hk:∀z:Int,decide (z>=0)=xs.any (fun i=>decide (i.fn≠0))->k (.int .i64 z) h):Ct 251 [.slice b n c,.func (.func 186) #[] #[]] h k:=by
 obtain⟨A,hA⟩:=Ar.ex;have hn:=q.len;have hb:=q.bound;obtain⟨R,hR⟩:∃R,xs.any (fun i=>decide (i.fn≠0))=R:=⟨_,rfl⟩;rw[hR]at hk;obtain⟨J,fD⟩:∃J:Nat->Int->ad->Prop,∀m z h',J m z h'=∃i,aO z i/\i<=n/\m=n-i/\h'=h/\(xs.drop i).any (fun i=>decide (i.fn≠0))=R:=⟨_,fun _ _ _=>rfl⟩;have hJ:J n 0 h:=by rw[fD];exact⟨0,⟨rfl⟩,Nat.zero_le _,rfl,rfl,hR⟩
 refine af A (ar Wu.aw Wu.aZ) Tryz.func251 rfl (by kernel_rfl) ?_;cbv;refine aX.go (G:=Int) (fun z=>[(8,.v (.int .i64 z))]) (fun _=>[]) (fun m z h'=>J m z h') n 0 ⟨?_,?_,?_⟩ hJ ?_
 ·cbv
 ·cbv
 ·cbv
 ·intro m z h1 hI;rw[fD]at hI;cbv;obtain⟨i,hz,hi,hm,e',he⟩:=hI;subst e';have f1:A .aD .lss z (A .nat n)=decide (i<n):=hz.gK (aO.nat n);rw[f1];by_cases aG:i<n
  ·obtain⟨x,hx⟩:=aE (xs:=xs) (i:=i) (by omega);have hd:xs.drop i=x::xs.drop (i+1):=by obtain⟨h1,h2⟩:=List.getElem?_eq_some_iff.1 hx;rw[List.drop_eq_getElem_cons h1,h2]
   rw[hd,List.any_cons]at he;have cT:b.isSome=true/\0<=z/\z<(n:Int):=⟨q.bF (by omega),hz.ix aG⟩;have ir:=hz.eq;have dS:=hz.succ (A:=A) (by omega);have kC:n-(i+1)<m:=by omega
   have kU:(xs.drop (i+1)).any (fun i=>decide (i.fn≠0))=R->J (n-(i+1)) (A .bu .add .i64 z 1) h1:=fun e=>by rw[fD];exact⟨i+1,dS,aG,rfl,rfl,e⟩
   have zn:decide (z>=0)=true:=decide_eq_true (by omega);clear fD hJ dS;rw[decide_eq_true aG];cbv;refine⟨cT,?_⟩;cbv;refine sE q hx ir (fun b1 n1 c1 hv=>?_);obtain⟨xf,xe⟩:=x;replace he:(decide (xf≠0)||(xs.drop (i+1)).any (fun i=>decide (i.fn≠0)))=R:=he;cbv;refine Qz xf ?_;by_cases h0:xf≠0
   ·have e1:R=true:=by rw[<-he,decide_eq_true h0];rfl
    have ae:=hk z (by rw[zn,e1]);clear hk kU he;rw[decide_eq_true h0];cbv;exact ae
   ·rw[decide_eq_false h0,Bool.false_or]at he;have ae:=kU he;clear hk kU he;rw[decide_eq_false h0];cbv;refine⟨n-(i+1),A .bu .add .i64 z 1,kC,⟨?_,?_,?_⟩,ae⟩
    ·cbv
    ·cbv
    ·cbv
  ·rw[List.drop_of_length_le (by omega)]at he;have he:false=R:=he;have ae:=hk (-1) (by rw[<-he];rfl);clear hk fD hJ;rw[decide_eq_false aG];cbv;exact ae
theorem xZ{xs:List dq}{h:ad}{b:Option Addr}{n c:Nat}(q:Sl 276 bV h (.slice b n c) xs){k:Value->ad->Prop}
 (hk:k (.bool (xs.any (fun i=>decide (i.fn≠0)))) h):Ct 185 [.slice b n c,.func (.func 186) #[] #[]] h k:=by
 obtain⟨A,hA⟩:=Ar.ex;refine af A (ar W9.aw W9.aZ) Tryz.func185 rfl (by kernel_rfl) ?_;cbv;refine DV q (fun z hz=>?_);have f1:A .aD .geq z 0=decide (z>=0):=bQ A ..;rw[<-hz]at hk;clear hz;cbv;rw[f1];exact hk
theorem chk1{h:ad}{qp qb:Nat}{x:aA}{cols:List bS}{y:Qy}(q:kL h qp x cols y)(gb:h qb=some (.cells #[.pointer (some ⟨qp,0,none⟩)] 186 (0,0)))(hx:gy x)(hc:∀c∈cols,Nm c.name){k:Value->ad->Prop}
 (hk:∀h',Le h h'->k (.int .i64 (aK x.on cols)) h'):Ct 184 [.func (.func 175) #[] #[.pointer (some ⟨qb,0,none⟩)]] h k:=by
 obtain⟨A,hA⟩:=Ar.ex;refine af A (ar vw.aw vw.aZ) Tryz.func184 rfl (by kernel_rfl) ?_;cbv;refine QE q gb hx hc (fun h1 l1=>?_);have ae:=hk h1 l1;clear hk;generalize aK x.on cols=z at *;cbv;exact ae
theorem chk2{h:ad}{qp qb:Nat}{x:aA}{cols:List bS}{y:Qy}(q:kL h qp x cols y)(gb:h qb=some (.cells #[.pointer (some ⟨qp,0,none⟩)] 186 (0,0)))(hx:gy x)(hc:∀c∈cols,Nm c.name){k:Value->ad->Prop}
 (hk:∀h',Le h h'->k (.int .i64 (aK x.bT cols)) h'):Ct 184 [.func (.func 176) #[] #[.pointer (some ⟨qb,0,none⟩)]] h k:=by
 obtain⟨A,hA⟩:=Ar.ex;refine af A (ar vw.aw vw.aZ) Tryz.func184 rfl (by kernel_rfl) ?_;cbv;refine QD q gb hx hc (fun h1 l1=>?_);have ae:=hk h1 l1;clear hk;generalize aK x.bT cols=z at *;cbv;exact ae
theorem chk3{h:ad}{qp qb:Nat}{x:aA}{cols:List bS}{y:Qy}(q:kL h qp x cols y)(gb:h qb=some (.cells #[.pointer (some ⟨qp,0,none⟩)] 186 (0,0)))(hx:gy x)(hc:∀c∈cols,Nm c.name){k:Value->ad->Prop}
 (hk:∀h',Le h h'->k (.int .i64 (cd (fG cols) x.items)) h'):Ct 184 [.func (.func 177) #[] #[.pointer (some ⟨qb,0,none⟩)]] h k:=by
 obtain⟨A,hA⟩:=Ar.ex;refine af A (ar vw.aw vw.aZ) Tryz.func184 rfl (by kernel_rfl) ?_;cbv;refine QC q gb hx hc (fun h1 l1=>?_);have ae:=hk h1 l1;clear hk;generalize cd (fG cols) x.items=z at *;cbv;exact ae
theorem chk4{h:ad}{qp qb:Nat}{x:aA}{cols:List bS}{y:Qy}(q:kL h qp x cols y)(gb:h qb=some (.cells #[.pointer (some ⟨qp,0,none⟩)] 186 (0,0)))(hx:gy x)(hc:∀c∈cols,Nm c.name){k:Value->ad->Prop}
 (hk:∀h',Kp [qp] h h'->kL h' qp x cols ⟨(aT x.group cols).1,y.order,y.mE⟩->k (.int .i64 (aT x.group cols).2) h'):Ct 184 [.func (.func 180) #[] #[.pointer (some ⟨qb,0,none⟩)]] h k:=by
 obtain⟨A,hA⟩:=Ar.ex;refine af A (ar vw.aw vw.aZ) Tryz.func184 rfl (by kernel_rfl) ?_;cbv;refine QB q gb hx hc (fun h1 k1 q1=>?_);have ae:=hk h1 k1 q1;clear hk;generalize (aT x.group cols).2=z at *;cbv;exact ae
theorem chk5{h:ad}{qp qb:Nat}{x:aA}{cols:List bS}{y:Qy}(q:kL h qp x cols y)(gb:h qb=some (.cells #[.pointer (some ⟨qp,0,none⟩)] 186 (0,0)))(hx:gy x)(hc:∀c∈cols,Nm c.name){k:Value->ad->Prop}
 (hk:∀h',Kp [qp] h h'->kL h' qp x cols ⟨y.group,(aT x.order cols).1,y.mE⟩->k (.int .i64 (aT x.order cols).2) h'):Ct 184 [.func (.func 182) #[] #[.pointer (some ⟨qb,0,none⟩)]] h k:=by
 obtain⟨A,hA⟩:=Ar.ex;refine af A (ar vw.aw vw.aZ) Tryz.func184 rfl (by kernel_rfl) ?_;cbv;refine QA q gb hx hc (fun h1 k1 q1=>?_);have ae:=hk h1 k1 q1;clear hk;generalize (aT x.order cols).2=z at *;cbv;exact ae
theorem zO(x:aA)(cols:List bS):
 (aK x.on cols≠0->(eQ x cols).2=aK x.on cols)/\
 (aK x.on cols=0->aK x.bT cols≠0->(eQ x cols).2=aK x.bT cols)/\
 (aK x.on cols=0->aK x.bT cols=0->cd (fG cols) x.items≠0->(eQ x cols).2=cd (fG cols) x.items)/\
 (aK x.on cols=0->aK x.bT cols=0->cd (fG cols) x.items=0->(aT x.group cols).2≠0->(eQ x cols).2=(aT x.group cols).2)/\
 (aK x.on cols=0->aK x.bT cols=0->cd (fG cols) x.items=0->(aT x.group cols).2=0->(aT x.order cols).2≠0->(eQ x cols).2=(aT x.order cols).2)/\
 (aK x.on cols=0->aK x.bT cols=0->cd (fG cols) x.items=0->(aT x.group cols).2=0->(aT x.order cols).2=0->eQ x cols=
  if(decide (x.group≠b0)||x.items.any fun i=>decide (i.fn≠0))=false then(⟨(aT x.group cols).1,(aT x.order cols).1,false⟩,0)
  else if x.items.length=0\/((aT x.order cols).1>=0/\(aT x.order cols).1≠(aT x.group cols).1)then(⟨(aT x.group cols).1,(aT x.order cols).1,true⟩,3)
  else(⟨(aT x.group cols).1,(aT x.order cols).1,true⟩,cd (bh cols (aT x.group cols).1) x.items)):=by
 have hP:eQ x cols=if aK x.on cols≠0 then(⟨-1,-1,false⟩,aK x.on cols)
  else if aK x.bT cols≠0 then(⟨-1,-1,false⟩,aK x.bT cols)
  else if cd (fG cols) x.items≠0 then(⟨-1,-1,false⟩,cd (fG cols) x.items)
  else match aT x.group cols with
   | (g,e)=>if e≠0 then(⟨g,-1,false⟩,e)else match aT x.order cols with
    | (o,e)=>if e≠0 then(⟨g,o,false⟩,e)else
     if(decide (x.group≠b0)||x.items.any fun i=>decide (i.fn≠0))=false then(⟨g,o,false⟩,0)
     else if x.items.length=0\/(o>=0/\o≠g)then(⟨g,o,true⟩,3)
     else(⟨g,o,true⟩,cd (bh cols g) x.items):=rfl
 generalize eQ x cols=D at *;generalize aK x.on cols=c1 at *;generalize aK x.bT cols=c2 at *;generalize cd (fG cols) x.items=c3 at *;generalize aT x.group cols=G at *;generalize aT x.order cols=O at *;obtain⟨g,c4⟩:=G;obtain⟨o,c5⟩:=O;refine⟨fun h=>?_,fun h1 h=>?_,fun h1 h2 h=>?_,fun h1 h2 h3 h=>?_,fun h1 h2 h3 h4 h=>?_,fun h1 h2 h3 h4 h5=>?_⟩
 ·rw[hP,if_pos h]
 ·rw[hP,if_neg (fun g=>g h1),if_pos h]
 ·rw[hP,if_neg (fun g=>g h1),if_neg (fun g=>g h2),if_pos h]
 ·replace h:c4≠0:=h;rw[hP,if_neg (fun g=>g h1),if_neg (fun g=>g h2),if_neg (fun g=>g h3)];show(if c4≠0 then _ else _:Qy×Int).2=c4;rw[if_pos h]
 ·replace h4:c4=0:=h4;replace h:c5≠0:=h;rw[hP,if_neg (fun g=>g h1),if_neg (fun g=>g h2),if_neg (fun g=>g h3)];show(if c4≠0 then _ else if c5≠0 then _ else _:Qy×Int).2=c5;rw[if_neg (fun g=>g h4),if_pos h]
 ·replace h4:c4=0:=h4;replace h5:c5=0:=h5;rw[hP,if_neg (fun g=>g h1),if_neg (fun g=>g h2),if_neg (fun g=>g h3)];show(if c4≠0 then _ else if c5≠0 then _ else _:Qy×Int)=_;rw[if_neg (fun g=>g h4),if_neg (fun g=>g h5)]
theorem UW{h:ad}{qp:Nat}{x:aA}{cols:List bS}(q:kL h qp x cols ⟨-1,-1,false⟩)(hx:gy x)(hc:∀c∈cols,Nm c.name){k:Value->ad->Prop}
 (hk:∀h' y,Kp [qp] h h'->kL h' qp x cols y->((eQ x cols).2=0->y=(eQ x cols).1)->k (.int .i64 (eQ x cols).2) h'):
 Ct 100 [.pointer (some ⟨qp,0,none⟩)] h k:=by
 obtain⟨A,hA⟩:=Ar.ex;obtain⟨s1,s2,s3,s4,s5,s6⟩:=zO x cols;have RT:∀g,cd (bh cols g) x.items=cd (bh cols g) x.items:=fun _=>rfl;have zE:∀ {h1:ad} {qb:Nat} {y:Qy},kL h1 qp x cols y->h1 qb=some (.cells #[.pointer (some ⟨qp,0,none⟩)] 186 (0,0))->True:=fun _ _=>trivial;clear zE RT;generalize eQ x cols=D at *;obtain⟨Dy,De⟩:=D;replace hk:∀h' y,Kp [qp] h h'->kL h' qp x cols y->(De=0->y=Dy)->k (.int .i64 De) h':=hk;obtain⟨cq,hq⟩:=q.has;have UR:∀ {n:Nat},h n=none->n≠qp:=fun hn e=>by rw[e,hq]at hn;cases hn
 refine af A (ar XW.aw XW.aZ) Tryz.func100 rfl (by kernel_rfl) ?_;cbv;intro qb h1 f1 e1;have l1:Le h h1:=by rw[e1];exact Le.set f1
 have LH:h1 qb=some (.cells #[.pointer (some ⟨qp,0,none⟩)] 186 (0,0)):=by rw[e1];exact ah
 have YJ:=UR f1;clear e1;cbv;intro sb h2 f2 e2;have l2:Le h1 h2:=by rw[e2];exact Le.set f2
 have hsq:sb≠qp:=fun e=>by rw[e,l1 _ _ hq]at f2;cases f2
 have qs:Sl 173 (FL (.pointer (some ⟨qb,0,none⟩))) h2 (.slice (some ⟨sb,0,none⟩) 5 5) [175,176,177,180,182]:=by
  refine Sl.fresh (s:=FL (.pointer (some ⟨qb,0,none⟩))) (h:=h2) (n:=sb) (xs:=[175,176,177,180,182]) (cap:=5) (c:=[.func (.func 175) #[] #[.pointer (some ⟨qb,0,none⟩)],.func (.func 176) #[] #[.pointer (some ⟨qb,0,none⟩)],.func (.func 177) #[] #[.pointer (some ⟨qb,0,none⟩)],.func (.func 180) #[] #[.pointer (some ⟨qb,0,none⟩)],.func (.func 182) #[] #[.pointer (some ⟨qb,0,none⟩)]]) (by rw[e2];exact ah) ⟨Nat.le_refl 5,fun i x hx=>?_⟩ (by show 5<=_;omega) (Nat.le_refl 5)
  match i,hx with
  |0,hx=>cases hx;rfl
  |1,hx=>cases hx;rfl
  |2,hx=>cases hx;rfl
  |3,hx=>cases hx;rfl
  |4,hx=>cases hx;rfl
  |i+5,hx=>simp at hx
 clear e2;have lT:=l1.trans l2;have q2:=q.mono lT;have HQ:=l2 _ _ LH;have g0:(aT x.group cols).1=(aT x.group cols).1:=rfl;obtain⟨I,bm⟩:∃I:Nat->ad->Prop,∀i h',I i h'=(Kp [qp] h2 h'/\kL h' qp x cols ⟨if 3<i then(aT x.group cols).1 else -1,if 4<i then(aT x.order cols).1 else -1,false⟩/\
  (0<i->aK x.on cols=0)/\(1<i->aK x.bT cols=0)/\(2<i->cd (fG cols) x.items=0)/\(3<i->(aT x.group cols).2=0)/\(4<i->(aT x.order cols).2=0)):=⟨_,fun _ _=>rfl⟩
 have hJ:I 0 h2:=by rw[bm];exact⟨Kp.refl _ _,q2,fun g=>by omega,fun g=>by omega,fun g=>by omega,fun g=>by omega,fun g=>by omega⟩
 have qkp:∀ {h':ad},Kp [qp] h2 h'->∀tys,188∉tys->cG tys h2 h':=fun kp tys ht=>by
  obtain⟨c,g⟩:=q2.has;exact kp.y0 g ht
 have bad:∀ {h':ad} {y:Qy} {e:Int},Kp [qp] h2 h'->kL h' qp x cols y->De=e->e≠0->k (.int .i64 e) h':=fun kp q' he h0=>by
  rw[<-he];exact hk _ _ ((lT.kp _).trans kp) q' (fun h=>absurd (he ▸ h) h0)
 cbv;refine BB (p:=.pointer (some ⟨qb,0,none⟩)) (xs:=[175,176,177,180,182]) (n:=5) rfl I hJ (fun i h' hI=>?_) (fun i g h' hi hg hI _=>?_) (fun h' hI=>?_)
 ·rw[bm]at hI;exact qs.mono (qkp hI.1 _ (by show 188∉[173];decide))
 ·rw[bm]at hI;obtain⟨kp,q',p1,p2,p3,p4,p5⟩:=hI;have zL:=kp _ _ HQ (by simpa using YJ)
  match i,hg with
  |0,hg=>
   cases hg;refine chk1 q' zL hx hc (fun h3 l3=>⟨_,rfl,fun h0=>?_,fun h0=>?_⟩)
   ·rw[bm];exact⟨kp.trans (l3.kp _),q'.mono l3,fun _=>h0,fun g=>by omega,fun g=>by omega,fun g=>by omega,fun g=>by omega⟩
   ·have ae:=bad (kp.trans (l3.kp _)) (q'.mono l3) (s1 h0) h0;have fe:A .aD .neq (aK x.on cols) 0=true:=by rw[aC A];exact decide_eq_true h0
    clear hk bad bm;generalize aK x.on cols=z at *;cbv;rw[fe];cbv;exact ae
  |1,hg=>
   cases hg;refine chk2 q' zL hx hc (fun h3 l3=>⟨_,rfl,fun h0=>?_,fun h0=>?_⟩)
   ·rw[bm];exact⟨kp.trans (l3.kp _),q'.mono l3,fun _=>p1 (by omega),fun _=>h0,fun g=>by omega,fun g=>by omega,fun g=>by omega⟩
   ·have ae:=bad (kp.trans (l3.kp _)) (q'.mono l3) (s2 (p1 (by omega)) h0) h0;have fe:A .aD .neq (aK x.bT cols) 0=true:=by rw[aC A];exact decide_eq_true h0
    clear hk bad bm;generalize aK x.bT cols=z at *;cbv;rw[fe];cbv;exact ae
  |2,hg=>
   cases hg;refine chk3 q' zL hx hc (fun h3 l3=>⟨_,rfl,fun h0=>?_,fun h0=>?_⟩)
   ·rw[bm];exact⟨kp.trans (l3.kp _),q'.mono l3,fun _=>p1 (by omega),fun _=>p2 (by omega),fun _=>h0,fun g=>by omega,fun g=>by omega⟩
   ·have ae:=bad (kp.trans (l3.kp _)) (q'.mono l3) (s3 (p1 (by omega)) (p2 (by omega)) h0) h0;have fe:A .aD .neq (cd (fG cols) x.items) 0=true:=by rw[aC A];exact decide_eq_true h0
    clear hk bad bm;generalize cd (fG cols) x.items=z at *;cbv;rw[fe];cbv;exact ae
  |3,hg=>
   cases hg;refine chk4 q' zL hx hc (fun h3 k3 q3=>⟨_,rfl,fun h0=>?_,fun h0=>?_⟩)
   ·rw[bm];exact⟨kp.trans k3,q3,fun _=>p1 (by omega),fun _=>p2 (by omega),fun _=>p3 (by omega),fun _=>h0,fun g=>by omega⟩
   ·have ae:=bad (kp.trans k3) q3 (s4 (p1 (by omega)) (p2 (by omega)) (p3 (by omega)) h0) h0;have fe:A .aD .neq (aT x.group cols).2 0=true:=by rw[aC A];exact decide_eq_true h0
    clear hk bad bm q3;generalize (aT x.group cols).2=z at *;cbv;rw[fe];cbv;exact ae
  |4,hg=>
   cases hg;refine chk5 q' zL hx hc (fun h3 k3 q3=>⟨_,rfl,fun h0=>?_,fun h0=>?_⟩)
   ·rw[bm];exact⟨kp.trans k3,q3,fun _=>p1 (by omega),fun _=>p2 (by omega),fun _=>p3 (by omega),fun _=>p4 (by omega),fun _=>h0⟩
   ·have ae:=bad (kp.trans k3) q3 (s5 (p1 (by omega)) (p2 (by omega)) (p3 (by omega)) (p4 (by omega)) h0) h0;have fe:A .aD .neq (aT x.order cols).2 0=true:=by rw[aC A];exact decide_eq_true h0
    clear hk bad bm q3;generalize (aT x.order cols).2=z at *;cbv;rw[fe];cbv;exact ae
  |i+5,hg=>simp at hg
 ·rw[bm]at hI;obtain⟨kp,q',p1,p2,p3,p4,p5⟩:=hI;have hD:=s6 (p1 (by omega)) (p2 (by omega)) (p3 (by omega)) (p4 (by omega)) (p5 (by omega));have zL:=kp _ _ HQ (by simpa using YJ);rw[if_pos (by omega),if_pos (by omega)]at q';clear s1 s2 s3 s4 s5 s6 p1 p2 p3 p4 p5 bad bm hJ;have k0:Kp [qp] h h':=(lT.kp _).trans kp;generalize (aT x.group cols).1=yg at *;generalize (aT x.order cols).1=yo at *;have f0:A .aD .neq 0 0=false:=by rw[aC A];rfl
  have fg:A .jm .neq x.group ⟨#[]⟩=decide (x.group≠b0):=xi A ..;refine q'.elim (fun b5 n5 c5 b6 n6 c6 b7 n7 c7 b8 n8 c8 b9 n9 c9 fJ iq fI cb cn cc g q1 q2x q3 q4 q5 q6 q7=>?_);cbv;rw[f0];cbv;clear q2 qkp;obtain⟨ga,tZ⟩:∃ga,ga=(decide (x.group≠b0)||x.items.any fun i=>decide (i.fn≠0)):=⟨_,rfl⟩;rw[<-tZ]at hD;have Di:∀h5,h5=aV h' qp (.cells #[.int .i64 x.kind,.string x.lM.name,.slice b5 n5 c5,.int .i64 x.lM.key,.bool x.lM.only,.string x.table,.string x.join,.slice b6 n6 c6,.slice b7 n7 c7,.slice b8 n8 c8,.slice b9 n9 c9,.slice fJ iq fI,.string x.group,.string x.order,.bool x.desc,.int .i64 x.gX,.string x.name,.slice cb cn cc,.int .i64 yg,.int .i64 yo,.bool ga] 188 (0,0))->
   kL h5 qp x cols ⟨yg,yo,ga⟩/\Kp [qp] h h5:=fun h5 e5=>by
   have yX:cG mh h' h5:=by rw[e5];exact cG.set g (by decide)
   exact⟨⟨b5,n5,c5,b6,n6,c6,b7,n7,c7,b8,n8,c8,b9,n9,c9,fJ,iq,fI,cb,cn,cc,(by rw[e5];exact ah),q1.mono (yX.sub (by decide)),q2x.mono (yX.sub (by decide)),q3.mono (yX.sub (by decide)),q4.mono (yX.sub (by decide)),q5.mono (yX.sub (by decide)),q6.mono (yX.sub (by decide)),q7.mono (yX.sub (by decide))⟩,k0.trans (by rw[e5];exact Kp.set (by simp))⟩
  have hq5:=q5.len;have tail:∀h5,h5=aV h' qp (.cells #[.int .i64 x.kind,.string x.lM.name,.slice b5 n5 c5,.int .i64 x.lM.key,.bool x.lM.only,.string x.table,.string x.join,.slice b6 n6 c6,.slice b7 n7 c7,.slice b8 n8 c8,.slice b9 n9 c9,.slice fJ iq fI,.string x.group,.string x.order,.bool x.desc,.int .i64 x.gX,.string x.name,.slice cb cn cc,.int .i64 yg,.int .i64 yo,.bool ga] 188 (0,0))->
   kL h5 qp x cols ⟨yg,yo,ga⟩/\Kp [qp] h h5:=Di
  clear tail q1 q2x q3 q4 q6 q7;repeat (first| (rw[aj A,aj A];refine ay zL rfl rfl ?_;cbv) | (rw[aj A];refine ay zL rfl rfl ?_;cbv) | (refine ay zL rfl rfl ?_;cbv) | (rw[aj A,aj A];refine ay g rfl rfl ?_;cbv) | (rw[aj A];refine ay g rfl rfl ?_;cbv) | (refine ay g rfl rfl ?_;cbv) | (refine⟨⟨_,rfl,rfl⟩,?_⟩;cbv))
  rw[fg];by_cases RT:x.group≠b0
  ·have hg1:ga=true:=by rw[tZ,decide_eq_true RT];rfl
   rw[hg1]at hD Di;rw[decide_eq_true RT];cbv;first|rw[aj A] |skip
   refine kP g (by simp) (fun h5 e5=>?_);obtain⟨FZ,k5⟩:=Di h5 e5;have lE:h5 qb=some (.cells #[.pointer (some ⟨qp,0,none⟩)] 186 (0,0)):=by rw[e5,aU YJ];exact zL
   have yX:cG mh h' h5:=by rw[e5];exact cG.set g (by decide)
   clear e5 Di g tZ;rw[if_neg (by simp)]at hD;have nt:A .not true=false:=by rw[hA.not];rfl
   have K9:=fun h' l e=>hk h' ⟨yg,yo,true⟩ (k5.trans (Le.kp l _)) (FZ.mono l) e;clear hk;refine FZ.elim (fun b5y n5y c5y b6y n6y c6y b7y n7y c7y b8y n8y c8y b9y Yc c9y Vq SZ Vn cby cny ccy g5 _ _ _ _ MS _ _=>?_);have jG:=MS.len;have fl:A .aD .eql (A .nat Yc) 0=decide (x.items.length=0):=by rw[av A,hA.nat,decide_eq_decide,Int.ofNat_eq_natCast];omega
   have fo:A .aD .geq yo 0=decide (yo>=0):=bQ A ..;have fn:A .aD .neq yo yg=decide (yo≠yg):=aC A ..;have hr:∀h' e,Le h5 h'->De=e->(De=0->Dy=⟨yg,yo,true⟩)->k (.int .i64 e) h':=fun h' e l he hy=>by rw[<-he];exact K9 h' l (fun h0=>(hy h0).symm)
   clear K9;cbv;repeat (first| (rw[aj A,aj A];refine ay lE rfl rfl ?_;cbv) | (rw[aj A];refine ay lE rfl rfl ?_;cbv) | (refine ay lE rfl rfl ?_;cbv) | (rw[aj A,aj A];refine ay g5 rfl rfl ?_;cbv) | (rw[aj A];refine ay g5 rfl rfl ?_;cbv) | (refine ay g5 rfl rfl ?_;cbv) | (refine⟨⟨_,rfl,rfl⟩,?_⟩;cbv))
   rw[nt];cbv;repeat (first| (rw[aj A,aj A];refine ay lE rfl rfl ?_;cbv) | (rw[aj A];refine ay lE rfl rfl ?_;cbv) | (refine ay lE rfl rfl ?_;cbv) | (rw[aj A,aj A];refine ay g5 rfl rfl ?_;cbv) | (rw[aj A];refine ay g5 rfl rfl ?_;cbv) | (refine ay g5 rfl rfl ?_;cbv) | (refine⟨⟨_,rfl,rfl⟩,?_⟩;cbv))
   rw[fl];by_cases P5:x.items.length=0
   ·rw[if_pos (.inl P5)]at hD;cases hD;have ae:=hr h5 3 (Le.refl _) rfl (fun h=>by cases h);clear hr;rw[decide_eq_true P5];cbv;exact ae
   rw[decide_eq_false P5];cbv;repeat (first| (rw[aj A,aj A];refine ay lE rfl rfl ?_;cbv) | (rw[aj A];refine ay lE rfl rfl ?_;cbv) | (refine ay lE rfl rfl ?_;cbv) | (rw[aj A,aj A];refine ay g5 rfl rfl ?_;cbv) | (rw[aj A];refine ay g5 rfl rfl ?_;cbv) | (refine ay g5 rfl rfl ?_;cbv) | (refine⟨⟨_,rfl,rfl⟩,?_⟩;cbv))
   rw[fo];have um:¬(yo>=0/\yo≠yg)->(Dy,De)=(⟨yg,yo,true⟩,cd (bh cols yg) x.items):=fun hn=>by
    rw[if_neg (by rintro(g|g)<;>contradiction)]at hD;exact hD
   by_cases ho:yo>=0
   ·rw[decide_eq_true ho];cbv;repeat (first| (rw[aj A,aj A];refine ay lE rfl rfl ?_;cbv) | (rw[aj A];refine ay lE rfl rfl ?_;cbv) | (refine ay lE rfl rfl ?_;cbv) | (rw[aj A,aj A];refine ay g5 rfl rfl ?_;cbv) | (rw[aj A];refine ay g5 rfl rfl ?_;cbv) | (refine ay g5 rfl rfl ?_;cbv) | (refine⟨⟨_,rfl,rfl⟩,?_⟩;cbv))
    rw[fn];by_cases hn:yo≠yg
    ·rw[if_pos (.inr ⟨ho,hn⟩)]at hD;cases hD;have ae:=hr h5 3 (Le.refl _) rfl (fun h=>by cases h);clear hr um;rw[decide_eq_true hn];cbv;exact ae
    have hE:=um (fun g=>hn g.2);clear um hD;rw[decide_eq_false hn];cbv;repeat (first| (rw[aj A,aj A];refine ay lE rfl rfl ?_;cbv) | (rw[aj A];refine ay lE rfl rfl ?_;cbv) | (refine ay lE rfl rfl ?_;cbv) | (rw[aj A,aj A];refine ay g5 rfl rfl ?_;cbv) | (rw[aj A];refine ay g5 rfl rfl ?_;cbv) | (refine ay g5 rfl rfl ?_;cbv) | (refine⟨⟨_,rfl,rfl⟩,?_⟩;cbv))
    obtain⟨R,hR⟩:∃R,cd (bh cols yg) x.items=R:=⟨_,rfl⟩;rw[hR]at hE;cases hE;obtain⟨I2,dc⟩:∃I:Nat->ad->Prop,∀i h',I i h'=(Le h5 h'/\cd (bh cols yg) (x.items.drop i)=De):=⟨_,fun _ _=>rfl⟩;have kU:I2 0 h5:=by rw[dc];exact⟨Le.refl _,hR⟩
    refine jI jG I2 kU (fun i h' hI=>?_) (fun i it h' ib im ic hi pH hI hv=>?_) (fun h' hI=>?_)
    ·rw[dc]at hI;exact MS.mono (hI.1.t _)
    ·rw[dc]at hI;obtain⟨l,he⟩:=hI;have hd:x.items.drop i=it::x.items.drop (i+1):=by obtain⟨h1,h2⟩:=List.getElem?_eq_some_iff.1 pH;rw[List.drop_eq_getElem_cons h1,h2]
     rw[hd,jc]at he;refine pT (FZ.mono l) hc (hx.items it (List.mem_of_getElem? pH)) hv (fun h2 l2=>⟨_,rfl,fun h0=>?_,fun h0=>?_⟩)
     ·replace h0:bh cols yg it=0:=h0;rw[if_neg (fun g=>g h0)]at he;rw[dc];exact⟨l.trans l2,he⟩
     ·replace h0:bh cols yg it≠0:=h0;rw[if_pos h0]at he;have ae:=hr h2 De (l.trans l2) rfl (fun _=>rfl);clear hr dc h0;have zD:bh cols yg it=De:=he;rw[show bh cols (⟨yg,yo,true⟩:Qy).group it=De from zD];cbv;exact ae
    ·rw[dc]at hI;obtain⟨l,he⟩:=hI;rw[List.drop_of_length_le (by rw[jG];exact Nat.le_refl _)]at he;have he:(0:Int)=De:=he;have ae:=hr h' 0 l he.symm (fun _=>rfl);clear hr dc;cbv;exact ae
   have hE:=um (fun g=>ho g.1);clear um hD;rw[decide_eq_false ho];cbv;repeat (first| (rw[aj A,aj A];refine ay lE rfl rfl ?_;cbv) | (rw[aj A];refine ay lE rfl rfl ?_;cbv) | (refine ay lE rfl rfl ?_;cbv) | (rw[aj A,aj A];refine ay g5 rfl rfl ?_;cbv) | (rw[aj A];refine ay g5 rfl rfl ?_;cbv) | (refine ay g5 rfl rfl ?_;cbv) | (refine⟨⟨_,rfl,rfl⟩,?_⟩;cbv))
   obtain⟨R,hR⟩:∃R,cd (bh cols yg) x.items=R:=⟨_,rfl⟩;rw[hR]at hE;cases hE;obtain⟨I2,dc⟩:∃I:Nat->ad->Prop,∀i h',I i h'=(Le h5 h'/\cd (bh cols yg) (x.items.drop i)=De):=⟨_,fun _ _=>rfl⟩;have kU:I2 0 h5:=by rw[dc];exact⟨Le.refl _,hR⟩
   refine jI jG I2 kU (fun i h' hI=>?_) (fun i it h' ib im ic hi pH hI hv=>?_) (fun h' hI=>?_)
   ·rw[dc]at hI;exact MS.mono (hI.1.t _)
   ·rw[dc]at hI;obtain⟨l,he⟩:=hI;have hd:x.items.drop i=it::x.items.drop (i+1):=by obtain⟨h1,h2⟩:=List.getElem?_eq_some_iff.1 pH;rw[List.drop_eq_getElem_cons h1,h2]
    rw[hd,jc]at he;refine pT (FZ.mono l) hc (hx.items it (List.mem_of_getElem? pH)) hv (fun h2 l2=>⟨_,rfl,fun h0=>?_,fun h0=>?_⟩)
    ·replace h0:bh cols yg it=0:=h0;rw[if_neg (fun g=>g h0)]at he;rw[dc];exact⟨l.trans l2,he⟩
    ·replace h0:bh cols yg it≠0:=h0;rw[if_pos h0]at he;have ae:=hr h2 De (l.trans l2) rfl (fun _=>rfl);clear hr dc h0;have zD:bh cols yg it=De:=he;rw[show bh cols (⟨yg,yo,true⟩:Qy).group it=De from zD];cbv;exact ae
   ·rw[dc]at hI;obtain⟨l,he⟩:=hI;rw[List.drop_of_length_le (by rw[jG];exact Nat.le_refl _)]at he;have he:(0:Int)=De:=he;have ae:=hr h' 0 l he.symm (fun _=>rfl);clear hr dc;cbv;exact ae
  ·rw[decide_eq_false RT];rw[decide_eq_false RT,Bool.false_or]at tZ;cbv;repeat (first| (rw[aj A,aj A];refine ay zL rfl rfl ?_;cbv) | (rw[aj A];refine ay zL rfl rfl ?_;cbv) | (refine ay zL rfl rfl ?_;cbv) | (rw[aj A,aj A];refine ay g rfl rfl ?_;cbv) | (rw[aj A];refine ay g rfl rfl ?_;cbv) | (refine ay g rfl rfl ?_;cbv) | (refine⟨⟨_,rfl,rfl⟩,?_⟩;cbv))
   refine xZ q5 ?_;rw[<-tZ];cbv;repeat (first| (rw[aj A,aj A];refine ay zL rfl rfl ?_;cbv) | (rw[aj A];refine ay zL rfl rfl ?_;cbv) | (refine ay zL rfl rfl ?_;cbv) | (rw[aj A,aj A];refine ay g rfl rfl ?_;cbv) | (rw[aj A];refine ay g rfl rfl ?_;cbv) | (refine ay g rfl rfl ?_;cbv) | (refine⟨⟨_,rfl,rfl⟩,?_⟩;cbv))
   first|rw[aj A] |skip
   refine kP g (by simp) (fun h5 e5=>?_);obtain⟨FZ,k5⟩:=Di h5 e5;have lE:h5 qb=some (.cells #[.pointer (some ⟨qp,0,none⟩)] 186 (0,0)):=by rw[e5,aU YJ];exact zL
   have yX:cG mh h' h5:=by rw[e5];exact cG.set g (by decide)
   clear e5 Di g tZ;cases ga with
   |false=>
    rw[if_pos rfl]at hD;cases hD;have ae:=hk h5 _ k5 FZ (fun _=>rfl);refine FZ.elim (fun b5y n5y c5y b6y n6y c6y b7y n7y c7y b8y n8y c8y b9y Yc c9y Vq SZ Vn cby cny ccy g5 _ _ _ _ MS _ _=>?_);clear hk;cbv;repeat (first| (rw[aj A,aj A];refine ay lE rfl rfl ?_;cbv) | (rw[aj A];refine ay lE rfl rfl ?_;cbv) | (refine ay lE rfl rfl ?_;cbv) | (rw[aj A,aj A];refine ay g5 rfl rfl ?_;cbv) | (rw[aj A];refine ay g5 rfl rfl ?_;cbv) | (refine ay g5 rfl rfl ?_;cbv) | (refine⟨⟨_,rfl,rfl⟩,?_⟩;cbv))
    have nt:A .not false=true:=by rw[hA.not];rfl
    rw[nt];cbv;exact ae
   |true=>
    rw[if_neg (by simp)]at hD;have nt:A .not true=false:=by rw[hA.not];rfl
    have K9:=fun h' l e=>hk h' ⟨yg,yo,true⟩ (k5.trans (Le.kp l _)) (FZ.mono l) e;clear hk;refine FZ.elim (fun b5y n5y c5y b6y n6y c6y b7y n7y c7y b8y n8y c8y b9y Yc c9y Vq SZ Vn cby cny ccy g5 _ _ _ _ MS _ _=>?_);have jG:=MS.len;have fl:A .aD .eql (A .nat Yc) 0=decide (x.items.length=0):=by rw[av A,hA.nat,decide_eq_decide,Int.ofNat_eq_natCast];omega
    have fo:A .aD .geq yo 0=decide (yo>=0):=bQ A ..;have fn:A .aD .neq yo yg=decide (yo≠yg):=aC A ..;have hr:∀h' e,Le h5 h'->De=e->(De=0->Dy=⟨yg,yo,true⟩)->k (.int .i64 e) h':=fun h' e l he hy=>by rw[<-he];exact K9 h' l (fun h0=>(hy h0).symm)
    clear K9;cbv;repeat (first| (rw[aj A,aj A];refine ay lE rfl rfl ?_;cbv) | (rw[aj A];refine ay lE rfl rfl ?_;cbv) | (refine ay lE rfl rfl ?_;cbv) | (rw[aj A,aj A];refine ay g5 rfl rfl ?_;cbv) | (rw[aj A];refine ay g5 rfl rfl ?_;cbv) | (refine ay g5 rfl rfl ?_;cbv) | (refine⟨⟨_,rfl,rfl⟩,?_⟩;cbv))
    rw[nt];cbv;repeat (first| (rw[aj A,aj A];refine ay lE rfl rfl ?_;cbv) | (rw[aj A];refine ay lE rfl rfl ?_;cbv) | (refine ay lE rfl rfl ?_;cbv) | (rw[aj A,aj A];refine ay g5 rfl rfl ?_;cbv) | (rw[aj A];refine ay g5 rfl rfl ?_;cbv) | (refine ay g5 rfl rfl ?_;cbv) | (refine⟨⟨_,rfl,rfl⟩,?_⟩;cbv))
    rw[fl];by_cases P5:x.items.length=0
    ·rw[if_pos (.inl P5)]at hD;cases hD;have ae:=hr h5 3 (Le.refl _) rfl (fun h=>by cases h);clear hr;rw[decide_eq_true P5];cbv;exact ae
    rw[decide_eq_false P5];cbv;repeat (first| (rw[aj A,aj A];refine ay lE rfl rfl ?_;cbv) | (rw[aj A];refine ay lE rfl rfl ?_;cbv) | (refine ay lE rfl rfl ?_;cbv) | (rw[aj A,aj A];refine ay g5 rfl rfl ?_;cbv) | (rw[aj A];refine ay g5 rfl rfl ?_;cbv) | (refine ay g5 rfl rfl ?_;cbv) | (refine⟨⟨_,rfl,rfl⟩,?_⟩;cbv))
    rw[fo];have um:¬(yo>=0/\yo≠yg)->(Dy,De)=(⟨yg,yo,true⟩,cd (bh cols yg) x.items):=fun hn=>by
     rw[if_neg (by rintro(g|g)<;>contradiction)]at hD;exact hD
    by_cases ho:yo>=0
    ·rw[decide_eq_true ho];cbv;repeat (first| (rw[aj A,aj A];refine ay lE rfl rfl ?_;cbv) | (rw[aj A];refine ay lE rfl rfl ?_;cbv) | (refine ay lE rfl rfl ?_;cbv) | (rw[aj A,aj A];refine ay g5 rfl rfl ?_;cbv) | (rw[aj A];refine ay g5 rfl rfl ?_;cbv) | (refine ay g5 rfl rfl ?_;cbv) | (refine⟨⟨_,rfl,rfl⟩,?_⟩;cbv))
     rw[fn];by_cases hn:yo≠yg
     ·rw[if_pos (.inr ⟨ho,hn⟩)]at hD;cases hD;have ae:=hr h5 3 (Le.refl _) rfl (fun h=>by cases h);clear hr um;rw[decide_eq_true hn];cbv;exact ae
     have hE:=um (fun g=>hn g.2);clear um hD;rw[decide_eq_false hn];cbv;repeat (first| (rw[aj A,aj A];refine ay lE rfl rfl ?_;cbv) | (rw[aj A];refine ay lE rfl rfl ?_;cbv) | (refine ay lE rfl rfl ?_;cbv) | (rw[aj A,aj A];refine ay g5 rfl rfl ?_;cbv) | (rw[aj A];refine ay g5 rfl rfl ?_;cbv) | (refine ay g5 rfl rfl ?_;cbv) | (refine⟨⟨_,rfl,rfl⟩,?_⟩;cbv))
     obtain⟨R,hR⟩:∃R,cd (bh cols yg) x.items=R:=⟨_,rfl⟩;rw[hR]at hE;cases hE;obtain⟨I2,dc⟩:∃I:Nat->ad->Prop,∀i h',I i h'=(Le h5 h'/\cd (bh cols yg) (x.items.drop i)=De):=⟨_,fun _ _=>rfl⟩;have kU:I2 0 h5:=by rw[dc];exact⟨Le.refl _,hR⟩
     refine jI jG I2 kU (fun i h' hI=>?_) (fun i it h' ib im ic hi pH hI hv=>?_) (fun h' hI=>?_)
     ·rw[dc]at hI;exact MS.mono (hI.1.t _)
     ·rw[dc]at hI;obtain⟨l,he⟩:=hI;have hd:x.items.drop i=it::x.items.drop (i+1):=by obtain⟨h1,h2⟩:=List.getElem?_eq_some_iff.1 pH;rw[List.drop_eq_getElem_cons h1,h2]
      rw[hd,jc]at he;refine pT (FZ.mono l) hc (hx.items it (List.mem_of_getElem? pH)) hv (fun h2 l2=>⟨_,rfl,fun h0=>?_,fun h0=>?_⟩)
      ·replace h0:bh cols yg it=0:=h0;rw[if_neg (fun g=>g h0)]at he;rw[dc];exact⟨l.trans l2,he⟩
      ·replace h0:bh cols yg it≠0:=h0;rw[if_pos h0]at he;have ae:=hr h2 De (l.trans l2) rfl (fun _=>rfl);clear hr dc h0;have zD:bh cols yg it=De:=he;rw[show bh cols (⟨yg,yo,true⟩:Qy).group it=De from zD];cbv;exact ae
     ·rw[dc]at hI;obtain⟨l,he⟩:=hI;rw[List.drop_of_length_le (by rw[jG];exact Nat.le_refl _)]at he;have he:(0:Int)=De:=he;have ae:=hr h' 0 l he.symm (fun _=>rfl);clear hr dc;cbv;exact ae
    have hE:=um (fun g=>ho g.1);clear um hD;rw[decide_eq_false ho];cbv;repeat (first| (rw[aj A,aj A];refine ay lE rfl rfl ?_;cbv) | (rw[aj A];refine ay lE rfl rfl ?_;cbv) | (refine ay lE rfl rfl ?_;cbv) | (rw[aj A,aj A];refine ay g5 rfl rfl ?_;cbv) | (rw[aj A];refine ay g5 rfl rfl ?_;cbv) | (refine ay g5 rfl rfl ?_;cbv) | (refine⟨⟨_,rfl,rfl⟩,?_⟩;cbv))
    obtain⟨R,hR⟩:∃R,cd (bh cols yg) x.items=R:=⟨_,rfl⟩;rw[hR]at hE;cases hE;obtain⟨I2,dc⟩:∃I:Nat->ad->Prop,∀i h',I i h'=(Le h5 h'/\cd (bh cols yg) (x.items.drop i)=De):=⟨_,fun _ _=>rfl⟩;have kU:I2 0 h5:=by rw[dc];exact⟨Le.refl _,hR⟩
    refine jI jG I2 kU (fun i h' hI=>?_) (fun i it h' ib im ic hi pH hI hv=>?_) (fun h' hI=>?_)
    ·rw[dc]at hI;exact MS.mono (hI.1.t _)
    ·rw[dc]at hI;obtain⟨l,he⟩:=hI;have hd:x.items.drop i=it::x.items.drop (i+1):=by obtain⟨h1,h2⟩:=List.getElem?_eq_some_iff.1 pH;rw[List.drop_eq_getElem_cons h1,h2]
     rw[hd,jc]at he;refine pT (FZ.mono l) hc (hx.items it (List.mem_of_getElem? pH)) hv (fun h2 l2=>⟨_,rfl,fun h0=>?_,fun h0=>?_⟩)
     ·replace h0:bh cols yg it=0:=h0;rw[if_neg (fun g=>g h0)]at he;rw[dc];exact⟨l.trans l2,he⟩
     ·replace h0:bh cols yg it≠0:=h0;rw[if_pos h0]at he;have ae:=hr h2 De (l.trans l2) rfl (fun _=>rfl);clear hr dc h0;have zD:bh cols yg it=De:=he;rw[show bh cols (⟨yg,yo,true⟩:Qy).group it=De from zD];cbv;exact ae
    ·rw[dc]at hI;obtain⟨l,he⟩:=hI;rw[List.drop_of_length_le (by rw[jG];exact Nat.le_refl _)]at he;have he:(0:Int)=De:=he;have ae:=hr h' 0 l he.symm (fun _=>rfl);clear hr dc;cbv;exact ae
theorem UM{h:ad}{z:Int}{m:Nat}(hz:aO z m)(hm:m<=2^38):
 Ct 252 [.slice none 0 0,.int .i64 z] h (fun v h'=>Le h h'/\∃b' c',v=.slice b' 0 c'/\cS 61 aY h h' (.slice b' 0 c') ([]:List cR)):=by
 obtain⟨A,hA⟩:=Ar.ex;have h0:aO (A .nat 0) 0:=aO.nat 0;have hw:=hz.sub (A:=A) (h0.sub (A:=A) h0 (by omega) (by omega)) (by omega) (by omega);simp only[Nat.sub_zero,Nat.sub_self]at hw;refine af A (ar Ws.aw Ws.aZ) Tryz.func252 rfl (by kernel_rfl) ?_;cbv;rw[hz.DG (A:=A)];cbv;generalize eg:A .aD .gtr (A .bu .sub .i64 z (A .bu .sub .i64 (A .nat 0) (A .nat 0))) 0=u;generalize ew:A .bu .sub .i64 z (A .bu .sub .i64 (A .nat 0) (A .nat 0))=w at hw eg;rw[bB A]at eg;cases u with
 |true=>
  have hp:=of_decide_eq_true eg;have PU:0<m:=by have:=hw.eq;omega
  cbv;have zn:(0:Int)<=A .nat 0/\A .nat 0<=((0:Nat):Int):=by have:=h0.eq;omega
  refine⟨zn,?_⟩;cbv;refine⟨nz hw (by omega) (by decide),?_⟩;cbv;rw[dI (A:=A) hw,dI (A:=A) h0];refine je (s:=aY) (xs:=([]:List cR)) Sl.nil (by omega) rfl (by decide) (by omega) rfl rfl (fun nb c h1 eJ l1 hc ho=>?_);rw[Nat.zero_add];have cT:(0:Int)<=A .nat 0/\A .nat 0<=((c:Nat):Int):=by have:=h0.eq;omega
  cbv;refine⟨cT,?_⟩;cbv;rw[dI (A:=A) h0,qj (A:=A)];exact⟨l1,_,_,rfl,ho.buf eJ rfl⟩
 |false=>cbv;exact⟨Le.refl _,_,_,rfl,cS.nil⟩
theorem L3{L:List (List cR)}{h:ad}{b:Option Addr}{n c:Nat}(q:Sl 59 (jl 61 aY) h (.slice b n c) L)(hn:L.flatten.length<=2^38):
 Ct 190 [.slice b n c] h (fun v h'=>Le h h'/\∃b' n' c',v=.slice b' n' c'/\cS 61 aY h h' (.slice b' n' c') L.flatten):=by
 obtain⟨A,hA⟩:=Ar.ex;have hlen:=q.len;obtain⟨ke,jt⟩:=q.bound;refine af A (ar W4.aw W4.aZ) Tryz.func190 rfl (by kernel_rfl) ?_;cbv;refine aX.go (G:=Int×Int) (fun g=>[(11,.v (.int .i64 g.1)),(3,.v (.int .i64 g.2))]) (fun _=>[])
  (fun k g h'=>∃i:Nat,aO g.1 i/\k=n-i/\i<=n/\h'=h/\aO g.2 (L.take i).flatten.length) n (0,0) ⟨?_,?_,?_⟩ ⟨0,⟨rfl⟩,by omega,by omega,rfl,⟨rfl⟩⟩ ?_
 ·cbv
 ·cbv
 ·cbv
 ·intro k g h' hI;cbv;obtain⟨i,hz,hk,hi,rfl,hw⟩:=hI;refine aL (fun hc=>?_) (fun hc=>?_)
  ·have aG:=hz.lt hc;clear hc;cbv;obtain⟨x,hx⟩:=aE (xs:=L) (i:=i) (by omega);refine⟨⟨q.bF (by omega),hz.ix aG⟩,?_⟩;cbv;refine q.load hx hz.eq (fun cs aF=>?_);obtain⟨v,rfl,hv⟩:=aF;obtain⟨b1,l1,c1,rfl⟩:=hv.form;have Cs:=hv.len;have hle:=nQ L (i+1);rw[fi hx,List.length_append,<-Cs]at hle;have tR:=hw.add (A:=A) (aO.nat (A:=A) l1) (by omega);have zC:=fi hx;cbv;rw[tR.DG (A:=A)];cbv;refine⟨n-(i+1),(_,A .bu .add .i64 g.2 (A .nat l1)),by omega,⟨?_,?_,?_⟩,i+1,hz.succ (A:=A) (by omega),rfl,by omega,rfl,?_⟩
   ·cbv
   ·cbv
   ·cbv
   ·rw[zC,List.length_append,<-Cs];exact tR
  ·have iu:=hz.ge hc;have fR:i=n:=by omega
   rw[List.take_of_length_le (by omega)]at hw;obtain⟨z,w⟩:=g;have hw:aO w L.flatten.length:=hw;cbv;refine(UM hw hn).mono (fun v h1 hR=>?_);obtain⟨l1,b1,c1,rfl,hb⟩:=hR;cbv;refine aX.go (G:=Int×Option Addr×Nat×Nat) (fun g=>[(27,.v (.int .i64 g.1)),(6,.v (.slice g.2.1 g.2.2.1 g.2.2.2))]) (fun _=>[])
    (fun k g h2=>∃i:Nat,aO g.1 i/\k=n-i/\i<=n/\Le h' h2/\cS 61 aY h' h2 (.slice g.2.1 g.2.2.1 g.2.2.2) (L.take i).flatten) n (0,b1,0,c1) ⟨?_,?_,?_⟩ ⟨0,⟨rfl⟩,by omega,by omega,l1,hb⟩ ?_
   ·cbv
   ·cbv
   ·cbv
   ·intro k g h2 hI;cbv;obtain⟨i,hz,hk,hi,hle,hb⟩:=hI;obtain⟨z,gb,gl,gc⟩:=g;have hz:aO z i:=hz;have hb:cS 61 aY h' h2 (.slice gb gl gc) (L.take i).flatten:=hb;refine aL (fun hc=>?_) (fun hc=>?_)
    ·have aG:=hz.lt hc;clear hc;cbv;obtain⟨x,hx⟩:=aE (xs:=L) (i:=i) (by omega);refine⟨⟨q.bF (by omega),hz.ix aG⟩,?_⟩;cbv;refine(q.mono (hle.t _)).load hx hz.eq (fun cs aF=>?_);obtain⟨v,rfl,hv⟩:=aF;obtain⟨b2,l2,c2,rfl⟩:=hv.form;have tX:=hv.len;have xP:gl=(L.take i).flatten.length:=hb.sl.len;have cB:=nQ L (i+1);have zC:=fi hx;rw[zC,List.length_append,<-tX,<-xP]at cB;cbv;refine hb.append hv (by decide) rfl (by decide) (by omega) hle (fun m b' c' h3 hm l3 t3 k3 nk=>?_);cbv;refine⟨n-(i+1),(_,b',m,c'),by omega,⟨?_,?_,?_⟩,i+1,hz.succ (A:=A) (by omega),rfl,by omega,l3,?_⟩
     ·cbv
     ·cbv
     ·cbv
     ·rw[zC];exact nk
    ·have iu:=hz.ge hc;cbv;rw[List.take_of_length_le (by omega)]at hb;exact⟨hle,_,_,_,rfl,hb⟩
structure sh(B h:ad)(ob:Nat)(nb:Option Nat)(l:List Row):Prop where
 out:∃b n c,h ob=some (.cells #[.slice b n c] 34 (0,0))/\Bx 59 aN B h nb (.slice b n c) l
 le:Le B h
 no:B ob=none
theorem sh.mono{B h h':ad}{ob:Nat}{nb:Option Nat}{l:List Row}(q:sh B h ob nb l)(hl:Le h h'):sh B h' ob nb l:=by obtain⟨b,n,c,g,qb⟩:=q.out;exact⟨⟨b,n,c,hl _ _ g,qb.mono (hl.t _)⟩,q.le.trans hl,q.no⟩
def mq(x:aA)(cols:List bS)(a b:Row)(out:List Row):List Row×Int:=match eA x.on cols (a++b)with
 | (on,e)=>if e≠0 then(out,e)else if on=false then(out,0)else match eA x.bT cols (a++b)with
  | (is,e)=>if e≠0 then(out,e)else(if is=true then out++[a++b]else out,0)
theorem mT(x:aA)(cols:List bS)(a b:Row)(bs out:List Row):fA x cols a (b::bs) out=if(mq x cols a b out).2≠0 then mq x cols a b out else fA x cols a bs (mq x cols a b out).1:=by
 show(match eA x.on cols (a++b)with
  | (on,e)=>if e≠0 then(out,e)else if on=false then fA x cols a bs out else match eA x.bT cols (a++b)with
   | (is,e)=>if e≠0 then(out,e)else fA x cols a bs (if is=true then out++[a++b]else out))=_
 unfold mq;generalize eA x.on cols (a++b)=H;obtain⟨on,e⟩:=H;generalize eA x.bT cols (a++b)=H2;obtain⟨is,e2⟩:=H2;by_cases h0:e=0
 ·subst h0;cases on with
  |false=>simp
  |true=>
   by_cases h2:e2=0
   ·simp[h2]
   ·simp[h2]
 ·simp[h0]
theorem Oo{B h:ad}{ob:Nat}{nb:Option Nat}{l:List Row}(qo:sh B h ob nb l)(hl:l.length<=2^37){qp qb:Nat}{x:aA}{cols:List bS}{y:Qy}(q:kL B qp x cols y)(gb:B qb=some (.cells #[.pointer (some ⟨qp,0,none⟩)] 186 (0,0)))(hx:gy x)(hc:∀c∈cols,Nm c.name)
 {a b:Row} (ha:iF a) (hb:iF b) (EW:a.length+b.length<=2^30) {xp:Nat} {ab:Option Addr} {an ac:Nat} (gx:h xp=some (.cells #[.slice ab an ac] 59 (0,0))) (qa:Sl 61 aY h (.slice ab an ac) a) {bb:Option Addr} {bn bc:Nat} (qbb:Sl 61 aY h (.slice bb bn bc) b)
 {D:List Row×Int} (hD:D=mq x cols a b l) {k:Value->ad->Prop}
 (hk:∀h' lO,sh B h' ob lO D.1->(lO=nb\/∃j,lO=some j/\h j=none)->Kp (ob::nb.toList) h h'->k (.int .i64 D.2) h'):
 Ct 189 [.slice bb bn bc,.pointer (some ⟨xp,0,none⟩),.pointer (some ⟨qb,0,none⟩),.pointer (some ⟨ob,0,none⟩)] h k:=by
 obtain⟨A,hA⟩:=Ar.ex;have l0:=qo.le;have fQ:=qo.no;have gb0:=l0 _ _ gb;replace hD:D=match eA x.on cols (a++b)with
  | (on,e)=>if e≠0 then(l,e)else if on=false then(l,0)else match eA x.bT cols (a++b)with
   | (is,e)=>if e≠0 then(l,e)else(if is=true then l++[a++b]else l,0):=hD
 have fR:iF (a++b):=fun v hv=>by
  rcases List.mem_append.1 hv with hv|hv
  ·exact ha v hv
  ·exact hb v hv
 refine(q.mono l0).elim (fun b5 n5 c5 b6 n6 c6 b7 n7 c7 b8 n8 c8 b9 n9 c9 fJ iq fI cb cn cc g q1 q2 q3 q4 q5 q6 q7=>?_);clear q1 q3 q4 q5;refine af A (ar W5.aw W5.aZ) Tryz.func189 rfl (by kernel_rfl) ?_;cbv;refine ay gx rfl rfl ?_;cbv;intro t2 h1 f1 e1;have l1:Le h h1:=by rw[e1];exact Le.set f1
 have qL:Sl 59 (jl 61 aY) h1 (.slice (some ⟨t2,0,none⟩) 2 2) [a,b]:=by
  refine Sl.fresh (s:=jl 61 aY) (h:=h1) (n:=t2) (xs:=[a,b]) (cap:=2) (c:=[.slice ab an ac,.slice bb bn bc]) (by rw[e1];exact ah) ⟨Nat.le_refl 2,fun i x hx=>?_⟩ (by show 2<=_;omega) (Nat.le_refl 2)
  match i,hx with
  |0,hx=>cases hx;exact⟨_,rfl,qa.mono (l1.t _)⟩
  |1,hx=>cases hx;exact⟨_,rfl,qbb.mono (l1.t _)⟩
  |i+2,hx=>simp at hx
 clear e1;cbv;refine(L3 qL (by simp;omega)).mono (fun v h2 hR=>?_);obtain⟨l2,rb,rn,rc,hv,qr⟩:=hR;subst hv;rw[show [a,b].flatten=a++b by simp]at qr;have lT:=l1.trans l2;have HQ:=lT _ _ gb0;have g2:=lT _ _ g;have qo2:=qo.mono lT;clear qL qa qbb gx;cbv;repeat (first| (rw[aj A,aj A];refine ay HQ rfl rfl ?_;cbv) | (rw[aj A];refine ay HQ rfl rfl ?_;cbv) | (refine ay HQ rfl rfl ?_;cbv) | (rw[aj A,aj A];refine ay g2 rfl rfl ?_;cbv) | (rw[aj A];refine ay g2 rfl rfl ?_;cbv) | (refine ay g2 rfl rfl ?_;cbv) | (refine⟨⟨_,rfl,rfl⟩,?_⟩;cbv))
 refine Hx hx.on hc fR (q2.mono (lT.t _)) (q7.mono (lT.t _)) qr.sl (fun h3 t e l3 ht=>?_);rw[<-ht]at hD;replace hD:D=if e≠0 then(l,e)else if t=false then(l,0)else match eA x.bT cols (a++b)with
  | (is,e)=>if e≠0 then(l,e)else(if is=true then l++[a++b]else l,0):=hD
 have fe:A .aD .neq e 0=decide (e≠0):=aC A ..;have uV:A .not t= !t:=by rw[hA.not]
 have DP:=lT.trans l3;have X7:=qo2.mono l3;by_cases h0:e≠0
 ·rw[if_pos h0]at hD;subst hD;have ae:=hk h3 nb X7 (.inl rfl) (DP.kp _);clear hk;cbv;rw[fe,decide_eq_true h0];cbv;exact ae
 rw[if_neg h0]at hD;have e0:e=0:=Decidable.not_not.1 h0;subst e0;cases t with
 |false=>rw[if_pos rfl]at hD;subst hD;have ae:=hk h3 nb X7 (.inl rfl) (DP.kp _);clear hk;cbv;rw[fe,decide_eq_false h0];cbv;rw[uV];cbv;exact ae
 |true=>
  rw[if_neg (by simp)]at hD;have gb3:=DP _ _ gb0;have g3:=DP _ _ g;cbv;rw[fe,decide_eq_false h0];cbv;rw[uV];cbv;repeat (first| (rw[aj A,aj A];refine ay gb3 rfl rfl ?_;cbv) | (rw[aj A];refine ay gb3 rfl rfl ?_;cbv) | (refine ay gb3 rfl rfl ?_;cbv) | (rw[aj A,aj A];refine ay g3 rfl rfl ?_;cbv) | (rw[aj A];refine ay g3 rfl rfl ?_;cbv) | (refine ay g3 rfl rfl ?_;cbv) | (refine⟨⟨_,rfl,rfl⟩,?_⟩;cbv))
  refine Hx hx.bT hc fR (q6.mono (DP.t _)) (q7.mono (DP.t _)) (qr.sl.mono (l3.t _)) (fun h4 u e l4 hu=>?_);rw[<-hu]at hD;replace hD:D=if e≠0 then(l,e)else(if u=true then l++[a++b]else l,0):=hD
  have rD:=DP.trans l4;have EI:=X7.mono l4;have fe2:A .aD .eql e 0=decide (e=0):=av A ..;cases u with
  |false=>
   have hD:D=(l,e):=by
    rw[hD];by_cases h0:e≠0
    ·rw[if_pos h0]
    ·rw[if_neg h0,if_neg (by simp),Decidable.not_not.1 h0]
   subst hD;have ae:=hk h4 nb EI (.inl rfl) (rD.kp _);clear hk;cbv;exact ae
  |true=>
   by_cases h1:e=0
   ·subst h1;rw[if_neg (fun g=>g rfl),if_pos rfl]at hD;subst hD;obtain⟨b1,n1,c1,go,qx⟩:=EI.out;have lB:=EI.le;have nh:n1+1<=2^39:=by have:=qx.sl.len;omega
    have qr4:=qr.sl.mono ((l3.trans l4).t _);have Bj:∀h5 j,(nb=some j\/h5 j=none)->Le h4 h5->(some j=nb\/∃i,some j=some i/\h i=none):=fun h5 j hj l5=>by
     rcases hj with hj|hj
     ·exact .inl hj.symm
     ·refine .inr ⟨j,rfl,?_⟩;cases hh:h j with
      |none=>rfl
      |some o=>rw[l5 _ _ (rD _ _ hh)]at hj;cases hj
    clear qo qo2 X7 EI;cbv;rw[fe2];cbv;refine ay go rfl rfl ?_;cbv;intro t5 h5 f5 e5;have l5:Le h4 h5:=by rw[e5];exact Le.set f5
    have v5:Sl 59 aN h5 (.slice (some ⟨t5,0,none⟩) 1 1) [a++b]:=bX (s:=aN) ((congrFun e5 t5).trans ah) ⟨_,rfl,qr4.mono (l5.t _)⟩;have go5:=l5 _ _ go;have TR:∀j,nb=some j->j≠ob:=fun j hj e=>by
     subst hj;obtain⟨c,fr,gg⟩:=qx.has;rw[e,go]at gg;cases gg
    clear e5;cbv;refine(qx.mono (l5.t _)).app v5 (by decide) rfl (by decide) nh (lB.trans l5) (fun j m c' h6 l6 RF Kr hj bx6=>?_);have go6:=RF _ _ go5 (fun hm=>by
     cases nb with
     |none=>cases hm
     |some i=>have:ob=i:=by simpa using hm
              exact TR i rfl this.symm)
    have Bj:=Bj h5 j hj l5;cbv;refine kP go6 (by simp) (fun h7 e7=>?_);have ae:=hk h7 (some j) ⟨⟨_,m,c',(by rw[e7];exact ah),bx6.mono (by rw[e7];exact cG.set go6 (by decide))⟩,(fun b o hb=>by rw[e7,aU (fun e=>by rw[e,fQ]at hb;cases hb)];exact l6 _ _ hb),fQ⟩ Bj
     (fun b o hb hn=>by
      have n1:b≠ob:=fun e=>hn (by rw[e];exact List.mem_cons_self);rw[e7,aU n1];exact RF _ _ (l5 _ _ (rD _ _ hb)) (fun hm=>hn (List.mem_cons_of_mem _ hm)))
    clear hk e7;cbv;exact ae
   ·rw[if_pos h1]at hD;subst hD;have ae:=hk h4 nb EI (.inl rfl) (rD.kp _);clear hk;cbv;rw[fe2,decide_eq_false h1];cbv;exact ae
def Fr(h:ad)(nb lO:Option Nat):Prop:=∀j o,lO=some j->h j=some o->nb=some j
theorem Fr.refl{h:ad}{nb:Option Nat}:Fr h nb nb:=fun j o e _=>e
theorem Fr.of{h:ad}{nb lO:Option Nat}(hh:lO=nb\/∃j,lO=some j/\h j=none):Fr h nb lO:=fun j o e1 e2=>by
 rcases hh with hh| ⟨i,h1,h2⟩
 ·rw[<-hh];exact e1
 ·rw[h1]at e1;cases e1;rw[h2]at e2;cases e2
theorem Fr.trans{h1 h':ad}{B B':ad}{ob:Nat}{nb lO xy:Option Nat}{l l':List Row}(D4:Fr h1 nb lO)(M4:Kp (ob::nb.toList) h1 h')(q':∃b n c,h' ob=some (.cells #[.slice b n c] 34 (0,0))/\Bx 59 aN B h' lO (.slice b n c) l')
 (q1:∃b n c,h1 ob=some (.cells #[.slice b n c] 34 (0,0))/\Bx 59 aN B' h1 nb (.slice b n c) l) (mK:Fr h' lO xy):Fr h1 nb xy:=fun j o e1 e2=>by
 by_cases hm:j∈ob::nb.toList
 ·rcases List.mem_cons.1 hm with hm|hm
  ·obtain⟨b,n,c,g,qb⟩:=q';have:=mK j _ e1 (by rw[hm];exact g);subst this;obtain⟨cc,fr,gg⟩:=qb.has;rw[hm,g]at gg;cases gg
  ·cases nb with
   |none=>cases hm
   |some i=>have:j=i:=by simpa using hm
            rw[this]
 ·exact D4 j o (mK j _ e1 (M4 _ _ e2 hm)) e2
theorem sh.Te{B h h':ad}{ob:Nat}{nb:Option Nat}{l:List Row}(q:sh B h ob nb l)(k:Kp (ob::nb.toList) h h'){tys:List Nat}(h1:34∉tys)(h2:59∉tys):cG tys h h':=fun b c e fr hm hb=>by
 obtain⟨sb,n,cc,g,qb⟩:=q.out;refine k b _ hb (fun hn=>?_);rcases List.mem_cons.1 hn with hn|hn
 ·rw[hn,g]at hb;cases hb;exact h1 hm
 ·cases nb with
  |none=>cases hn
  |some j=>
   have:b=j:=by simpa using hn
   subst this;obtain⟨c',HT,g'⟩:=qb.has;rw[g']at hb;cases hb;exact h2 hm
theorem vU{x:aA}{cols:List bS}{a b:Row}{out:List Row}:(mq x cols a b out).1.length<=out.length+1:=by
 unfold mq;generalize eA x.on cols (a++b)=H;obtain⟨on,e⟩:=H;generalize eA x.bT cols (a++b)=H2;obtain⟨is,e2⟩:=H2;by_cases h0:e=0
 ·subst h0;cases on with
  |false=>simp
  |true=>
   by_cases h2:e2=0
   ·cases is<;>simp[h2]
   ·simp[h2]
 ·simp[h0]
theorem Oq{B h:ad}{ob:Nat}{nb:Option Nat}{l:List Row}(qo:sh B h ob nb l){qp qb:Nat}{x:aA}{cols:List bS}{y:Qy}(q:kL B qp x cols y)(gb:B qb=some (.cells #[.pointer (some ⟨qp,0,none⟩)] 186 (0,0)))(hx:gy x)(hc:∀c∈cols,Nm c.name)
 {a:Row} (ha:iF a) {bs:List Row} (hb:∀b∈bs,iF b/\a.length+b.length<=2^30) (hl:l.length+bs.length<=2^37) {ab:Option Addr} {an ac:Nat} (qa:Sl 61 aY h (.slice ab an ac) a)
 {tb:Nat} {v1 v2 v3 v4:Value} {rb:Option Addr} {rn rc:Nat} (gt:B tb=some (.cells #[v1,v2,v3,v4,.slice rb rn rc] 51 (0,0))) (qr:Sl 59 aN B (.slice rb rn rc) bs)
 {D:List Row×Int} (hD:D=fA x cols a bs l) {k:Value->ad->Prop}
 (hk:∀h' lO,sh B h' ob lO D.1->Fr h nb lO->Kp (ob::nb.toList) h h'->k (.int .i64 D.2) h'):
 Ct 188 [.slice ab an ac,.pointer (some ⟨tb,0,none⟩),.pointer (some ⟨qb,0,none⟩),.pointer (some ⟨ob,0,none⟩)] h k:=by
 obtain⟨A,hA⟩:=Ar.ex;refine af A (ar W6.aw W6.aZ) Tryz.func188 rfl (by kernel_rfl) ?_;cbv;intro xp h1 f1 e1;have l1:Le h h1:=by rw[e1];exact Le.set f1
 have gx1:h1 xp=some (.cells #[.slice ab an ac] 59 (0,0)):=by rw[e1];exact ah
 have X8:=qo.mono l1;have hxo:xp≠ob:=fun e=>by
  obtain⟨sb,n,cc,g,-⟩:=qo.out;rw[e,g]at f1;cases f1
 have KT:nb≠some xp:=fun e=>by
  obtain⟨sb,n,cc,g,qbx⟩:=qo.out;subst e;obtain⟨c,fr,gg⟩:=qbx.has;rw[gg]at f1;cases f1
 have gt1:=X8.le _ _ gt;clear e1;obtain⟨I,bm⟩:∃I:Nat->ad->Prop,∀i h',I i h'=∃lO l',sh B h' ob lO l'/\l'.length<=l.length+i/\Fr h1 nb lO/\Kp (ob::nb.toList) h1 h'/\h' xp=some (.cells #[.slice ab an ac] 59 (0,0))/\Sl 61 aY h' (.slice ab an ac) a/\fA x cols a (bs.drop i) l'=D:=⟨_,fun _ _=>rfl⟩;have hJ:I 0 h1:=by rw[bm];exact⟨nb,l,X8,Nat.le_refl _,Fr.refl,Kp.refl _ _,gx1,qa.mono (l1.t _),hD.symm⟩
 have hfr:∀lO,Fr h1 nb lO->Fr h nb lO:=fun lO hh j o e1 e2=>hh j o e1 (l1 _ _ e2);cbv;rw[aj A];refine ay gt1 rfl rfl ?_;cbv;refine BA qr.len I hJ (fun i h' hI=>?_) (fun i b h' b1 n1 c1 hi Lk hI hv=>?_) (fun h' hI=>?_)
 ·rw[bm]at hI;obtain⟨lO,l',q',-⟩:=hI;exact qr.mono (q'.le.t _)
 ·rw[bm]at hI;obtain⟨lO,l',q',rF,D4,M4,gx',qa',he⟩:=hI;have hd:bs.drop i=b::bs.drop (i+1):=by obtain⟨h1,h2⟩:=List.getElem?_eq_some_iff.1 Lk;rw[List.drop_eq_getElem_cons h1,h2]
  have Qi:=hb b (List.mem_of_getElem? Lk);have jG:i<bs.length:=(List.getElem?_eq_some_iff.1 Lk).1;rw[hd,mT]at he;have hxn':lO≠some xp:=fun e=>KT (D4 xp _ e gx1);refine Oo q' (by omega) q gb hx hc ha Qi.1 Qi.2 gx' qa' hv rfl (fun h2 xy q2 mK Yt=>⟨_,rfl,fun h0=>?_,fun h0=>?_⟩)
  ·rw[if_neg (fun g=>g h0)]at he;have hkx:xp∉ob::lO.toList:=fun hm=>by
    rcases List.mem_cons.1 hm with hm|hm
    ·exact hxo hm
    ·cases lO with
     |none=>cases hm
     |some j=>have:xp=j:=by simpa using hm
              exact hxn' (by rw[this])
   rw[bm];refine⟨xy,_,q2,Nat.le_trans vU (by omega),?_,?_,Yt _ _ gx' hkx,qa'.mono (q'.Te Yt (by decide) (by decide)),he⟩
   ·exact Fr.trans D4 M4 q'.out X8.out (Fr.of mK)
   ·exact fun b' o oC hm=>Yt _ _ (M4 _ _ oC hm) (fun vj=>by
     rcases List.mem_cons.1 vj with vj|vj
     ·exact hm (by rw[vj];exact List.mem_cons_self)
     ·cases lO with
      |none=>cases vj
      |some j=>
       have:b'=j:=by simpa using vj
       subst this;have:=D4 b' o rfl oC;exact hm (List.mem_cons_of_mem _ (by rw[this];simp)))
  ·rw[if_pos h0]at he;have q3:=q2;rw[he]at q3;have hfr2:=hfr xy (Fr.trans D4 M4 q'.out X8.out (Fr.of mK));have Ys:Kp (ob::nb.toList) h h2:=fun b' o oC hm=>by
    have ke:=l1 _ _ oC;refine Yt _ _ (M4 _ _ ke hm) (fun vj=>?_);rcases List.mem_cons.1 vj with vj|vj
    ·exact hm (by rw[vj];exact List.mem_cons_self)
    ·cases lO with
     |none=>cases vj
     |some j=>
      have:b'=j:=by simpa using vj
      subst this;have:=D4 b' o rfl ke;exact hm (List.mem_cons_of_mem _ (by rw[this];simp))
   have ae:=hk h2 xy q3 hfr2 Ys;rw[he];clear hk bm hJ;generalize D.2=De at *;cbv;exact ae
 ·rw[bm]at hI;obtain⟨lO,l',q',rF,D4,M4,gx',qa',he⟩:=hI;rw[List.drop_of_length_le (by rw[qr.len];exact Nat.le_refl _)]at he;have he:(l',0)=D:=he;subst he;have ae:=hk h' lO q' (hfr lO D4) (fun b' o oC hm=>M4 _ _ (l1 _ _ oC) hm);clear hk bm hJ;cbv;exact ae
theorem mU(x:aA)(cols:List bS)(bs:List Row)(a:Row)(l out:List Row):dC x cols bs (a::l) out=match fA x cols a bs out with
 | (out,e)=>if e≠0 then(out,e)else dC x cols bs l out:=rfl
theorem oN{x:aA}{cols:List bS}{a:Row}:∀ {bs out:List Row},(fA x cols a bs out).1.length<=out.length+bs.length
 | [],out=>Nat.le_refl _
 |b::bs,out=>by
  rw[mT];have h1:=vU (x:=x) (cols:=cols) (a:=a) (b:=b) (out:=out);by_cases c:(mq x cols a b out).2≠0
  ·rw[if_pos c];simp only[List.length_cons];omega
  ·rw[if_neg c];have:=oN (x:=x) (cols:=cols) (a:=a) (bs:=bs) (out:=(mq x cols a b out).1);simp only[List.length_cons];omega
theorem Sw{h:ad}{qp:Nat}{x:aA}{cols:List bS}{y:Qy}(q:kL h qp x cols y)(hx:gy x)(hc:∀c∈cols,Nm c.name){as_ bs:List Row}(ha:∀a∈as_,iF a/\a.length<=2^20)(hb:∀b∈bs,iF b/\b.length<=2^20)(hal:as_.length<=2^10)(uX:bs.length<=2^10)
 {u1 u2 u3 u4 v1 v2 v3 v4:Value} (hu:iK [u1,u2,u3,u4]=true) (hv:iK [v1,v2,v3,v4]=true) {rb:Option Addr} {rn rc:Nat} (qr:Sl 59 aN h (.slice rb rn rc) as_) {sb:Option Addr} {sn sc:Nat} (qs:Sl 59 aN h (.slice sb sn sc) bs)
 {k:Value->ad->Prop} (hk:∀h' b n c nb,Le h h'->(∀j,nb=some j->h j=none)->Bx 59 aN h h' nb (.slice b n c) (dC x cols bs as_ []).1->k (.tuple #[.slice b n c,.int .i64 (dC x cols bs as_ []).2]) h'):
 Ct 101 [.pointer (some ⟨qp,0,none⟩),.agg #[u1,u2,u3,u4,.slice rb rn rc],.agg #[v1,v2,v3,v4,.slice sb sn sc]] h k:=by
 obtain⟨A,hA⟩:=Ar.ex;obtain⟨D,hD⟩:∃D,dC x cols bs as_ []=D:=⟨_,rfl⟩;rw[hD]at hk;refine af A (ar XV.aw XV.aZ) Tryz.func101 rfl (by kernel_rfl) ?_;cbv;intro qb h1 f1 e1;have l1:Le h h1:=by rw[e1];exact Le.set f1
 have gb:h1 qb=some (.cells #[.pointer (some ⟨qp,0,none⟩)] 186 (0,0)):=by rw[e1];exact ah
 clear e1;cbv;intro tb h2 f2 e2;have l2:Le h1 h2:=by rw[e2];exact Le.set f2
 have gt:h2 tb=some (.cells #[v1,v2,v3,v4,.slice sb sn sc] 51 (0,0)):=by rw[e2];exact ah
 clear e2;cbv;intro ob h3 f3 e3;have l3:Le h2 h3:=by rw[e3];exact Le.set f3
 have go:h3 ob=some (.cells #[.slice none 0 0] 34 (0,0)):=by rw[e3];exact ah
 clear e3;have lT:=l1.trans l2;have Yn:Le h2 (Sx.cQ h3 ob):=fun b o hb=>by
  rw[Sx.eF (fun e=>by rw[e,f3]at hb;cases hb)];exact l3 _ _ hb
 obtain⟨B,hB⟩:∃B,B=Sx.cQ h3 ob:=⟨_,rfl⟩;rw[<-hB]at Yn;have hB3:Le B h3:=by rw[hB];exact Sx.fh h3 ob
 have UH:B ob=none:=by rw[hB];exact Sx.dP h3 ob
 have DJ:Le h B:=lT.trans Yn;obtain⟨I,bm⟩:∃I:Nat->ad->Prop,∀i h',I i h'=∃nb l,sh B h' ob nb l/\l.length<=i*bs.length/\dC x cols bs (as_.drop i) l=D:=⟨_,fun _ _=>rfl⟩;have hJ:I 0 h3:=by rw[bm];exact⟨none,[],⟨⟨_,_,_,go,.inl ⟨rfl,rfl,rfl⟩⟩,hB3,UH⟩,by simp,hD⟩
 have fin:∀h' nb l e,sh B h' ob nb l->(l,e)=D->∃b n c,h' ob=some (.cells #[.slice b n c] 34 (0,0))/\k (.tuple #[.slice b n c,.int .i64 e]) h':=fun h' nb l e q' he=>by
  obtain⟨b,n,c,g,SD⟩:=q'.out;subst he;refine⟨b,n,c,g,hk h' b n c nb (DJ.trans q'.le) (fun j hj=>?_) ?_⟩
  ·subst hj;rcases SD with ⟨h1,-⟩ | ⟨j',cap,e1,-,e3,-⟩
   ·cases h1
   ·cases e1;cases hh:h j with
    |none=>rfl
    |some o=>rw[DJ _ _ hh]at e3;cases e3
  ·rcases SD with ⟨h1,h2,h3⟩ | ⟨j',cap,e1,e2,e3,o⟩
   ·exact .inl ⟨h1,h2,h3⟩
   ·exact .inr ⟨j',cap,e1,e2,(by
     cases hh:h j' with
     |none=>rfl
     |some o=>rw[DJ _ _ hh]at e3;cases e3),o⟩
 clear hB hk;cbv;refine Ef qr.len I hJ (fun i h' hI=>?_) (fun i a h' b1 n1 c1 hi hax hI hv'=>?_) (fun h' hI=>?_)
 ·rw[bm]at hI;obtain⟨nb,l,q',-⟩:=hI;exact qr.mono ((DJ.trans q'.le).t _)
 ·rw[bm]at hI;obtain⟨nb,l,q',rF,he⟩:=hI;have hd:as_.drop i=a::as_.drop (i+1):=by obtain⟨h1,h2⟩:=List.getElem?_eq_some_iff.1 hax;rw[List.drop_eq_getElem_cons h1,h2]
  have ham:=ha a (List.mem_of_getElem? hax);have jG:i<as_.length:=(List.getElem?_eq_some_iff.1 hax).1;rw[hd,mU]at he;have hib:i*bs.length<=2^20:=by have:i*bs.length<=2^10*2^10:=Nat.mul_le_mul (by omega) uX;omega
  refine Oq q' (q.mono DJ) (Yn _ _ (l2 _ _ gb)) hx hc ham.1 (fun b Qi=>⟨(hb b Qi).1,by have:=(hb b Qi).2;have:=ham.2;omega⟩) (by omega) hv' (Yn _ _ gt) (qs.mono (DJ.t _)) rfl (fun h2 xy q2 _ _=>⟨_,rfl,fun h0=>?_,fun h0=>?_⟩)
  ·have TM:=oN (x:=x) (cols:=cols) (a:=a) (bs:=bs) (out:=l);generalize fA x cols a bs l=E at *;obtain⟨out,e⟩:=E;replace he:(if e≠0 then(out,e)else dC x cols bs (as_.drop (i+1)) out)=D:=he;rw[if_neg (fun g=>g h0)]at he;rw[bm];refine⟨xy,out,q2,?_,he⟩;have:(i+1)*bs.length=i*bs.length+bs.length:=Nat.succ_mul _ _;have TM:out.length<=l.length+bs.length:=TM;omega
  ·generalize fA x cols a bs l=E at *;obtain⟨out,e⟩:=E;replace he:(if e≠0 then(out,e)else dC x cols bs (as_.drop (i+1)) out)=D:=he;rw[if_pos h0]at he;obtain⟨b,n,c,g,ae⟩:=fin h2 xy out e q2 he;clear fin bm hJ;cbv;refine ay g rfl rfl ?_;cbv;exact ae
 ·rw[bm]at hI;obtain⟨nb,l,q',rF,he⟩:=hI;rw[List.drop_of_length_le (by rw[qr.len];exact Nat.le_refl _)]at he;have he:(l,0)=D:=he;obtain⟨b,n,c,g,ae⟩:=fin h' nb l 0 q' he;clear fin bm hJ;cbv;refine ay g rfl rfl ?_;cbv;exact ae
theorem L5{xs:List Row}{h:ad}{b:Option Addr}{len cap:Nat}(q:Sl 59 aN h (.slice b len cap) xs):
 Ct 195 [.slice b len cap] h (fun v h'=>Le h h'/\∃b' eP,v=.slice b' len eP/\cS 59 aN h h' (.slice b' len eP) xs):=by
 obtain⟨A,hA⟩:=Ar.ex;refine af A (ar W3.aw W3.aZ) Tryz.func195 rfl (by kernel_rfl) ?_;cbv;refine aL (fun hc=>?_) (fun hc=>?_)
 ·rw[hA.vf]at hc;cbv;have hb:b=none:=by cases b<;>simp at hc |-
  subst hb;have hl:len=0:=by
   rcases Nat.eq_zero_or_pos len with e|e
   ·exact e
   ·have:=q.bF e;cases this
  have:=q.len;have hx:xs=[]:=List.eq_nil_of_length_eq_zero (by omega);subst hx hl;exact⟨Le.refl _,none,0,rfl,cS.nil⟩
 ·cbv;intro n0 h1 jz dO;have hle:Le h h1:=by rw[dO];exact Le.set jz
  cbv;refine eH (q.mono (hle.t _)) (by decide) rfl (by decide) (fun hn=>?_) (fun nb c h2 e1 e2 e3 e4=>?_)
  ·cbv;have:=q.len;have hx:xs=[]:=List.eq_nil_of_length_eq_zero (by omega);subst hx hn;exact⟨hle,_,_,rfl,cS.nil⟩
  ·cbv;exact⟨hle.trans e3,_,_,rfl,e4.buf (hle.none e1) q.len⟩
theorem Sl.MQ{α:Type}{e:Nat}{s:Sh α}{h:ad}{b:Option Addr}{n c c':Nat}{xs:List α}(q:Sl e s h (.slice b n c) xs)(hc:n<=c'):Sl e s h (.slice b n c') xs:=by obtain⟨b',cap,h1,h2,h3,h4⟩:=q.out;cases h1;exact⟨b,c',rfl,hc,h3,h4⟩
theorem DI{vZ:Int}{n:Nat}(h:¬vZ<0):min vZ (n:Int)=((min vZ.toNat n:Nat):Int):=by omega
theorem GI{xs:List (List Row)}{h:ad}{b:Option Addr}{n c:Nat}(q:Sl 34 (jl 59 aN) h (.slice b n c) xs)(vZ:Int){k:Value->ad->Prop}(hk:∀b' n' c',Sl 34 (jl 59 aN) h (.slice b' n' c') (eX xs vZ)->k (.slice b' n' c') h):
 Ct 196 [.slice b n c,.int .i64 vZ] h k:=by
 obtain⟨A,hA⟩:=Ar.ex;have hn:=q.len;have hb:=q.bound;have f1:A .aD .lss vZ 0=decide (vZ<0):=bt A ..;obtain⟨m,hm⟩:∃m,A .mB vZ (A .nat n)=m:=⟨_,rfl⟩;have vj:m=min vZ (n:Int):=by rw[<-hm,hA.mB,hA.nat];rfl
 refine af A (ar W2.aw W2.aZ) Tryz.func196 rfl (by kernel_rfl) ?_;cbv;rw[f1];by_cases h0:vZ<0
 ·have hP:eX xs vZ=xs:=by unfold eX;rw[if_pos h0]
  rw[hP]at hk;have ae:=hk b n c q;clear hk;rw[decide_eq_true h0];cbv;exact ae
 ·have hP:eX xs vZ=xs.take vZ.toNat:=by unfold eX;rw[if_neg h0]
  have hmz:aO m (min vZ.toNat n):=⟨vj.trans (DI h0)⟩;have ht:xs.take vZ.toNat=xs.take (min vZ.toNat n):=by
   rw[hn];rcases Nat.le_total vZ.toNat xs.length with h1|h1
   ·rw[Nat.min_eq_left h1]
   ·rw[Nat.min_eq_right h1,List.take_of_length_le h1,List.take_of_length_le (Nat.le_refl _)]
  rw[hP,ht]at hk;have cT:0<=m/\m<=(c:Int):=by have:=hmz.eq;omega
  have hdm:=dI (A:=A) hmz;rw[decide_eq_false h0];cbv;rw[hm];cbv;refine⟨cT,?_⟩;have hz:m-0=((min vZ.toNat n:Nat):Int):=by rw[hmz.eq];omega
  have ae:=fun c' oa=>hk _ _ _ (Sl.MQ (q.vK (A:=A) (z:=A .nat c) (Nat.min_le_right vZ.toNat n) rfl rfl) (c':=c') oa);clear hk;cbv;rw[hdm];exact ae c (by omega)
theorem LF{h:ad}{qp:Nat}{x:aA}{cols:List bS}{y:Qy}(q:kL h qp x cols y)(hg:y.group<0){rows:List Row}{rb:Option Addr}{rn rc:Nat}(qr:Sl 59 aN h (.slice rb rn rc) rows)
 {k:Value->ad->Prop} (hk:∀h' b,Le h h'->Sl 34 (jl 59 aN) h' (.slice (some ⟨b,0,none⟩) 1 1) [rows]->k (.slice (some ⟨b,0,none⟩) 1 1) h'):
 Ct 197 [.pointer (some ⟨qp,0,none⟩),.slice rb rn rc] h k:=by
 obtain⟨A,hA⟩:=Ar.ex;refine q.elim (fun b5 n5 c5 b6 n6 c6 b7 n7 c7 b8 n8 c8 b9 n9 c9 fJ iq fI cb cn cc g q1 q2 q3 q4 q5 q6 q7=>?_);clear q1 q2 q3 q4 q5 q6 q7;have fo:A .aD .lss y.group 0=true:=by rw[bt A];exact decide_eq_true (by omega)
 refine af A (ar W0.aw W0.aZ) Tryz.func197 rfl (by kernel_rfl) ?_;cbv;intro qb h1 f1 e1;have l1:Le h h1:=by rw[e1];exact Le.set f1
 have gb:h1 qb=some (.cells #[.pointer (some ⟨qp,0,none⟩)] 186 (0,0)):=by rw[e1];exact ah
 have g1:=l1 _ _ g;clear e1;cbv;repeat (first| (rw[aj A,aj A];refine ay gb rfl rfl ?_;cbv) | (rw[aj A];refine ay gb rfl rfl ?_;cbv) | (refine ay gb rfl rfl ?_;cbv) | (rw[aj A,aj A];refine ay g1 rfl rfl ?_;cbv) | (rw[aj A];refine ay g1 rfl rfl ?_;cbv) | (refine ay g1 rfl rfl ?_;cbv) | (refine⟨⟨_,rfl,rfl⟩,?_⟩;cbv))
 intro ob h2a f2 e2;have l2a:Le h1 h2a:=by rw[e2];exact Le.set f2
 have goa:h2a ob=some (.cells #[.int .i64 0] 3 (0,0)):=by rw[e2];exact ah
 clear e2;cbv;refine kP goa (by simp) (fun h2 e2=>?_);have l2:Le h1 h2:=fun b o hb=>by rw[e2,aU (fun e=>by rw[e,f2]at hb;cases hb)];exact l2a _ _ hb
 have go:h2 ob=some (.cells #[.int .i64 y.group] 3 (0,0)):=by rw[e2];exact ah
 have lT:=l1.trans l2;clear e2;cbv;refine ay go rfl rfl ?_;cbv;rw[fo];cbv;intro nb h3 f3 e3;have l3:Le h2 h3:=by rw[e3];exact Le.set f3
 have v3:Sl 34 (jl 59 aN) h3 (.slice (some ⟨nb,0,none⟩) 1 1) [rows]:=bX (s:=(jl 59 aN)) ((congrFun e3 nb).trans ah) ⟨_,rfl,qr.mono ((lT.trans l3).t _)⟩;have ae:=hk h3 nb (lT.trans l3) v3;clear e3 hk;cbv;exact ae
def BJ(n:Nat):cR:=⟨2,n,b0⟩
theorem BM{h:ad}{qp:Value}{rb:Option Addr}{rn rc:Nat}{eb:Option Addr}{en ec:Nat}
 {k:Value->ad->Prop} (hk:∀h' N,Le h h'->N=(rn:Int)->k (.tuple #[.agg #[.int .i64 2,.int .i64 N,.string b0],.int .i64 0]) h'):
 Ct 199 [qp,.agg #[.int .i64 1,.slice eb en ec],.slice rb rn rc] h k:=by
 obtain⟨A,hA⟩:=Ar.ex;obtain⟨N,hN⟩:∃N,A .nat rn=N:=⟨_,rfl⟩;have hN2:N=(rn:Int):=by rw[<-hN,hA.nat];rfl
 refine af A (ar WY.aw WY.aZ) Tryz.func199 rfl (by kernel_rfl) ?_;cbv;intro qb h1 f1 e1;have l1:Le h h1:=by rw[e1];exact Le.set f1
 clear e1;cbv;intro ib h2 f2 e2;have l2:Le h1 h2:=by rw[e2];exact Le.set f2
 have gi:h2 ib=some (.cells #[.int .i64 1,.slice eb en ec] 276 (0,0)):=by rw[e2];exact ah
 clear e2;cbv;intro vb h3 f3 e3;have l3:Le h2 h3:=by rw[e3];exact Le.set f3
 have gv:h3 vb=some (.cells #[.int .i64 0,.int .i64 0,.string ⟨#[]⟩] 61 (0,0)):=by rw[e3];exact ah
 have gi3:=l3 _ _ gi;clear e3;cbv;repeat (first| (rw[aj A,aj A];refine ay gi3 rfl rfl ?_;cbv) | (rw[aj A];refine ay gi3 rfl rfl ?_;cbv) | (refine ay gi3 rfl rfl ?_;cbv) | (refine⟨⟨_,rfl,rfl⟩,?_⟩;cbv))
 have f11:A .aD .eql 1 1=true:=by rw[av A];rfl
 rw[f11];cbv;rw[hN];refine kP gv (by simp) (fun h4 e4=>?_);have l4:Le h2 h4:=fun b o hb=>by rw[e4,aU (fun e=>by rw[e,f3]at hb;cases hb)];exact l3 _ _ hb
 have gv4:h4 vb=some (.cells #[.int .i64 2,.int .i64 N,.string b0] 61 (0,0)):=by rw[e4];exact ah
 clear e4;have ae:=hk h4 N ((l1.trans l2).trans l4) hN2;clear hk;cbv;repeat (first| (rw[aj A,aj A];refine ay gv4 rfl rfl ?_;cbv) | (rw[aj A];refine ay gv4 rfl rfl ?_;cbv) | (refine ay gv4 rfl rfl ?_;cbv) | (refine⟨⟨_,rfl,rfl⟩,?_⟩;cbv))
 exact ae
theorem LI{B h:ad}{ob:Nat}{l:Row}(qo:EE B h ob l)(hl:l.length<=2^30){qp qb gb:Nat}{rb:Option Addr}{rn rc:Nat}(gq:B qb=some (.cells #[.pointer (some ⟨qp,0,none⟩)] 186 (0,0)))(gg:B gb=some (.cells #[.slice rb rn rc] 34 (0,0))){eb:Option Addr}{en ec:Nat}
 {k:Value->ad->Prop} (hk:∀h',EE B h' ob (l++[BJ rn])->k (.int .i64 0) h'):
 Ct 198 [.agg #[.int .i64 1,.slice eb en ec],.pointer (some ⟨qb,0,none⟩),.pointer (some ⟨gb,0,none⟩),.pointer (some ⟨ob,0,none⟩)] h k:=by
 obtain⟨A,hA⟩:=Ar.ex;have l0:=qo.le;have fQ:=qo.no;obtain⟨b,n,c,go,SD⟩:=qo.out;have Bs:=SD.sl.len;have gq0:=l0 _ _ gq;have gg0:=l0 _ _ gg;refine af A (ar WZ.aw WZ.aZ) Tryz.func198 rfl (by kernel_rfl) ?_;cbv;repeat (first| (rw[aj A,aj A];refine ay gq0 rfl rfl ?_;cbv) | (rw[aj A];refine ay gq0 rfl rfl ?_;cbv) | (refine ay gq0 rfl rfl ?_;cbv) | (rw[aj A,aj A];refine ay gg0 rfl rfl ?_;cbv) | (rw[aj A];refine ay gg0 rfl rfl ?_;cbv) | (refine ay gg0 rfl rfl ?_;cbv) | (refine⟨⟨_,rfl,rfl⟩,?_⟩;cbv))
 refine BM (fun h1 N l1 hN=>?_);have Qs:=l1 _ _ go;cbv;repeat (first| (rw[aj A,aj A];refine ay Qs rfl rfl ?_;cbv) | (rw[aj A];refine ay Qs rfl rfl ?_;cbv) | (refine ay Qs rfl rfl ?_;cbv) | (refine⟨⟨_,rfl,rfl⟩,?_⟩;cbv))
 intro n2 h2 g2 e2;have l2:Le h1 h2:=by rw[e2];exact Le.set g2
 have v2:Sl 61 aY h2 (.slice (some ⟨n2,0,none⟩) 1 1) [BJ rn]:=bX (s:=aY) ((congrFun e2 n2).trans ah) (by rw[hN];rfl);have go2:=l2 _ _ Qs;clear e2;cbv;refine(SD.mono ((l1.trans l2).t _)).append v2 (by decide) rfl (by decide) (by omega) (l0.trans (l1.trans l2)) (fun m3 b3 c3 h3 Va l3 t3 k3 nk=>?_);have Qr:h3 ob=some (.cells #[.slice b n c] 59 (0,0)):=t3 [59] (by decide) _ _ _ _ (List.mem_singleton.2 rfl) go2;clear t3 k3 v2;cbv;refine kP Qr (by simp) (fun h4 e4=>?_);have ae:=hk h4 ⟨⟨b3,m3,c3,by rw[e4];exact ah,nk.mono (by rw[e4];exact cG.set Qr (by decide))⟩,fun b' o' oC=>by rw[e4,aU (fun e=>by rw[e,fQ]at oC;cases oC)];exact l3 _ _ oC,fQ⟩;clear hk e4;cbv;exact ae
theorem wM{cols:List bS}{gr:Int}{g:List Row}:∀ {is:List dq} {r:Row},(∀i∈is,i.fn=1)->wO cols gr g is r=(r++List.replicate is.length (BJ g.length),0)
 | [],r,_=>by show(r,0)=_;simp
 |i::is,r,h=>by
  have h1:Mv cols gr i g=(BJ g.length,0):=by unfold Mv;rw[if_pos (h i List.mem_cons_self)];rfl
  show(match Mv cols gr i g with
   | (v,e)=>if e≠0 then([],e)else wO cols gr g is (r++[v]))=_
  rw[h1];show(if(0:Int)≠0 then([],0)else wO cols gr g is (r++[BJ g.length]))=_;rw[if_neg (fun g=>g rfl),wM (fun j hj=>h j (List.mem_cons_of_mem _ hj))];simp[List.replicate_succ]
theorem LJ{h:ad}{qp:Nat}{x:aA}{cols:List bS}{y:Qy}(q:kL h qp x cols y)(hx:gy x)(hg:y.group<0)(Nz:∀i∈x.items,i.fn=1){rows:List Row}{rb:Option Addr}{rn rc:Nat}(qr:Sl 59 aN h (.slice rb rn rc) rows)
 {k:Value->ad->Prop} (hk:∀h' b n c,Le h h'->Sl 59 aN h' (.slice b n c) (ig x cols y.group rows).1->k (.tuple #[.slice b n c,.int .i64 (ig x cols y.group rows).2]) h'):
 Ct 103 [.pointer (some ⟨qp,0,none⟩),.slice rb rn rc] h k:=by
 obtain⟨A,hA⟩:=Ar.ex;have hP:ig x cols y.group rows=lZ x cols y.group (eX [rows] x.gX) []:=by unfold ig Cy;rw[if_pos hg]
 rw[hP]at hk;obtain⟨D,hD⟩:∃D,lZ x cols y.group (eX [rows] x.gX) []=D:=⟨_,rfl⟩;rw[hD]at hk;refine q.elim (fun b5 n5 c5 b6 n6 c6 b7 n7 c7 b8 n8 c8 b9 n9 c9 fJ iq fI cb cn cc g q1 q2 q3 q4 q5 q6 q7=>?_);clear q1 q2 q3 q4 q6 q7;refine af A (ar XU.aw XU.aZ) Tryz.func103 rfl (by kernel_rfl) ?_;cbv;intro qb h1 f1 e1;have l1:Le h h1:=by rw[e1];exact Le.set f1
 have gb:h1 qb=some (.cells #[.pointer (some ⟨qp,0,none⟩)] 186 (0,0)):=by rw[e1];exact ah
 have g1:=l1 _ _ g;have q1:=q.mono l1;clear e1;cbv;repeat (first| (rw[aj A,aj A];refine ay gb rfl rfl ?_;cbv) | (rw[aj A];refine ay gb rfl rfl ?_;cbv) | (refine ay gb rfl rfl ?_;cbv) | (rw[aj A,aj A];refine ay g1 rfl rfl ?_;cbv) | (rw[aj A];refine ay g1 rfl rfl ?_;cbv) | (refine ay g1 rfl rfl ?_;cbv) | (refine⟨⟨_,rfl,rfl⟩,?_⟩;cbv))
 refine LF q1 hg (qr.mono (l1.t _)) (fun h2 bg l2 qg=>?_);have HQ:=l2 _ _ gb;have g2:=l2 _ _ g1;cbv;repeat (first| (rw[aj A,aj A];refine ay HQ rfl rfl ?_;cbv) | (rw[aj A];refine ay HQ rfl rfl ?_;cbv) | (refine ay HQ rfl rfl ?_;cbv) | (rw[aj A,aj A];refine ay g2 rfl rfl ?_;cbv) | (rw[aj A];refine ay g2 rfl rfl ?_;cbv) | (refine ay g2 rfl rfl ?_;cbv) | (refine⟨⟨_,rfl,rfl⟩,?_⟩;cbv))
 refine GI qg x.gX (fun lb ln lc qm=>?_);obtain⟨M,hM⟩:∃M,eX [rows] x.gX=M:=⟨_,rfl⟩;rw[hM]at qm hD;have hMl:M.length<=1:=by
  rw[<-hM];unfold eX;split
  ·exact Nat.le_refl _
  ·rw[List.length_take];exact Nat.min_le_right _ _
 have ym:=qm.len;have lT:=l1.trans l2;replace q5:=q5.mono (lT.t _);have K4:=q5.len;have jG:=hx.ilen;obtain⟨I2,bm⟩:∃I:Nat->(Int×Option Addr×Nat×Nat)->ad->Prop,∀m g h',I m g h'=∃i out,aO g.1 i/\i<=ln/\m=ln-i/\Le h2 h'/\out.length=i/\cS 59 aN h2 h' (.slice g.2.1 g.2.2.1 g.2.2.2) out/\lZ x cols y.group (M.drop i) out=D:=⟨_,fun _ _ _=>rfl⟩;have hJ:I2 ln (0,none,0,0) h2:=by rw[bm];exact⟨0,[],⟨rfl⟩,Nat.zero_le _,rfl,Le.refl _,rfl,cS.nil,hD⟩
 clear hM hD qg q1 q qr;cbv;repeat (refine⟨⟨_,rfl,rfl⟩,?_⟩;cbv)
 refine aX.go (G:=Int×Option Addr×Nat×Nat) (fun g=>[(21,.v (.int .i64 g.1)),(6,.v (.slice g.2.1 g.2.2.1 g.2.2.2))]) (fun _=>[]) (fun m g h'=>I2 m g h') ln (0,none,0,0) ⟨?_,?_,?_⟩ hJ ?_
 ·cbv
 ·cbv
 ·cbv
 ·intro m2 gg h4 hI;rw[bm]at hI;cbv;obtain⟨j,out,hw,hj,vj,rC,hol,qo,hD⟩:=hI;obtain⟨w,bo,no,co⟩:=gg;replace hw:aO w j:=hw;replace qo:cS 59 aN h2 h4 (.slice bo no co) out:=qo;have f2:A .aD .lss w (A .nat ln)=decide (j<ln):=hw.gK (aO.nat ln);have qm4:=qm.mono (rC.t _);have fQ:=qo.sl.len;cbv;rw[f2];by_cases Ub:j<ln
  ·obtain⟨r,hrx⟩:=aE (xs:=M) (i:=j) (by omega);have oV:0<=w/\w<(ln:Int):=hw.ix Ub;have hwe:=hw.eq;have hwx:=hw.succ (A:=A) (by omega);have K6:ln-(j+1)<m2:=by omega
   have Cv:M.drop j=r::M.drop (j+1):=by obtain⟨h1,h2⟩:=List.getElem?_eq_some_iff.1 hrx;rw[List.drop_eq_getElem_cons h1,h2]
   obtain⟨RV,hRV⟩:∃RV,RV=List.replicate x.items.length (BJ r.length):=⟨_,rfl⟩;rw[Cv]at hD;replace hD:(match wO cols y.group r x.items []with
    | (r,e)=>if e≠0 then([],e)else lZ x cols y.group (M.drop (j+1)) (out++[r]))=D:=hD
   rw[wM Nz,List.nil_append,<-hRV]at hD;replace hD:(if(0:Int)≠0 then([],0)else lZ x cols y.group (M.drop (j+1)) (out++[RV]))=D:=hD;rw[if_neg (fun g=>g rfl)]at hD;have Cx:∀h5 b5 m5 c5,Le h2 h5->m5=no+1->cS 59 aN h2 h5 (.slice b5 m5 c5) (out++[RV])->I2 (ln-(j+1)) (A .bu .add .i64 w 1,b5,m5,c5) h5:=fun h5 b5 m5 c5 l5 YX o5=>by
    rw[bm];exact⟨j+1,out++[RV],hwx,Ub,rfl,l5,by rw[List.length_append,List.length_singleton,hol],o5,hD⟩
   have hsm2:=qm4.bF (by omega:0<ln);have g4:=rC _ _ g2;have US:=rC _ _ HQ;clear bm hJ hwx;rw[decide_eq_true Ub];cbv;refine⟨⟨hsm2,oV⟩,?_⟩;cbv;refine rA qm4 hrx hwe (fun br nr cr qrow=>?_);have hnr:=qrow.len;cbv;intro gx h5a f5 e5;have l5a:Le h4 h5a:=by rw[e5];exact Le.set f5
   have ggxa:h5a gx=some (.cells #[.slice none 0 0] 34 (0,0)):=by rw[e5];exact ah
   clear e5;cbv;refine kP ggxa (by simp) (fun h5 e5=>?_);have l5:Le h4 h5:=fun b o hb=>by rw[e5,aU (fun e=>by rw[e,f5]at hb;cases hb)];exact l5a _ _ hb
   have ggx:h5 gx=some (.cells #[.slice br nr cr] 34 (0,0)):=by rw[e5];exact ah
   clear e5;cbv;intro ox h6 f6 e6;have l6:Le h5 h6:=by rw[e6];exact Le.set f6
   have gox:h6 ox=some (.cells #[.slice none 0 0] 59 (0,0)):=by rw[e6];exact ah
   have l6B:Le h5 (Sx.cQ h6 ox):=fun b o hb=>by
    rw[Sx.eF (fun e=>by rw[e,f6]at hb;cases hb)];exact l6 _ _ hb
   clear e6;obtain⟨B,hB⟩:∃B,B=Sx.cQ h6 ox:=⟨_,rfl⟩;rw[<-hB]at l6B;have hB6:Le B h6:=by rw[hB];exact Sx.fh h6 ox
   have UH:B ox=none:=by rw[hB];exact Sx.dP h6 ox
   have l4B:Le h4 B:=l5.trans l6B;obtain⟨J,fD⟩:∃J:Nat->ad->Prop,∀i h',J i h'=EE B h' ox (List.replicate i (BJ r.length)):=⟨_,fun _ _=>rfl⟩;have hJ1:J 0 h6:=by rw[fD];exact⟨⟨none,0,0,gox,cS.nil⟩,hB6,UH⟩
   have g6:=l5.trans l6 _ _ g4;have gb6:=l5.trans l6 _ _ US;have q54:=q5.mono (rC.t _);clear hB;cbv;repeat (first| (rw[aj A,aj A];refine ay gb6 rfl rfl ?_;cbv) | (rw[aj A];refine ay gb6 rfl rfl ?_;cbv) | (refine ay gb6 rfl rfl ?_;cbv) | (rw[aj A,aj A];refine ay g6 rfl rfl ?_;cbv) | (rw[aj A];refine ay g6 rfl rfl ?_;cbv) | (refine ay g6 rfl rfl ?_;cbv) | (refine⟨⟨_,rfl,rfl⟩,?_⟩;cbv))
   refine zR K4 J hJ1 (fun i h' hI=>?_) (fun i it h' b1 n1 c1 hi Lb hI hv=>?_) (fun h' hI=>?_)
   ·rw[fD]at hI;exact q54.mono ((l4B.trans hI.le).t _)
   ·rw[fD]at hI;rw[Nz it (List.mem_of_getElem? Lb)];refine LI hI (by rw[List.length_replicate];omega) (l4B _ _ US) (l6B _ _ ggx) (fun h7 q7=>⟨0,rfl,fun _=>?_,fun h0=>absurd rfl h0⟩);rw[hnr,<-List.replicate_succ']at q7;rw[fD];exact q7
   ·rw[fD]at hI;obtain⟨b7,n7,c7,g7,qb7⟩:=hI.out;have l7:Le h4 h':=l4B.trans hI.le;have fe:A .aD .neq 0 0=false:=by rw[aC A];rfl
    rw[K4,<-hRV]at qb7;cbv;rw[fe];cbv;repeat (first| (rw[aj A,aj A];refine ay g7 rfl rfl ?_;cbv) | (rw[aj A];refine ay g7 rfl rfl ?_;cbv) | (refine ay g7 rfl rfl ?_;cbv) | (refine⟨⟨_,rfl,rfl⟩,?_⟩;cbv))
    refine(wG qb7.sl).mono (fun v8 h8 hR=>?_);obtain⟨l8,b8,c8,hv8,qv8⟩:=hR;subst hv8;cbv;intro nb9 h9 f9 e9;have l9:Le h8 h9:=by rw[e9];exact Le.set f9
    have v9:Sl 59 aN h9 (.slice (some ⟨nb9,0,none⟩) 1 1) [RV]:=bX (s:=aN) ((congrFun e9 nb9).trans ah) ⟨_,rfl,qv8.sl.mono (l9.t _)⟩;clear e9;cbv;refine(qo.mono ((l7.trans (l8.trans l9)).t _)).append v9 (by decide) rfl (by decide) (by omega) (rC.trans (l7.trans (l8.trans l9))) (fun RA fJ fI lz QV lS t10 Pc xS=>?_);clear t10 Pc v9;have ae:=Cx lz fJ RA fI lS QV xS;clear Cx hk fD hJ1;cbv;refine⟨ln-(j+1),(A .bu .add .i64 w 1,fJ,RA,fI),K6,⟨?_,?_,?_⟩,ae⟩
    ·cbv
    ·cbv
    ·cbv
  ·have Jl:j=ln:=by omega
   rw[List.drop_of_length_le (by omega)]at hD;replace hD:(out,0)=D:=hD;subst hD;clear bm hJ;rw[decide_eq_false Ub];cbv;refine(L5 qo.sl).mono (fun v5 h5 hR=>?_);obtain⟨l5,b5,c5,hv5,qv5⟩:=hR;subst hv5;have ae:=hk h5 b5 no c5 (lT.trans (rC.trans l5)) qv5.sl;clear hk;cbv;exact ae
end Go.S
