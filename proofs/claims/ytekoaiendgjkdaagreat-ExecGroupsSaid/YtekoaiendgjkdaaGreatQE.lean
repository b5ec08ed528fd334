import Derived.Test.YtekoaiendgjkdaaGreatQD
import Derived.Test.YtekoaiendgjkdaaGreatQC
set_option linter.unusedVariables false
set_option linter.unusedSimpArgs false
set_option linter.unusedSectionVars false
set_option maxRecDepth 100000
set_option maxHeartbeats 8000000
namespace Go.S
open Go.Sx Go.Proofs
theorem eJX{h:ad}{pb:Nat}{d:DB}{s:Int}{st:aJ}(q:fM h pb d s st){n:Nat}(ok:ue n d)(jm:n<2^18){wb:Nat}(gw:h wb=some (.cells #[.pointer (some ⟨pb,0,none⟩)] 99 (0,0)))(nm:ByteArray){k:Value->ad->Prop}
 (hk:∀h',Kp [pb] h h'->fM h' pb (aL d ⟨s,nm,false⟩).1 s st->k (.int .i64 (aL d ⟨s,nm,false⟩).2) h'):Ct 98 [.string nm,.pointer (some ⟨wb,0,none⟩)] h k:=by
 obtain⟨A,hA⟩:=Ar.ex;refine ah A (ax jJS.aK jJS.bF) Tryz.func98 rfl (by kernel_rfl) ?_;cbv;refine aB gw rfl rfl ?_;cbv;refine UP q ok jm nm false (fun h1 k1 q1=>?_);have af:=hk h1 k1 q1;generalize (aL d ⟨s,nm,false⟩).2=e at *;clear hk;cbv;exact af
def fH(s:Int):List ByteArray->DB->DB×Int:=CV fun d nm=>aL d ⟨s,nm,false⟩
theorem MM{s:Int}(hs:-2^63<=s/\s<2^63):∀ {l:List ByteArray} {n:Nat} {d:DB},EJ n d->EJ (n+l.length) (fH s l d).1
 | [],n,d,h=>h
 |x::r,n,d,h=>by
  have h1:=h.hold ⟨s,x,false⟩ hs;show EJ _ (CV (fun d nm=>aL d ⟨s,nm,false⟩) (x::r) d).1;rw[Bh];generalize aL d ⟨s,x,false⟩=H at *;obtain⟨d1,e⟩:=H;show EJ _ (if e≠0 then(d1,e)else fH s r d1).1;by_cases h0:e≠0
  ·rw[if_pos h0];exact EJ.le h1 (by simp only[mQx];omega)
  ·rw[if_neg h0];exact(MM hs h1).le (by simp only[mQx];omega)
theorem PN{h:ad}{pb:Nat}{d:DB}{s:Int}{st:aJ}(q:fM h pb d s st){n:Nat}(ej:EJ n d){names:List ByteArray}(jm:n+names.length+2<2^18)(jx:-2^63<=s/\s<2^63){wb:Nat}(gw:h wb=some (.cells #[.pointer (some ⟨pb,0,none⟩)] 99 (0,0)))(nw:wb≠pb)
 {b:Option Addr} {n1 c1:Nat} (qn:Sl 9 dX h (.slice b n1 c1) names) {k:Value->ad->Prop}
 (hk:∀h',Kp [pb] h h'->fM h' pb (fH s names d).1 s st->k (.int .i64 (fH s names d).2) h'):
 Ct 99 [.slice b n1 c1,.func (.func 98) #[] #[.pointer (some ⟨wb,0,none⟩)]] h k:=by
 have hn:=qn.len;obtain⟨D,hD⟩:∃D,fH s names d=D:=⟨_,rfl⟩;rw[hD]at hk;obtain⟨I,aY⟩:∃I:Nat->ad->Prop,∀i h',I i h'=∃d',fM h' pb d' s st/\EJ (n+i) d'/\Kp [pb] h h'/\fH s (names.drop i) d'=D:=⟨_,fun _ _=>rfl⟩;have hJ:I 0 h:=by rw[aY];exact⟨d,q,ej,Kp.refl _ _,hD⟩
 refine bQt hn I hJ (fun i h' hI=>?_) (fun i x h' hi hx hI _=>?_) (fun h' hI=>?_)
 ·rw[aY]at hI;obtain⟨d',q',Ut,kp,-⟩:=hI;exact qn.mono (q.kp kp (by decide))
 ·rw[aY]at hI;obtain⟨d',q',Ut,kp,he⟩:=hI;have hd:names.drop i=x::names.drop (i+1):=by obtain⟨h1,h2⟩:=HH.1 hx;rw[mQy h1,h2]
  rw[hd]at he;replace he:(match aL d' ⟨s,x,false⟩with
   | (d2,e)=>if e≠0 then(d2,e)else fH s (names.drop (i+1)) d2)=D:=he
  have eQG:=Ut.hold ⟨s,x,false⟩ jx;refine eJX q' Ut.sj.Ko (by omega) (kp _ _ gw (by simpa using nw)) x (fun h2 k2 q2=>⟨_,rfl,fun h0=>?_,fun h0=>?_⟩)
  ·generalize aL d' ⟨s,x,false⟩=E at *;obtain⟨d2,e⟩:=E;replace he:(if e≠0 then(d2,e)else fH s (names.drop (i+1)) d2)=D:=he;rw[if_neg (fun g=>g h0)]at he;rw[aY];exact⟨d2,q2,eQG,kp.trans k2,he⟩
  ·generalize aL d' ⟨s,x,false⟩=E at *;obtain⟨d2,e⟩:=E;replace he:(if e≠0 then(d2,e)else fH s (names.drop (i+1)) d2)=D:=he;rw[if_pos h0]at he;subst he;exact hk h2 (kp.trans k2) q2
 ·rw[aY]at hI;obtain⟨d',q',Ut,kp,he⟩:=hI;rw[mQR (by omega)]at he;replace he:(d',0)=D:=he;subst he;exact hk h' kp q'
def cQ(st:aJ):List ByteArray:=if st.join=b0 then [st.table]else [st.table,st.join]
def gI(d:DB)(st:aJ):List cK:=aR (cI d st.table)++(if st.join=b0 then []else aR (cI d st.join))
def LV(d:DB)(st:aJ):List Row:=if st.join=b0 then [[]]else(cI d st.join).rows
theorem He(d:DB)(s:Int)(st:aJ):gH d s st=if st.join=st.table then(d,[],7)else if(fH s (cQ st) d).2≠0 then((fH s (cQ st) d).1,[],(fH s (cQ st) d).2)else
 ((fH s (cQ st) d).1,jI st (gI (fH s (cQ st) d).1 st) (cI (fH s (cQ st) d).1 st.table).rows (LV (fH s (cQ st) d).1 st)):=by
 unfold gH;by_cases h0:st.join=st.table
 ·rw[if_pos h0,if_pos h0]
 ·rw[if_neg h0,if_neg h0];by_cases hj:st.join=b0
  ·have hn:cQ st=[st.table]:=by unfold cQ;rw[if_pos hj]
   rw[hn];have hh:fH s [st.table] d=if(aL d ⟨s,st.table,false⟩).2≠0 then aL d ⟨s,st.table,false⟩else((aL d ⟨s,st.table,false⟩).1,0):=by
    show(match aL d ⟨s,st.table,false⟩with
     | (d',e)=>if e≠0 then(d',e)else(d',0))=_
    generalize aL d ⟨s,st.table,false⟩=H;obtain⟨d1,e⟩:=H;rfl
   rw[hh];generalize aL d ⟨s,st.table,false⟩=H;obtain⟨d1,e⟩:=H;by_cases he:e≠0
   ·simp only[he,if_true,ne_eq,not_false_eq_true]
   ·have he:e=0:=mQW.1 he;subst he;simp only[hj,if_true,ne_eq,not_true_eq_false,if_false,gI,LV,mQF]
  ·have hn:cQ st=[st.table,st.join]:=by unfold cQ;rw[if_neg hj]
   rw[hn];have hh:fH s [st.table,st.join] d=if(aL d ⟨s,st.table,false⟩).2≠0 then aL d ⟨s,st.table,false⟩else if(aL (aL d ⟨s,st.table,false⟩).1 ⟨s,st.join,false⟩).2≠0 then aL (aL d ⟨s,st.table,false⟩).1 ⟨s,st.join,false⟩else((aL (aL d ⟨s,st.table,false⟩).1 ⟨s,st.join,false⟩).1,0):=by
    show(match aL d ⟨s,st.table,false⟩with
     | (d',e)=>if e≠0 then(d',e)else match aL d' ⟨s,st.join,false⟩with
      | (d',e)=>if e≠0 then(d',e)else(d',0))=_
    generalize aL d ⟨s,st.table,false⟩=H;obtain⟨d1,e⟩:=H;show(if e≠0 then(d1,e)else match aL d1 ⟨s,st.join,false⟩with
     | (d',e)=>if e≠0 then(d',e)else(d',0))=_
    generalize aL d1 ⟨s,st.join,false⟩=H2;obtain⟨d2,e2⟩:=H2;rfl
   rw[hh];generalize aL d ⟨s,st.table,false⟩=H;obtain⟨d1,e⟩:=H;by_cases he:e≠0
   ·simp only[he,if_true,ne_eq,not_false_eq_true]
   ·have he:e=0:=mQW.1 he;subst he;simp only[ne_eq,not_true_eq_false,if_false,hj];generalize aL d1 ⟨s,st.join,false⟩=H2;obtain⟨d2,e2⟩:=H2;by_cases he:e2≠0
    ·simp only[he,if_true,ne_eq,not_false_eq_true]
    ·have he:e2=0:=mQW.1 he;subst he;simp only[hj,if_false,ne_eq,not_true_eq_false,gI,LV]
theorem aZC{x:aJ}{cols:List cK}{a b:Row}{out:List Row}:∀r∈(vV x cols a b out).1,r∈out\/r=a++b:=by
 intro r hr;unfold vV at hr;generalize dt x.on cols (a++b)=H at hr;obtain⟨on,e⟩:=H;generalize dt x.bV cols (a++b)=H2 at hr;obtain⟨is,e2⟩:=H2;replace hr:r∈(if e≠0 then(out,e)else if on=false then(out,0)else(if e2≠0 then(out,e2)else(if is=true then out++[a++b]else out,0)):List Row×Int).1:=hr;split at hr
 ·exact .inl hr
 ·split at hr
  ·exact .inl hr
  ·split at hr
   ·exact .inl hr
   ·have hr:r∈(if is=true then out++[a++b]else out):=hr;split at hr
    ·rcases mQv.1 hr with h|h
     ·exact .inl h
     ·exact .inr (by simpa using h)
    ·exact .inl hr
theorem Km{x:aJ}{cols:List cK}{a:Row}:∀ {bs out:List Row},∀r∈(gX x cols a bs out).1,r∈out\/∃b∈bs,r=a++b
 | [],out,r,h=>.inl h
 |b::bs,out,r,h=>by
  rw[xH]at h;have h1:∀r∈(vV x cols a b out).1,r∈out\/∃c∈b::bs,r=a++c:=fun r hr=>by
   rcases aZC r hr with g|g
   ·exact .inl g
   ·exact .inr ⟨b,mQE,g⟩
  split at h
  ·exact h1 r h
  ·rcases Km r h with g| ⟨c,g1,g2⟩
   ·exact h1 r g
   ·exact .inr ⟨c,mQQ _ g1,g2⟩
theorem AS{x:aJ}{cols:List cK}{bs:List Row}:∀ {as_ out:List Row},∀r∈(cT x cols bs as_ out).1,r∈out\/∃a∈as_,∃b∈bs,r=a++b
 | [],out,r,h=>.inl h
 |a::as_,out,r,h=>by
  rw[xI]at h;have h1:=Km (x:=x) (cols:=cols) (a:=a) (bs:=bs) (out:=out);generalize gX x cols a bs out=E at *;obtain⟨o,e⟩:=E;replace h:r∈(if e≠0 then(o,e)else cT x cols bs as_ o).1:=h;have h2:∀r∈o,r∈out\/∃a'∈a::as_,∃b∈bs,r=a'++b:=fun r hr=>by
   rcases h1 r hr with g| ⟨b,g1,g2⟩
   ·exact .inl g
   ·exact .inr ⟨a,mQE,b,g1,g2⟩
  split at h
  ·exact h2 r h
  ·rcases AS r h with g| ⟨a',g1,g2⟩
   ·exact h2 r g
   ·exact .inr ⟨a',mQQ _ g1,g2⟩
theorem AT{x:aJ}{cols:List cK}{bs:List Row}:∀ {as_ out:List Row},(cT x cols bs as_ out).1.length<=out.length+as_.length*bs.length
 | [],out=>by show out.length<=_;omega
 |a::as_,out=>by
  rw[xI];have h1:=AQ (x:=x) (cols:=cols) (a:=a) (bs:=bs) (out:=out);generalize gX x cols a bs out=E at *;obtain⟨o,e⟩:=E;show(if e≠0 then(o,e)else cT x cols bs as_ o).1.length<=_;have hm:(a::as_).length*bs.length=as_.length*bs.length+bs.length:=by rw[mQx];exact mXu _ _
  have h1:o.length<=out.length+bs.length:=h1;split
  ·show o.length<=_;omega
  ·have:=AT (x:=x) (cols:=cols) (bs:=bs) (as_:=as_) (out:=o);omega
theorem VE{A:Ar}[hA:bM A]{z w:Int}{i j:Nat}(hz:aS z i)(hw:aS w j)(hi:i<=2^20)(hj:j<=2^20):A .aI .gtr (A .bB .mul .i64 z w) 4000=decide (i*j>4000):=by
 have h1:=hz.eq;have h2:=hw.eq;have hm:i*j<=2^20*2^20:=mZN hi hj;have he:z*w=((i*j:Nat):Int):=by rw[h1,h2];exact(mJo i j).symm
 have hr:A .bB .mul .i64 z w=((i*j:Nat):Int):=by rw[hA.bB];simp only[bB];rw[he,IntWalk.i64_in _ (by omega)]
 rw[hr,bO A];apply decide_eq_decide.2;omega
def eXB(x:aJ)(y:Qy):Prop:=∀ {h0 h:ad} {qp:Nat} {cols:List cK} (q:oC h qp x cols y) (hx:dr x) (hc:∀c∈cols,Nm c.name) {rows:List Row} (hr:∀r∈rows,fS r) (mF:rows.length<=2^20) (hf:dp x cols=(y,0)) (hw:∀r∈rows,cols.length<=r.length) {rb:Option Addr} {rn rc:Nat} (l0:Le h0 h) (qr:cF 59 aD h0 h (.slice rb rn rc) rows)
 {k:Value->ad->Prop} (hk:∀h' b n c,Le h0 h'->Sl 59 aD h' (.slice b n c) (eJ x cols y.order rows).1->k (.tuple #[.slice b n c,.int .i64 (eJ x cols y.order rows).2]) h'),Ct 102 [.pointer (some ⟨qp,0,none⟩),.slice rb rn rc] h k
def Rp(x:aJ)(y:Qy):Prop:=∀ {h0 h:ad} {qp:Nat} {cols:List cK} (q:oC h qp x cols y) (hx:dr x) (hc:∀c∈cols,Nm c.name) {rows:List Row} (hr:∀r∈rows,fS r) (mF:rows.length<=2^20) (hf:dp x cols=(y,0)) (hw:∀r∈rows,cols.length<=r.length) {rb:Option Addr} {rn rc:Nat} (l0:Le h0 h) (qr:cF 59 aD h0 h (.slice rb rn rc) rows)
 {k:Value->ad->Prop} (hk:∀h' b n c,Le h0 h'->Sl 59 aD h' (.slice b n c) (dw x cols y.group rows).1->k (.tuple #[.slice b n c,.int .i64 (dw x cols y.group rows).2]) h'),Ct 103 [.pointer (some ⟨qp,0,none⟩),.slice rb rn rc] h k
def cJg(d:DB)(s:Int)(st:aJ):Prop:=∀ {h:ad} {pb:Nat} (q:fM h pb d s st) (hx:dr st) {n:Nat} (ej:EJ n d) (jm:n+700<2^18) (jx:-2^63<=s/\s<2^63) {k:Value->ad->Prop}
 (hk:∀h' b n c,Kp [pb] h h'->fM h' pb (gH d s st).1 s st->Sl 59 aD h' (.slice b n c) (gH d s st).2.1->k (.tuple #[.slice b n c,.int .i64 (gH d s st).2.2]) h'),Ct 44 [.pointer (some ⟨pb,0,none⟩)] h k
def cZJ(d:DB)(s:Int)(st:aJ):Prop:=∀ {h:ad} {pb:Nat} (q:fM h pb d s st) (hx:dr st) {n:Nat} (ej:EJ n d) (jm:n+700<2^18) (jx:-2^63<=s/\s<2^63) {k:Value->ad->Prop}
 (hk:∀h',Kp [pb] h h'->fM h' pb (kj d s st).1 s st->k (.tuple #[.slice none 0 0,.int .i64 (kj d s st).2.2]) h'),Ct 42 [.pointer (some ⟨pb,0,none⟩)] h k
def cJi(d:DB)(s:Int)(st:aJ):Prop:=∀ {h:ad} {pb:Nat} (q:fM h pb d s st) (hx:dr st) {n:Nat} (ej:EJ n d) (jm:n+700<2^18) (jx:-2^63<=s/\s<2^63) {k:Value->ad->Prop}
 (hk:∀h',Kp [pb] h h'->fM h' pb (jt d s st).1 s st->k (.tuple #[.slice none 0 0,.int .i64 (jt d s st).2.2]) h'),Ct 43 [.pointer (some ⟨pb,0,none⟩)] h k
structure iE(d:DB)(s:Int)(st:aJ):Prop where
 kXJ:st.kind=6->cJg d s st
 Bz:st.kind=4->cZJ d s st
 del:st.kind=5->cJi d s st
def cJf(d:DB)(s:Int)(st:aJ):Prop:=∀y,dp st (gI (fH s (cQ st) d).1 st)=(y,0)->(y.kK=true->Rp st y)/\(y.kK=false->eXB st y)
theorem iE.no{d:DB}{s:Int}{st:aJ}(h:st.kind≠6)(h4:st.kind≠4)(h5:st.kind≠5):iE d s st:=⟨fun e=>absurd e h,fun e=>absurd e h4,fun e=>absurd e h5⟩
theorem iE.Kq{d:DB}{s:Int}{st:aJ}(h:st.kind=6)(hs:cJg d s st):iE d s st:=⟨fun _=>hs,fun e=>absurd (e.symm.trans h) (by decide),fun e=>absurd (e.symm.trans h) (by decide)⟩
theorem hZE{h:ad}{pb:Nat}{d:DB}{s:Int}{st:aJ}(q:fM h pb d s st)(hx:dr st)(hj:st.join=b0){n:Nat}(ej:EJ n d)(jm:n+700<2^18)(jx:-2^63<=s/\s<2^63)
 (NG:∀y,dp st (gI (fH s (cQ st) d).1 st)=(y,0)->(y.kK=true->Rp st y)/\(y.kK=false->eXB st y)) {k:Value->ad->Prop}
 (hk:∀h' b n c,Kp [pb] h h'->fM h' pb (gH d s st).1 s st->Sl 59 aD h' (.slice b n c) (gH d s st).2.1->k (.tuple #[.slice b n c,.int .i64 (gH d s st).2.2]) h'):
 Ct 44 [.pointer (some ⟨pb,0,none⟩)] h k:=by
 obtain⟨A,hA⟩:=Ar.ex;have hP:=He d s st;generalize gH d s st=D at *;obtain⟨c,hp⟩:=q.has;have iJi:A .iQ .eql st.join st.table=decide (st.join=st.table):=cS A ..;have fj:A .iQ .eql st.join ⟨#[]⟩=decide (st.join=b0):=cS A ..;have iJj:A .iQ .neq st.join ⟨#[]⟩=decide (st.join≠b0):=Gb A ..;refine q.elim (fun b1 n1 c1 b2 n2 c2 b3 n3 c3 b4 n4 c4 b5 n5 c5 b6 n6 c6 b7 n7 c7 b8 n8 c8 b9 n9 c9 gW jD gT g qd q1 q2 q3 q4 q5 q6=>?_);clear qd q1 q2 q3 q4 q5 q6;refine ah A (ax hQh.aK hQh.bF) Tryz.func44 rfl (by kernel_rfl) ?_;cbv;intro wb h1 gn e1;have l1:Le h h1:=by rw[e1];exact Le.set gn
 have sq:h1 wb=some (.cells #[.pointer (some ⟨pb,0,none⟩)] 99 (0,0)):=by rw[e1];exact ae
 have nw:wb≠pb:=fun e=>by rw[e,hp]at gn;cases gn
 have g1:=l1 _ _ g;clear e1;cbv;repeat (first| ((try rw[ai A]);(try rw[ai A]);(first|refine aB sq rfl rfl ?_|refine aB g1 rfl rfl ?_);cbv) | (refine⟨⟨_,rfl,rfl⟩,?_⟩;cbv))
 rw[iJi];by_cases aKG:st.join=st.table
 ·rw[if_pos aKG]at hP;subst hP;have af:=hk h1 none 0 0 (l1.kp _) (q.mono l1) Sl.nil;clear hk;rw[kS aKG];cbv;exact af
 rw[if_neg aKG]at hP;rw[nM aKG];cbv;repeat (first| ((try rw[ai A]);(try rw[ai A]);(first|refine aB sq rfl rfl ?_|refine aB g1 rfl rfl ?_);cbv) | (refine⟨⟨_,rfl,rfl⟩,?_⟩;cbv))
 intro nb h2 f2 e2;have l2:Le h1 h2:=by rw[e2];exact Le.set f2
 have qn:Sl 9 dX h2 (.slice (some ⟨nb,0,none⟩) 2 2) [st.table,st.join]:=by
  refine Sl.fresh (s:=dX) (h:=h2) (n:=nb) (xs:=[st.table,st.join]) (cap:=2) (c:=[.string st.table,.string st.join]) (by rw[e2];exact ae) ⟨mQt 2,fun i x hx=>?_⟩ (by show 2<=_;omega) (mQt 2)
  match i,hx with
  |0,hx=>cases hx;rfl
  |1,hx=>cases hx;rfl
  |i+2,hx=>simp at hx
 have jZ:=l1.trans l2;have rz:=l2 _ _ sq;have g2:=l2 _ _ g1;have q2:=q.mono jZ;clear e2 g1 sq;cbv;repeat (first| ((try rw[ai A]);(try rw[ai A]);(first|refine aB rz rfl rfl ?_|refine aB g2 rfl rfl ?_);cbv) | (refine⟨⟨_,rfl,rfl⟩,?_⟩;cbv))
 rw[fj];rw[kS hj];have lG:cQ st=[st.table]:=by unfold cQ;rw[if_pos hj]
 have yU:A .su 1 0=1:=by rw[hA.su];rfl
 have jQd:Sl 9 dX h2 (.slice (A .cut (some ⟨nb,0,none⟩) 0 (A .nat 2) 1) 1 2) [st.table]:=by have:=qn.sU (A:=A) (z:=A .nat 2) (i:=1) (by omega) rfl rfl;exact Sl.Vp this (by omega)
 cbv;refine⟨by decide,?_⟩;cbv;rw[yU];have Al:(cQ st).length=1:=by rw[lG];rfl
 obtain⟨NB,iZf⟩:∃NB,A .cut (some ⟨nb,0,none⟩) 0 (A .nat 2) 1=NB:=⟨_,rfl⟩;have eKk:Sl 9 dX h2 (.slice NB 1 2) (cQ st):=by rw[<-iZf,lG];exact jQd
 rw[iZf];clear iZf jQd;cbv;refine PN q2 ej (by rw[Al];omega) jx rz nw eKk (fun h3 k3 q3=>?_);have bJb:=MM jx (l:=cQ st) ej;rw[Al]at bJb;generalize fH s (cQ st) d=H at *;obtain⟨d1,e⟩:=H;replace q3:fM h3 pb d1 s st:=q3;replace bJb:EJ (n+1) d1:=bJb;replace hP:D=if e≠0 then(d1,[],e)else(d1,jI st (gI d1 st) (cI d1 st.table).rows (LV d1 st)):=hP
 replace NG:∀y,dp st (gI d1 st)=(y,0)->(y.kK=true->Rp st y)/\(y.kK=false->eXB st y):=NG;have fe:A .aI .neq e 0=decide (e≠0):=aC A ..;have Px:Kp [pb] h h3:=(jZ.kp _).trans k3;have Bf:=k3 _ _ rz (by simpa using nw);clear q2 qn eKk rz g2;by_cases h0:e≠0
 ·rw[if_pos h0]at hP;subst hP;have af:=hk h3 none 0 0 Px q3 Sl.nil;clear hk;cbv;rw[fe,kS h0];cbv;exact af
 rw[if_neg h0]at hP;have JE:=bJb.held st.table;have aKm:gI d1 st=aR (cI d1 st.table)++[]:=by unfold gI;rw[if_pos hj]
 have KF:LV d1 st=[[]]:=by unfold LV;rw[if_pos hj]
 rw[aKm,KF]at hP;rw[aKm]at NG;refine q3.elim (fun bXI aZZ bXn bXH aZX bXm bXG aZW bXl bXF aZV bXk Xh VD WZ Xg VC WY Xf Rv WX UC Ny NS Xe VB WW Dp BX Dm g3 dXY p1 p2 p3 p4 p5 p6=>?_);clear dXY;cbv;rw[fe,nM h0];cbv;repeat (first| ((try rw[ai A]);(try rw[ai A]);(first|refine aB Bf rfl rfl ?_|refine aB g3 rfl rfl ?_);cbv) | (refine⟨⟨_,rfl,rfl⟩,?_⟩;cbv))
 intro qp h4 f4 e4;have l4:Le h3 h4:=by rw[e4];exact Le.set f4
 have q4:oC h4 qp st [] ⟨-1,-1,false⟩:=⟨⟨Xh,VD,WZ,Xg,VC,WY,Xf,Rv,WX,UC,Ny,NS,Xe,VB,WW,Dp,BX,Dm,none,0,0,by rw[e4];exact ae,p1.mono (l4.t _),p2.mono (l4.t _),p3.mono (l4.t _),p4.mono (l4.t _),p5.mono (l4.t _),p6.mono (l4.t _),Sl.nil⟩⟩;have g4:=l4 _ _ g3;have Ji:=l4 _ _ Bf;clear p1 p2 p3 p4 p5 p6 e4;cbv;repeat (first| ((try rw[ai A]);(try rw[ai A]);(first|refine aB Ji rfl rfl ?_|refine aB g4 rfl rfl ?_);cbv) | (refine⟨⟨_,rfl,rfl⟩,?_⟩;cbv))
 refine EZ (q3.mono l4) st.table (fun T t1 u1 w1 t2 u2 w2 hT s1 s2=>?_);rw[<-hT]at JE hP NG;clear hT aKm;cbv;repeat (refine⟨⟨_,rfl,rfl⟩,?_⟩;cbv)
 intro Ad h5 f5 e5;have l5:Le h4 h5:=by rw[e5];exact Le.set f5
 have s5:Sl 59 aD h5 (.slice (some ⟨Ad,0,none⟩) 1 1) [[]]:=bA (s:=aD) ((congrFun e5 Ad).trans ae) ⟨_,rfl,Sl.nil⟩;have g5:=l5 _ _ g4;have As:=l5 _ _ Ji;clear e5;cbv;repeat (first| ((try rw[ai A]);(try rw[ai A]);(first|refine aB As rfl rfl ?_|refine aB g5 rfl rfl ?_);cbv) | (refine⟨⟨_,rfl,rfl⟩,?_⟩;cbv))
 rw[iJj];rw[nM (show ¬st.join≠b0 from fun g=>g hj)];obtain⟨BR,fZD⟩:∃BR:List Row,BR=[[]]:=⟨_,rfl⟩;obtain⟨CB,MZ⟩:∃CB:List cK,CB=[]:=⟨_,rfl⟩;rw[<-fZD]at s5 hP;rw[<-MZ]at hP NG;have eZN:BR.length<=200:=by rw[fZD];decide
 have Ww:∀b∈BR,fS b/\b.length<=2^20:=fun b hb=>by
  rw[fZD]at hb;have:b=[]:=by simpa using hb
  subst this;exact⟨fun v hv=>(by cases hv),by decide⟩
 have gKl:∀c∈CB,Nm c.name:=fun c hc=>by rw[MZ]at hc;cases hc
 have NC:=s5.len;cbv;have iZv:=JE.len;have dKR:∀a∈T.rows,fS a/\a.length<=2^20:=fun a ha=>⟨(JE.row a ha).2,by obtain⟨_,_,e,-⟩:=(JE.row a ha).1;rw[e];show 2<=_;decide⟩;have fZC:∀c∈aR T,Nm c.name:=fun c CG=>by
  obtain⟨c0,h1,h2⟩:=mQO.1 CG;rw[<-h2];exact ri JE.nm (JE.Bt c0 h1)
 have hC:∀c∈aR T++CB,Nm c.name:=fun c hc=>by
  rcases mQv.1 hc with h|h
  ·exact fZC c h
  ·exact gKl c h
 have iXc:u1<=2:=by
  have h1:=s1.len;rcases JE.cols with h2| ⟨h2,-⟩
  ·rw[h2]at h1;rw[h1];decide
  ·rw[h2]at h1;rw[h1];decide
 have PH:=s2.len;have fZE:∀a∈T.rows,a.length=2:=fun a ha=>by obtain⟨_,_,e,-⟩:=(JE.row a ha).1;rw[e];rfl
 obtain⟨AR,iZw⟩:∃AR,AR=T.rows:=⟨_,rfl⟩;rw[<-iZw]at iZv dKR s2 hP PH fZE;have TH:(aR T).length=u1:=by show(T.S.cols.map _).length=u1;rw[mQz,<-s1.len]
 have aKO:T.S.cols.map (ph T.S.name)=aR T:=rfl;obtain⟨CA,dKN⟩:∃CA,CA=aR T:=⟨_,rfl⟩;rw[<-dKN]at fZC hC hP NG TH aKO;refine me JE.nm.nm (fun c hc=>(JE.Bt c hc).nm) (s1.mono (l5.t _)) _ _ _ _ _ (fun h6 ba na ca l6 bKq=>?_);rw[aKO]at bKq;have cKq:na<=2:=by have h1:=bKq.sl.len;rw[h1,TH];exact iXc
 cbv;repeat (refine⟨⟨_,rfl,rfl⟩,?_⟩;cbv)
 refine me (nm:=b0) (Gf (l:=[]) (fun _ h=>by cases h) (by decide)).nm (cols:=[]) (fun c hc=>by cases hc) Sl.nil _ _ _ _ _ (fun h7 bc nc cc l7 bKp=>?_);rw[show([]:List cK).map (ph b0)=CB from MZ.symm]at bKp;have cKp:nc<=2:=by have h1:=bKp.sl.len;rw[h1,MZ];decide
 have Ft:=l6.trans l7;cbv;refine(bKq.mono (l7.t _)).append bKp.sl (by decide) rfl (by decide) (by omega) Ft (fun mz bz cz h8 dQb l8 t8 k8 Qp=>?_);clear t8 k8 bKq bKp;have q8:=(q4.mono l5).mono l8;have hJY:Le h3 h8:=(l4.trans l5).trans l8;refine q8.elim (fun b5 n5 c5 b6 n6 c6 b7 n7 c7 b8 n8 c8 b9 n9 c9 gW jD gT cb cn cc g8 r1 r2 r3 r4 r5 r6 r7=>?_);cbv;first|rw[ai A,ai A] |rw[ai A] |skip
 refine ja g8 (by simp) (fun h9 e9=>?_);have xP:bR uB h8 h9:=by rw[e9];exact bR.set g8 (by decide)
 have dZV:bR [59,61] h8 h9:=by rw[e9];exact bR.set g8 (by decide)
 have q9:oC h9 qp st (CA++CB) ⟨-1,-1,false⟩:=⟨⟨b5,n5,c5,b6,n6,c6,b7,n7,c7,b8,n8,c8,b9,n9,c9,gW,jD,gT,bz,mz,cz,by rw[e9];exact ae,r1.mono (xP.sub (by decide)),r2.mono (xP.sub (by decide)),r3.mono (xP.sub (by decide)),r4.mono (xP.sub (by decide)),r5.mono (xP.sub (by decide)),r6.mono (xP.sub (by decide)),Qp.sl.mono (xP.sub (by decide))⟩⟩;have hJX:Le h3 h9:=fun b o hb=>by rw[e9,aO (fun e=>by rw[e,f4]at hb;cases hb)];exact hJY _ _ hb
 have hJg:Sl 59 aD h9 (.slice t2 u2 w2) AR:=(s2.mono ((l5.trans l8).t _)).mono (dZV.sub (by decide));have hJf:Sl 59 aD h9 (.slice (some ⟨Ad,0,none⟩) 1 1) BR:=(s5.mono (l8.t _)).mono (dZV.sub (by decide));clear r1 r2 r3 r4 r5 r6 r7 e9 xP dZV Qp q8 g8 s1 s2;have vO:jI st (CA++CB) AR BR=if(dp st (CA++CB)).2≠0 then([],(dp st (CA++CB)).2)else if AR.length*BR.length>4000 then([],4)else if(cT st (CA++CB) BR AR []).2≠0 then([],(cT st (CA++CB) BR AR []).2)else
  if(dp st (CA++CB)).1.kK=true then dw st (CA++CB) (dp st (CA++CB)).1.group (cT st (CA++CB) BR AR []).1 else eJ st (CA++CB) (dp st (CA++CB)).1.order (cT st (CA++CB) BR AR []).1:=rfl
 cbv;refine cKW q9 hx hC (fun fL y yS Jr hy=>?_);have aJv:Le h3 fL:=fun b o hb=>yS _ _ (hJX _ _ hb) (fun hn=>by
  have:b=qp:=by simpa using hn
  rw[this,f4]at hb;cases hb)
 have HM:Kp [pb] h fL:=Px.trans (aJv.kp _);obtain⟨F,hF⟩:∃F,dp st (CA++CB)=F:=⟨_,rfl⟩;rw[hF]at vO hy NG |-;obtain⟨fy,fe⟩:=F;replace vO:jI st (CA++CB) AR BR=if fe≠0 then([],fe)else if AR.length*BR.length>4000 then([],4)else if(cT st (CA++CB) BR AR []).2≠0 then([],(cT st (CA++CB) BR AR []).2)else
  if fy.kK=true then dw st (CA++CB) fy.group (cT st (CA++CB) BR AR []).1 else eJ st (CA++CB) fy.order (cT st (CA++CB) BR AR []).1:=vO
 have iJl:A .aI .neq fe 0=decide (fe≠0):=aC A ..;have Hs:=q3.mono aJv;cbv;rw[iJl];by_cases Wo:fe≠0
 ·rw[if_pos Wo]at vO;rw[vO]at hP;subst hP;have af:=hk fL none 0 0 HM Hs Sl.nil;clear hk;rw[kS Wo];cbv;exact af
 rw[if_neg Wo]at vO;have aQq:fe=0:=mQW.1 Wo;subst aQq;have cJV:y=fy:=hy rfl;subst cJV;obtain⟨eZo,hyp⟩:=NG y rfl;rw[nM Wo];obtain⟨lXA,cKe⟩:=q9.has;have dZc:Sl 59 aD fL (.slice t2 u2 w2) AR:=hJg.mono (yS.ES cKe (by decide));have dZb:Sl 59 aD fL (.slice (some ⟨Ad,0,none⟩) 1 1) BR:=hJf.mono (yS.ES cKe (by decide));have fm:A .aI .gtr (A .bB .mul .i64 (A .nat u2) (A .nat 1)) 4000=decide (AR.length*BR.length>4000):=by rw[VE (A:=A) (aS.nat (A:=A) u2) (aS.nat (A:=A) 1) (by omega) (by omega)];apply decide_eq_decide.2;rw[<-PH,<-NC]
 cbv;rw[fm];by_cases hm:AR.length*BR.length>4000
 ·rw[if_pos hm]at vO;rw[vO]at hP;subst hP;have af:=hk fL none 0 0 HM Hs Sl.nil;clear hk;rw[kS hm];cbv;exact af
 rw[if_neg hm]at vO;rw[nM hm];have cQW:=AS (x:=st) (cols:=CA++CB) (bs:=BR) (as_:=AR) (out:=[]);have fZA:=AT (x:=st) (cols:=CA++CB) (bs:=BR) (as_:=AR) (out:=[]);cbv;refine cJq Jr hx hC dKR Ww (by omega) (by omega) rfl rfl dZc dZb (fun lZ eJg gJn eJd dZH oU fXB Ma=>?_);generalize cT st (CA++CB) BR AR []=P at *;obtain⟨PR,pe⟩:=P;replace vO:jI st (CA++CB) AR BR=if pe≠0 then([],pe)else if y.kK=true then dw st (CA++CB) y.group PR else eJ st (CA++CB) y.order PR:=vO
 replace Ma:Bx 59 aD fL lZ dZH (.slice eJg gJn eJd) PR:=Ma;replace cQW:∀r∈PR,r∈[]\/∃a∈AR,∃b∈BR,r=a++b:=cQW;replace fZA:PR.length<=0+AR.length*BR.length:=fZA;have fZz:∀r∈PR,fS r:=fun r hr v hv=>by
  rcases cQW r hr with h| ⟨a,ha,b,hb,e⟩
  ·cases h
  ·rw[e]at hv;rcases mQv.1 hv with h|h
   ·exact(dKR a ha).1 v h
   ·exact(Ww b hb).1 v h
 have fZy:∀r∈PR,(CA++CB).length<=r.length:=fun r hr=>by
  rcases cQW r hr with h| ⟨a,ha,b,hb,e⟩
  ·cases h
  ·rw[e,nX,nX,fZE a ha,MZ,mQK];omega
 have iJf:A .aI .neq pe 0=decide (pe≠0):=aC A ..;have dJl:Kp [pb] h lZ:=HM.trans (oU.kp _);have dZd:=Hs.mono oU;have xF:=Jr.mono oU;cbv;rw[iJf];by_cases cQC:pe≠0
 ·rw[if_pos cQC]at vO;rw[vO]at hP;subst hP;have af:=hk lZ none 0 0 dJl dZd Sl.nil;clear hk;rw[kS cQC];cbv;exact af
 rw[if_neg cQC]at vO;rw[nM cQC];refine xF.elim (fun b5 n5 c5 b6 n6 c6 b7 n7 c7 b8 n8 c8 b9 n9 c9 gW jD gT cb cn cc eQj r1 r2 r3 r4 r5 r6 r7=>?_);clear r1 r2 r3 r4 r5 r6 r7;obtain⟨yg,dJx⟩:∃yg,yg=y.kK:=⟨_,rfl⟩;rw[<-dJx]at eQj vO eZo hyp;cbv;first|rw[ai A,ai A] |rw[ai A] |skip
 refine aB eQj rfl rfl ?_;cases yg with
 |true=>rw[if_pos rfl]at vO;rw[vO]at hP;cbv;refine eZo rfl xF hx hC fZz (by omega) hF fZy oU Ma.buf (fun CI bXJ bZm ZN ko aQe=>?_);generalize dw st (CA++CB) y.group PR=G at *;obtain⟨GR,ge⟩:=G;subst hP;have af:=hk CI bXJ bZm ZN (HM.trans (ko.kp _)) (Hs.mono ko) aQe;clear hk;cbv;exact af
 |false=>rw[if_neg (by simp)]at vO;rw[vO]at hP;cbv;refine hyp rfl xF hx hC fZz (by omega) hF fZy oU Ma.buf (fun CI bXJ bZm ZN ko aQe=>?_);generalize eJ st (CA++CB) y.order PR=G at *;obtain⟨GR,ge⟩:=G;subst hP;have af:=hk CI bXJ bZm ZN (HM.trans (ko.kp _)) (Hs.mono ko) aQe;clear hk;cbv;exact af
end Go.S
