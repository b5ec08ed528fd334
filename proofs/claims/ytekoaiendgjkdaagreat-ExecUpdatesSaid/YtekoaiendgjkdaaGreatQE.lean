import Derived.Test.YtekoaiendgjkdaaGreatQD
import Derived.Test.YtekoaiendgjkdaaGreatQC
set_option linter.unusedVariables false
set_option linter.unusedSimpArgs false
set_option linter.unusedSectionVars false
set_option maxRecDepth 100000
set_option maxHeartbeats 8000000
namespace Go.S
open Go.Sx Go.Proofs
theorem Ya{h:ad}{pb:Nat}{d:DB}{s:Int}{st:az}(q:dS h pb d s st){n:Nat}(ok:wX n d)(gP:n<2^18){wb:Nat}(gw:h wb=some (.cells #[.pointer (some ⟨pb,0,none⟩)] 99 (0,0)))(nm:ByteArray){k:Value->ad->Prop}
 (hk:∀h',Kp [pb] h h'->dS h' pb (ay d ⟨s,nm,false⟩).1 s st->k (.int .i64 (ay d ⟨s,nm,false⟩).2) h'):Ct 98 [.string nm,.pointer (some ⟨wb,0,none⟩)] h k:=by
 obtain⟨A,hA⟩:=Ar.ex;refine ah A (ar T98.aA T98.bm) Tryz.func98 rfl (by kernel_rfl) ?_;cbv;refine av gw rfl rfl ?_;cbv;refine EE q ok gP nm false (fun h1 k1 q1=>?_);have ae:=hk h1 k1 q1;generalize (ay d ⟨s,nm,false⟩).2=e at *;clear hk;cbv;exact ae
def dc(s:Int):List ByteArray->DB->DB×Int:=wE fun d nm=>ay d ⟨s,nm,false⟩
theorem Ac{s:Int}(hs:-2^63<=s/\s<2^63):∀ {l:List ByteArray} {n:Nat} {d:DB},EJ n d->EJ (n+l.length) (dc s l d).1
 | [],n,d,h=>h
 |x::r,n,d,h=>by
  have h1:=h.hold ⟨s,x,false⟩ hs;show EJ _ (wE (fun d nm=>ay d ⟨s,nm,false⟩) (x::r) d).1;rw[Er];generalize ay d ⟨s,x,false⟩=H at *;obtain⟨d1,e⟩:=H;show EJ _ (if e≠0 then(d1,e)else dc s r d1).1;by_cases h0:e≠0
  ·rw[if_pos h0];exact EJ.le h1 (by simp only[List.length_cons];omega)
  ·rw[if_neg h0];exact(Ac hs h1).le (by simp only[List.length_cons];omega)
theorem BL{h:ad}{pb:Nat}{d:DB}{s:Int}{st:az}(q:dS h pb d s st){n:Nat}(ej:EJ n d){names:List ByteArray}(gP:n+names.length+2<2^18)(iQ:-2^63<=s/\s<2^63){wb:Nat}(gw:h wb=some (.cells #[.pointer (some ⟨pb,0,none⟩)] 99 (0,0)))(nw:wb≠pb)
 {b:Option Addr} {n1 c1:Nat} (qn:Sl 9 cB h (.slice b n1 c1) names) {k:Value->ad->Prop}
 (hk:∀h',Kp [pb] h h'->dS h' pb (dc s names d).1 s st->k (.int .i64 (dc s names d).2) h'):
 Ct 99 [.slice b n1 c1,.func (.func 98) #[] #[.pointer (some ⟨wb,0,none⟩)]] h k:=by
 have hn:=qn.len;obtain⟨D,hD⟩:∃D,dc s names d=D:=⟨_,rfl⟩;rw[hD]at hk;obtain⟨I,bl⟩:∃I:Nat->ad->Prop,∀i h',I i h'=∃d',dS h' pb d' s st/\EJ (n+i) d'/\Kp [pb] h h'/\dc s (names.drop i) d'=D:=⟨_,fun _ _=>rfl⟩;have hJ:I 0 h:=by rw[bl];exact⟨d,q,ej,Kp.refl _ _,hD⟩
 refine Lr hn I hJ (fun i h' hI=>?_) (fun i x h' hi hx hI _=>?_) (fun h' hI=>?_)
 ·rw[bl]at hI;obtain⟨d',q',ej',kp,-⟩:=hI;exact qn.mono (q.kp kp (by decide))
 ·rw[bl]at hI;obtain⟨d',q',ej',kp,he⟩:=hI;have hd:names.drop i=x::names.drop (i+1):=by obtain⟨h1,h2⟩:=List.getElem?_eq_some_iff.1 hx;rw[List.drop_eq_getElem_cons h1,h2]
  rw[hd]at he;replace he:(match ay d' ⟨s,x,false⟩with
   | (d2,e)=>if e≠0 then(d2,e)else dc s (names.drop (i+1)) d2)=D:=he
  have ej2:=ej'.hold ⟨s,x,false⟩ iQ;refine Ya q' ej'.sj.CM (by omega) (kp _ _ gw (by simpa using nw)) x (fun h2 k2 q2=>⟨_,rfl,fun h0=>?_,fun h0=>?_⟩)
  ·generalize ay d' ⟨s,x,false⟩=E at *;obtain⟨d2,e⟩:=E;replace he:(if e≠0 then(d2,e)else dc s (names.drop (i+1)) d2)=D:=he;rw[if_neg (fun g=>g h0)]at he;rw[bl];exact⟨d2,q2,ej2,kp.trans k2,he⟩
  ·generalize ay d' ⟨s,x,false⟩=E at *;obtain⟨d2,e⟩:=E;replace he:(if e≠0 then(d2,e)else dc s (names.drop (i+1)) d2)=D:=he;rw[if_pos h0]at he;subst he;exact hk h2 (kp.trans k2) q2
 ·rw[bl]at hI;obtain⟨d',q',ej',kp,he⟩:=hI;rw[List.drop_of_length_le (by omega)]at he;replace he:(d',0)=D:=he;subst he;exact hk h' kp q'
def bC(st:az):List ByteArray:=if st.join=b0 then [st.table]else [st.table,st.join]
def dA(d:DB)(st:az):List bT:=aJ (bO d st.table)++(if st.join=b0 then []else aJ (bO d st.join))
def zC(d:DB)(st:az):List Row:=if st.join=b0 then [[]]else(bO d st.join).rows
theorem vj(d:DB)(s:Int)(st:az):dJ d s st=if st.join=st.table then(d,[],7)else if(dc s (bC st) d).2≠0 then((dc s (bC st) d).1,[],(dc s (bC st) d).2)else
 ((dc s (bC st) d).1,iF st (dA (dc s (bC st) d).1 st) (bO (dc s (bC st) d).1 st.table).rows (zC (dc s (bC st) d).1 st)):=by
 unfold dJ;by_cases h0:st.join=st.table
 ·rw[if_pos h0,if_pos h0]
 ·rw[if_neg h0,if_neg h0];by_cases hj:st.join=b0
  ·have hn:bC st=[st.table]:=by unfold bC;rw[if_pos hj]
   rw[hn];have hh:dc s [st.table] d=if(ay d ⟨s,st.table,false⟩).2≠0 then ay d ⟨s,st.table,false⟩else((ay d ⟨s,st.table,false⟩).1,0):=by
    show(match ay d ⟨s,st.table,false⟩with
     | (d',e)=>if e≠0 then(d',e)else(d',0))=_
    generalize ay d ⟨s,st.table,false⟩=H;obtain⟨d1,e⟩:=H;rfl
   rw[hh];generalize ay d ⟨s,st.table,false⟩=H;obtain⟨d1,e⟩:=H;by_cases he:e≠0
   ·simp only[he,if_true,ne_eq,not_false_eq_true]
   ·have he:e=0:=Decidable.not_not.1 he;subst he;simp only[hj,if_true,ne_eq,not_true_eq_false,if_false,dA,zC,List.append_nil]
  ·have hn:bC st=[st.table,st.join]:=by unfold bC;rw[if_neg hj]
   rw[hn];have hh:dc s [st.table,st.join] d=if(ay d ⟨s,st.table,false⟩).2≠0 then ay d ⟨s,st.table,false⟩else if(ay (ay d ⟨s,st.table,false⟩).1 ⟨s,st.join,false⟩).2≠0 then ay (ay d ⟨s,st.table,false⟩).1 ⟨s,st.join,false⟩else((ay (ay d ⟨s,st.table,false⟩).1 ⟨s,st.join,false⟩).1,0):=by
    show(match ay d ⟨s,st.table,false⟩with
     | (d',e)=>if e≠0 then(d',e)else match ay d' ⟨s,st.join,false⟩with
      | (d',e)=>if e≠0 then(d',e)else(d',0))=_
    generalize ay d ⟨s,st.table,false⟩=H;obtain⟨d1,e⟩:=H;show(if e≠0 then(d1,e)else match ay d1 ⟨s,st.join,false⟩with
     | (d',e)=>if e≠0 then(d',e)else(d',0))=_
    generalize ay d1 ⟨s,st.join,false⟩=H2;obtain⟨d2,e2⟩:=H2;rfl
   rw[hh];generalize ay d ⟨s,st.table,false⟩=H;obtain⟨d1,e⟩:=H;by_cases he:e≠0
   ·simp only[he,if_true,ne_eq,not_false_eq_true]
   ·have he:e=0:=Decidable.not_not.1 he;subst he;simp only[ne_eq,not_true_eq_false,if_false,hj];generalize ay d1 ⟨s,st.join,false⟩=H2;obtain⟨d2,e2⟩:=H2;by_cases he:e2≠0
    ·simp only[he,if_true,ne_eq,not_false_eq_true]
    ·have he:e2=0:=Decidable.not_not.1 he;subst he;simp only[hj,if_false,ne_eq,not_true_eq_false,dA,zC]
theorem JG{x:az}{cols:List bT}{a b:Row}{out:List Row}:∀r∈(nF x cols a b out).1,r∈out\/r=a++b:=by
 intro r hr;unfold nF at hr;generalize dL x.on cols (a++b)=H at hr;obtain⟨on,e⟩:=H;generalize dL x.bM cols (a++b)=H2 at hr;obtain⟨is,e2⟩:=H2;replace hr:r∈(if e≠0 then(out,e)else if on=false then(out,0)else(if e2≠0 then(out,e2)else(if is=true then out++[a++b]else out,0)):List Row×Int).1:=hr;split at hr
 ·exact .inl hr
 ·split at hr
  ·exact .inl hr
  ·split at hr
   ·exact .inl hr
   ·have hr:r∈(if is=true then out++[a++b]else out):=hr;split at hr
    ·rcases List.mem_append.1 hr with h|h
     ·exact .inl h
     ·exact .inr (by simpa using h)
    ·exact .inl hr
theorem yp{x:az}{cols:List bT}{a:Row}:∀ {bs out:List Row},∀r∈(ef x cols a bs out).1,r∈out\/∃b∈bs,r=a++b
 | [],out,r,h=>.inl h
 |b::bs,out,r,h=>by
  rw[oy]at h;have h1:∀r∈(nF x cols a b out).1,r∈out\/∃c∈b::bs,r=a++c:=fun r hr=>by
   rcases JG r hr with g|g
   ·exact .inl g
   ·exact .inr ⟨b,List.mem_cons_self,g⟩
  split at h
  ·exact h1 r h
  ·rcases yp r h with g| ⟨c,g1,g2⟩
   ·exact h1 r g
   ·exact .inr ⟨c,List.mem_cons_of_mem _ g1,g2⟩
theorem pX{x:az}{cols:List bT}{bs:List Row}:∀ {as_ out:List Row},∀r∈(cy x cols bs as_ out).1,r∈out\/∃a∈as_,∃b∈bs,r=a++b
 | [],out,r,h=>.inl h
 |a::as_,out,r,h=>by
  rw[oz]at h;have h1:=yp (x:=x) (cols:=cols) (a:=a) (bs:=bs) (out:=out);generalize ef x cols a bs out=E at *;obtain⟨o,e⟩:=E;replace h:r∈(if e≠0 then(o,e)else cy x cols bs as_ o).1:=h;have h2:∀r∈o,r∈out\/∃a'∈a::as_,∃b∈bs,r=a'++b:=fun r hr=>by
   rcases h1 r hr with g| ⟨b,g1,g2⟩
   ·exact .inl g
   ·exact .inr ⟨a,List.mem_cons_self,b,g1,g2⟩
  split at h
  ·exact h2 r h
  ·rcases pX r h with g| ⟨a',g1,g2⟩
   ·exact h2 r g
   ·exact .inr ⟨a',List.mem_cons_of_mem _ g1,g2⟩
theorem pY{x:az}{cols:List bT}{bs:List Row}:∀ {as_ out:List Row},(cy x cols bs as_ out).1.length<=out.length+as_.length*bs.length
 | [],out=>by show out.length<=_;omega
 |a::as_,out=>by
  rw[oz];have h1:=pW (x:=x) (cols:=cols) (a:=a) (bs:=bs) (out:=out);generalize ef x cols a bs out=E at *;obtain⟨o,e⟩:=E;show(if e≠0 then(o,e)else cy x cols bs as_ o).1.length<=_;have hm:(a::as_).length*bs.length=as_.length*bs.length+bs.length:=by rw[List.length_cons];exact Nat.succ_mul _ _
  have h1:o.length<=out.length+bs.length:=h1;split
  ·show o.length<=_;omega
  ·have:=pY (x:=x) (cols:=cols) (bs:=bs) (as_:=as_) (out:=o);omega
theorem E3{A:Ar}[hA:aV A]{z w:Int}{i j:Nat}(hz:aS z i)(hw:aS w j)(hi:i<=2^20)(hj:j<=2^20):A .aG .gtr (A .bA .mul .i64 z w) 4000=decide (i*j>4000):=by
 have h1:=hz.eq;have h2:=hw.eq;have hm:i*j<=2^20*2^20:=Nat.mul_le_mul hi hj;have he:z*w=((i*j:Nat):Int):=by rw[h1,h2];exact(Int.natCast_mul i j).symm
 have hr:A .bA .mul .i64 z w=((i*j:Nat):Int):=by rw[hA.bA];simp only[bA];rw[he,IntWalk.i64_in _ (by omega)]
 rw[hr,bJ A];apply decide_eq_decide.2;omega
def XV(x:az)(y:Qy):Prop:=∀ {h0 h:ad} {qp:Nat} {cols:List bT} (q:lf h qp x cols y) (hx:eG x) (hc:∀c∈cols,Nm c.name) {rows:List Row} (hr:∀r∈rows,fM r) (Hd:rows.length<=2^20) (hf:dm x cols=(y,0)) (hw:∀r∈rows,cols.length<=r.length) {rb:Option Addr} {rn rc:Nat} (l0:Le h0 h) (qr:cX 59 aL h0 h (.slice rb rn rc) rows)
 {k:Value->ad->Prop} (hk:∀h' b n c,Le h0 h'->Sl 59 aL h' (.slice b n c) (fC x cols y.order rows).1->k (.tuple #[.slice b n c,.int .i64 (fC x cols y.order rows).2]) h'),Ct 102 [.pointer (some ⟨qp,0,none⟩),.slice rb rn rc] h k
def H3(x:az)(y:Qy):Prop:=∀ {h0 h:ad} {qp:Nat} {cols:List bT} (q:lf h qp x cols y) (hx:eG x) (hc:∀c∈cols,Nm c.name) {rows:List Row} (hr:∀r∈rows,fM r) (Hd:rows.length<=2^20) (hf:dm x cols=(y,0)) (hw:∀r∈rows,cols.length<=r.length) {rb:Option Addr} {rn rc:Nat} (l0:Le h0 h) (qr:cX 59 aL h0 h (.slice rb rn rc) rows)
 {k:Value->ad->Prop} (hk:∀h' b n c,Le h0 h'->Sl 59 aL h' (.slice b n c) (eS x cols y.group rows).1->k (.tuple #[.slice b n c,.int .i64 (eS x cols y.group rows).2]) h'),Ct 103 [.pointer (some ⟨qp,0,none⟩),.slice rb rn rc] h k
def Qt(d:DB)(s:Int)(st:az):Prop:=∀ {h:ad} {pb:Nat} (q:dS h pb d s st) (hx:eG st) {n:Nat} (ej:EJ n d) (gP:n+700<2^18) (iQ:-2^63<=s/\s<2^63) {k:Value->ad->Prop}
 (hk:∀h' b n c,Kp [pb] h h'->dS h' pb (dJ d s st).1 s st->Sl 59 aL h' (.slice b n c) (dJ d s st).2.1->k (.tuple #[.slice b n c,.int .i64 (dJ d s st).2.2]) h'),Ct 44 [.pointer (some ⟨pb,0,none⟩)] h k
def WX(d:DB)(s:Int)(st:az):Prop:=∀ {h:ad} {pb:Nat} (q:dS h pb d s st) (hx:eG st) {n:Nat} (ej:EJ n d) (gP:n+700<2^18) (iQ:-2^63<=s/\s<2^63) {k:Value->ad->Prop}
 (hk:∀h',Kp [pb] h h'->dS h' pb (fH d s st).1 s st->k (.tuple #[.slice none 0 0,.int .i64 (fH d s st).2.2]) h'),Ct 42 [.pointer (some ⟨pb,0,none⟩)] h k
def W3(d:DB)(s:Int)(st:az):Prop:=∀ {h:ad} {pb:Nat} (q:dS h pb d s st) (hx:eG st) {n:Nat} (ej:EJ n d) (gP:n+700<2^18) (iQ:-2^63<=s/\s<2^63) {k:Value->ad->Prop}
 (hk:∀h',Kp [pb] h h'->dS h' pb (fL d s st).1 s st->k (.tuple #[.slice none 0 0,.int .i64 (fL d s st).2.2]) h'),Ct 43 [.pointer (some ⟨pb,0,none⟩)] h k
structure j8(d:DB)(s:Int)(st:az):Prop where
 sel:st.kind=6->Qt d s st
 Gf:st.kind=4->WX d s st
 del:st.kind=5->W3 d s st
def WY(d:DB)(s:Int)(st:az):Prop:=∀y,dm st (dA (dc s (bC st) d).1 st)=(y,0)->(y.jK=true->H3 st y)/\(y.jK=false->XV st y)
theorem j8.no{d:DB}{s:Int}{st:az}(h:st.kind≠6)(h4:st.kind≠4)(h5:st.kind≠5):j8 d s st:=⟨fun e=>absurd e h,fun e=>absurd e h4,fun e=>absurd e h5⟩
theorem j8.E1{d:DB}{s:Int}{st:az}(h:st.kind=6)(hs:Qt d s st):j8 d s st:=⟨fun _=>hs,fun e=>absurd (e.symm.trans h) (by decide),fun e=>absurd (e.symm.trans h) (by decide)⟩
theorem j8.Yw{d:DB}{s:Int}{st:az}(h:st.kind=4)(hs:WX d s st):j8 d s st:=⟨fun e=>absurd (e.symm.trans h) (by decide),fun _=>hs,fun e=>absurd (e.symm.trans h) (by decide)⟩
theorem selE{h:ad}{pb:Nat}{d:DB}{s:Int}{st:az}(q:dS h pb d s st)(hx:eG st)(hj:st.join=b0){n:Nat}(ej:EJ n d)(gP:n+700<2^18)(iQ:-2^63<=s/\s<2^63)
 (AK:∀y,dm st (dA (dc s (bC st) d).1 st)=(y,0)->(y.jK=true->H3 st y)/\(y.jK=false->XV st y)) {k:Value->ad->Prop}
 (hk:∀h' b n c,Kp [pb] h h'->dS h' pb (dJ d s st).1 s st->Sl 59 aL h' (.slice b n c) (dJ d s st).2.1->k (.tuple #[.slice b n c,.int .i64 (dJ d s st).2.2]) h'):
 Ct 44 [.pointer (some ⟨pb,0,none⟩)] h k:=by
 obtain⟨A,hA⟩:=Ar.ex;have hP:=vj d s st;generalize dJ d s st=D at *;obtain⟨c,hp⟩:=q.has;have fjt:A .iY .eql st.join st.table=decide (st.join=st.table):=bR A ..;have fj:A .iY .eql st.join ⟨#[]⟩=decide (st.join=b0):=bR A ..;have fj2:A .iY .neq st.join ⟨#[]⟩=decide (st.join≠b0):=uD A ..;refine q.elim (fun b1 n1 c1 b2 n2 c2 b3 n3 c3 b4 n4 c4 b5 n5 c5 b6 n6 c6 b7 n7 c7 b8 n8 c8 b9 n9 c9 fG gG fF g qd q1 q2 q3 q4 q5 q6=>?_);clear qd q1 q2 q3 q4 q5 q6;refine ah A (ar T44.aA T44.bm) Tryz.func44 rfl (by kernel_rfl) ?_;cbv;intro wb h1 gn e1;have l1:Le h h1:=by rw[e1];exact Le.set gn
 have lu:h1 wb=some (.cells #[.pointer (some ⟨pb,0,none⟩)] 99 (0,0)):=by rw[e1];exact af
 have nw:wb≠pb:=fun e=>by rw[e,hp]at gn;cases gn
 have g1:=l1 _ _ g;clear e1;cbv;repeat (first| (rw[ai A,ai A];refine av lu rfl rfl ?_;cbv) | (rw[ai A];refine av lu rfl rfl ?_;cbv) | (refine av lu rfl rfl ?_;cbv) | (rw[ai A,ai A];refine av g1 rfl rfl ?_;cbv) | (rw[ai A];refine av g1 rfl rfl ?_;cbv) | (refine av g1 rfl rfl ?_;cbv) | (refine⟨⟨_,rfl,rfl⟩,?_⟩;cbv))
 rw[fjt];by_cases O1:st.join=st.table
 ·rw[if_pos O1]at hP;subst hP;have ae:=hk h1 none 0 0 (l1.kp _) (q.mono l1) Sl.nil;clear hk;rw[decide_eq_true O1];cbv;exact ae
 rw[if_neg O1]at hP;rw[decide_eq_false O1];cbv;repeat (first| (rw[ai A,ai A];refine av lu rfl rfl ?_;cbv) | (rw[ai A];refine av lu rfl rfl ?_;cbv) | (refine av lu rfl rfl ?_;cbv) | (rw[ai A,ai A];refine av g1 rfl rfl ?_;cbv) | (rw[ai A];refine av g1 rfl rfl ?_;cbv) | (refine av g1 rfl rfl ?_;cbv) | (refine⟨⟨_,rfl,rfl⟩,?_⟩;cbv))
 intro nb h2 f2 e2;have l2:Le h1 h2:=by rw[e2];exact Le.set f2
 have qn:Sl 9 cB h2 (.slice (some ⟨nb,0,none⟩) 2 2) [st.table,st.join]:=by
  refine Sl.fresh (s:=cB) (h:=h2) (n:=nb) (xs:=[st.table,st.join]) (cap:=2) (c:=[.string st.table,.string st.join]) (by rw[e2];exact af) ⟨Nat.le_refl 2,fun i x hx=>?_⟩ (by show 2<=_;omega) (Nat.le_refl 2)
  match i,hx with
  |0,hx=>cases hx;rfl
  |1,hx=>cases hx;rfl
  |i+2,hx=>simp at hx
 have ko:=l1.trans l2;have lr:=l2 _ _ lu;have g2:=l2 _ _ g1;have q2:=q.mono ko;clear e2 g1 lu;cbv;repeat (first| (rw[ai A,ai A];refine av lr rfl rfl ?_;cbv) | (rw[ai A];refine av lr rfl rfl ?_;cbv) | (refine av lr rfl rfl ?_;cbv) | (rw[ai A,ai A];refine av g2 rfl rfl ?_;cbv) | (rw[ai A];refine av g2 rfl rfl ?_;cbv) | (refine av g2 rfl rfl ?_;cbv) | (refine⟨⟨_,rfl,rfl⟩,?_⟩;cbv))
 rw[fj];rw[decide_eq_true hj];have ma:bC st=[st.table]:=by unfold bC;rw[if_pos hj]
 have O4:A .sC 1 0=1:=by rw[hA.sC];rfl
 have qn1:Sl 9 cB h2 (.slice (A .cut (some ⟨nb,0,none⟩) 0 (A .nat 2) 1) 1 2) [st.table]:=by have:=qn.tA (A:=A) (z:=A .nat 2) (i:=1) (by omega) rfl rfl;exact Sl.ET this (by omega)
 cbv;refine⟨by decide,?_⟩;cbv;rw[O4];have rC:(bC st).length=1:=by rw[ma];rfl
 obtain⟨NB,hNB⟩:∃NB,A .cut (some ⟨nb,0,none⟩) 0 (A .nat 2) 1=NB:=⟨_,rfl⟩;have Yj:Sl 9 cB h2 (.slice NB 1 2) (bC st):=by rw[<-hNB,ma];exact qn1
 rw[hNB];clear hNB qn1;cbv;refine BL q2 ej (by rw[rC];omega) iQ lr nw Yj (fun h3 k3 q3=>?_);have Ng:=Ac iQ (l:=bC st) ej;rw[rC]at Ng;generalize dc s (bC st) d=H at *;obtain⟨d1,e⟩:=H;replace q3:dS h3 pb d1 s st:=q3;replace Ng:EJ (n+1) d1:=Ng;replace hP:D=if e≠0 then(d1,[],e)else(d1,iF st (dA d1 st) (bO d1 st.table).rows (zC d1 st)):=hP
 replace AK:∀y,dm st (dA d1 st)=(y,0)->(y.jK=true->H3 st y)/\(y.jK=false->XV st y):=AK;have fe:A .aG .neq e 0=decide (e≠0):=aB A ..;have DJ:Kp [pb] h h3:=(ko.kp _).trans k3;have AQ:=k3 _ _ lr (by simpa using nw);clear q2 qn Yj lr g2;by_cases h0:e≠0
 ·rw[if_pos h0]at hP;subst hP;have ae:=hk h3 none 0 0 DJ q3 Sl.nil;clear hk;cbv;rw[fe,decide_eq_true h0];cbv;exact ae
 rw[if_neg h0]at hP;have An:=Ng.held st.table;have KM:dA d1 st=aJ (bO d1 st.table)++[]:=by unfold dA;rw[if_pos hj]
 have Aa:zC d1 st=[[]]:=by unfold zC;rw[if_pos hj]
 rw[KM,Aa]at hP;rw[KM]at AK;refine q3.elim (fun WM Tp WC WJ To WA WI Tn Wy WH Tm Wx Nr MK Nn Nq MJ Nl Np MI Nk Ml E2 FP No MH Nj xJ xu xI g3 SW p1 p2 p3 p4 p5 p6=>?_);clear SW;cbv;rw[fe,decide_eq_false h0];cbv;repeat (first| (rw[ai A,ai A];refine av AQ rfl rfl ?_;cbv) | (rw[ai A];refine av AQ rfl rfl ?_;cbv) | (refine av AQ rfl rfl ?_;cbv) | (rw[ai A,ai A];refine av g3 rfl rfl ?_;cbv) | (rw[ai A];refine av g3 rfl rfl ?_;cbv) | (refine av g3 rfl rfl ?_;cbv) | (refine⟨⟨_,rfl,rfl⟩,?_⟩;cbv))
 intro qp h4 f4 e4;have l4:Le h3 h4:=by rw[e4];exact Le.set f4
 have q4:lf h4 qp st [] ⟨-1,-1,false⟩:=⟨⟨Nr,MK,Nn,Nq,MJ,Nl,Np,MI,Nk,Ml,E2,FP,No,MH,Nj,xJ,xu,xI,none,0,0,by rw[e4];exact af,p1.mono (l4.t _),p2.mono (l4.t _),p3.mono (l4.t _),p4.mono (l4.t _),p5.mono (l4.t _),p6.mono (l4.t _),Sl.nil⟩⟩;have g4:=l4 _ _ g3;have Ed:=l4 _ _ AQ;clear p1 p2 p3 p4 p5 p6 e4;cbv;repeat (first| (rw[ai A,ai A];refine av Ed rfl rfl ?_;cbv) | (rw[ai A];refine av Ed rfl rfl ?_;cbv) | (refine av Ed rfl rfl ?_;cbv) | (rw[ai A,ai A];refine av g4 rfl rfl ?_;cbv) | (rw[ai A];refine av g4 rfl rfl ?_;cbv) | (refine av g4 rfl rfl ?_;cbv) | (refine⟨⟨_,rfl,rfl⟩,?_⟩;cbv))
 refine vW (q3.mono l4) st.table (fun T t1 u1 w1 t2 u2 w2 hT s1 s2=>?_);rw[<-hT]at An hP AK;clear hT KM;cbv;repeat (refine⟨⟨_,rfl,rfl⟩,?_⟩;cbv)
 intro tG h5 f5 e5;have l5:Le h4 h5:=by rw[e5];exact Le.set f5
 have s5:Sl 59 aL h5 (.slice (some ⟨tG,0,none⟩) 1 1) [[]]:=bU (s:=aL) ((congrFun e5 tG).trans af) ⟨_,rfl,Sl.nil⟩;have g5:=l5 _ _ g4;have sB:=l5 _ _ Ed;clear e5;cbv;repeat (first| (rw[ai A,ai A];refine av sB rfl rfl ?_;cbv) | (rw[ai A];refine av sB rfl rfl ?_;cbv) | (refine av sB rfl rfl ?_;cbv) | (rw[ai A,ai A];refine av g5 rfl rfl ?_;cbv) | (rw[ai A];refine av g5 rfl rfl ?_;cbv) | (refine av g5 rfl rfl ?_;cbv) | (refine⟨⟨_,rfl,rfl⟩,?_⟩;cbv))
 rw[fj2];rw[decide_eq_false (show ¬st.join≠b0 from fun g=>g hj)];obtain⟨BR,hBR⟩:∃BR:List Row,BR=[[]]:=⟨_,rfl⟩;obtain⟨CB,B1⟩:∃CB:List bT,CB=[]:=⟨_,rfl⟩;rw[<-hBR]at s5 hP;rw[<-B1]at hP AK;have hBl:BR.length<=200:=by rw[hBR];decide
 have XB:∀b∈BR,fM b/\b.length<=2^20:=fun b hb=>by
  rw[hBR]at hb;have:b=[]:=by simpa using hb
  subst this;exact⟨fun v hv=>(by cases hv),by decide⟩
 have hCB:∀c∈CB,Nm c.name:=fun c hc=>by rw[B1]at hc;cases hc
 have Hb:=s5.len;cbv;have hAl:=An.len;have VC:∀a∈T.rows,fM a/\a.length<=2^20:=fun a ha=>⟨(An.row a ha).2,by obtain⟨_,_,e,-⟩:=(An.row a ha).1;rw[e];show 2<=_;decide⟩;have hCA:∀c∈aJ T,Nm c.name:=fun c xF=>by
  obtain⟨c0,h1,h2⟩:=List.mem_map.1 xF;rw[<-h2];exact sd An.nm (An.uN c0 h1)
 have hC:∀c∈aJ T++CB,Nm c.name:=fun c hc=>by
  rcases List.mem_append.1 hc with h|h
  ·exact hCA c h
  ·exact hCB c h
 have hlA:u1<=2:=by
  have h1:=s1.len;rcases An.cols with h2| ⟨h2,-⟩
  ·rw[h2]at h1;rw[h1];decide
  ·rw[h2]at h1;rw[h1];decide
 have Ih:=s2.len;have hAw:∀a∈T.rows,a.length=2:=fun a ha=>by obtain⟨_,_,e,-⟩:=(An.row a ha).1;rw[e];rfl
 obtain⟨AR,hAR⟩:∃AR,AR=T.rows:=⟨_,rfl⟩;rw[<-hAR]at hAl VC s2 hP Ih hAw;have Hk:(aJ T).length=u1:=by show(T.S.cols.map _).length=u1;rw[List.length_map,<-s1.len]
 have Lb:T.S.cols.map (ny T.S.name)=aJ T:=rfl;obtain⟨CA,VA⟩:∃CA,CA=aJ T:=⟨_,rfl⟩;rw[<-VA]at hCA hC hP AK Hk Lb;refine mH An.nm.nm (fun c hc=>(An.uN c hc).nm) (s1.mono (l5.t _)) _ _ _ _ _ (fun h6 ba na ca l6 N4=>?_);rw[Lb]at N4;have Rh:na<=2:=by have h1:=N4.sl.len;rw[h1,Hk];exact hlA
 cbv;repeat (refine⟨⟨_,rfl,rfl⟩,?_⟩;cbv)
 refine mH (nm:=b0) (uF (l:=[]) (fun _ h=>by cases h) (by decide)).nm (cols:=[]) (fun c hc=>by cases hc) Sl.nil _ _ _ _ _ (fun h7 bc nc cc l7 N3=>?_);rw[show([]:List bT).map (ny b0)=CB from B1.symm]at N3;have hl7:nc<=2:=by have h1:=N3.sl.len;rw[h1,B1];decide
 have l57:=l6.trans l7;cbv;refine(N4.mono (l7.t _)).append N3.sl (by decide) rfl (by decide) (by omega) l57 (fun mz bz cz h8 em8 l8 t8 k8 Lg=>?_);clear t8 k8 N4 N3;have q8:=(q4.mono l5).mono l8;have l38:Le h3 h8:=(l4.trans l5).trans l8;refine q8.elim (fun b5 n5 c5 b6 n6 c6 b7 n7 c7 b8 n8 c8 b9 n9 c9 fG gG fF cb cn cc g8 r1 r2 r3 r4 r5 r6 r7=>?_);cbv;first|rw[ai A,ai A] |rw[ai A] |skip
 refine jz g8 (by simp) (fun h9 e9=>?_);have Bz:cF mq h8 h9:=by rw[e9];exact cF.set g8 (by decide)
 have Tx:cF [59,61] h8 h9:=by rw[e9];exact cF.set g8 (by decide)
 have q9:lf h9 qp st (CA++CB) ⟨-1,-1,false⟩:=⟨⟨b5,n5,c5,b6,n6,c6,b7,n7,c7,b8,n8,c8,b9,n9,c9,fG,gG,fF,bz,mz,cz,by rw[e9];exact af,r1.mono (Bz.sub (by decide)),r2.mono (Bz.sub (by decide)),r3.mono (Bz.sub (by decide)),r4.mono (Bz.sub (by decide)),r5.mono (Bz.sub (by decide)),r6.mono (Bz.sub (by decide)),Lg.sl.mono (Bz.sub (by decide))⟩⟩;have l39:Le h3 h9:=fun b o hb=>by rw[e9,aP (fun e=>by rw[e,f4]at hb;cases hb)];exact l38 _ _ hb
 have qA9:Sl 59 aL h9 (.slice t2 u2 w2) AR:=(s2.mono ((l5.trans l8).t _)).mono (Tx.sub (by decide));have qB9:Sl 59 aL h9 (.slice (some ⟨tG,0,none⟩) 1 1) BR:=(s5.mono (l8.t _)).mono (Tx.sub (by decide));clear r1 r2 r3 r4 r5 r6 r7 e9 Bz Tx Lg q8 g8 s1 s2;have nk:iF st (CA++CB) AR BR=if(dm st (CA++CB)).2≠0 then([],(dm st (CA++CB)).2)else if AR.length*BR.length>4000 then([],4)else if(cy st (CA++CB) BR AR []).2≠0 then([],(cy st (CA++CB) BR AR []).2)else
  if(dm st (CA++CB)).1.jK=true then eS st (CA++CB) (dm st (CA++CB)).1.group (cy st (CA++CB) BR AR []).1 else fC st (CA++CB) (dm st (CA++CB)).1.order (cy st (CA++CB) BR AR []).1:=rfl
 cbv;refine RM q9 hx hC (fun kx y Km GF hy=>?_);have J7:Le h3 kx:=fun b o hb=>Km _ _ (l39 _ _ hb) (fun hn=>by
  have:b=qp:=by simpa using hn
  rw[this,f4]at hb;cases hb)
 have DL:Kp [pb] h kx:=DJ.trans (J7.kp _);obtain⟨F,hF⟩:∃F,dm st (CA++CB)=F:=⟨_,rfl⟩;rw[hF]at nk hy AK |-;obtain⟨fy,fe⟩:=F;replace nk:iF st (CA++CB) AR BR=if fe≠0 then([],fe)else if AR.length*BR.length>4000 then([],4)else if(cy st (CA++CB) BR AR []).2≠0 then([],(cy st (CA++CB) BR AR []).2)else
  if fy.jK=true then eS st (CA++CB) fy.group (cy st (CA++CB) BR AR []).1 else fC st (CA++CB) fy.order (cy st (CA++CB) BR AR []).1:=nk
 have ffe:A .aG .neq fe 0=decide (fe≠0):=aB A ..;have Ds:=q3.mono J7;cbv;rw[ffe];by_cases K8:fe≠0
 ·rw[if_pos K8]at nk;rw[nk]at hP;subst hP;have ae:=hk kx none 0 0 DL Ds Sl.nil;clear hk;rw[decide_eq_true K8];cbv;exact ae
 rw[if_neg K8]at nk;have Io:fe=0:=Decidable.not_not.1 K8;subst Io;have QU:y=fy:=hy rfl;subst QU;obtain⟨Y5,hyp⟩:=AK y rfl;rw[decide_eq_false K8];obtain⟨cq9,Q9⟩:=q9.has;have SY:Sl 59 aL kx (.slice t2 u2 w2) AR:=qA9.mono (Km.vH Q9 (by decide));have SX:Sl 59 aL kx (.slice (some ⟨tG,0,none⟩) 1 1) BR:=qB9.mono (Km.vH Q9 (by decide));have fm:A .aG .gtr (A .bA .mul .i64 (A .nat u2) (A .nat 1)) 4000=decide (AR.length*BR.length>4000):=by rw[E3 (A:=A) (aS.nat (A:=A) u2) (aS.nat (A:=A) 1) (by omega) (by omega)];apply decide_eq_decide.2;rw[<-Ih,<-Hb]
 cbv;rw[fm];by_cases hm:AR.length*BR.length>4000
 ·rw[if_pos hm]at nk;rw[nk]at hP;subst hP;have ae:=hk kx none 0 0 DL Ds Sl.nil;clear hk;rw[decide_eq_true hm];cbv;exact ae
 rw[if_neg hm]at nk;rw[decide_eq_false hm];have Vw:=pX (x:=st) (cols:=CA++CB) (bs:=BR) (as_:=AR) (out:=[]);have hPl:=pY (x:=st) (cols:=CA++CB) (bs:=BR) (as_:=AR) (out:=[]);cbv;refine QC GF hx hC VC XB (by omega) (by omega) rfl rfl SY SX (fun B3 b11 n11 c11 Th uI ZE zF=>?_);generalize cy st (CA++CB) BR AR []=P at *;obtain⟨PR,pe⟩:=P;replace nk:iF st (CA++CB) AR BR=if pe≠0 then([],pe)else if y.jK=true then eS st (CA++CB) y.group PR else fC st (CA++CB) y.order PR:=nk
 replace zF:Bx 59 aL kx B3 Th (.slice b11 n11 c11) PR:=zF;replace Vw:∀r∈PR,r∈[]\/∃a∈AR,∃b∈BR,r=a++b:=Vw;replace hPl:PR.length<=0+AR.length*BR.length:=hPl;have hPr:∀r∈PR,fM r:=fun r hr v hv=>by
  rcases Vw r hr with h| ⟨a,ha,b,hb,e⟩
  ·cases h
  ·rw[e]at hv;rcases List.mem_append.1 hv with h|h
   ·exact(VC a ha).1 v h
   ·exact(XB b hb).1 v h
 have hPw:∀r∈PR,(CA++CB).length<=r.length:=fun r hr=>by
  rcases Vw r hr with h| ⟨a,ha,b,hb,e⟩
  ·cases h
  ·rw[e,List.length_append,List.length_append,hAw a ha,B1,List.length_nil];omega
 have fpe:A .aG .neq pe 0=decide (pe≠0):=aB A ..;have DK:Kp [pb] h B3:=DL.trans (uI.kp _);have Dr:=Ds.mono uI;have Jy:=GF.mono uI;cbv;rw[fpe];by_cases OU:pe≠0
 ·rw[if_pos OU]at nk;rw[nk]at hP;subst hP;have ae:=hk B3 none 0 0 DK Dr Sl.nil;clear hk;rw[decide_eq_true OU];cbv;exact ae
 rw[if_neg OU]at nk;rw[decide_eq_false OU];refine Jy.elim (fun b5 n5 c5 b6 n6 c6 b7 n7 c7 b8 n8 c8 b9 n9 c9 fG gG fF cb cn cc VP r1 r2 r3 r4 r5 r6 r7=>?_);clear r1 r2 r3 r4 r5 r6 r7;obtain⟨yg,Ut⟩:∃yg,yg=y.jK:=⟨_,rfl⟩;rw[<-Ut]at VP nk Y5 hyp;cbv;first|rw[ai A,ai A] |rw[ai A] |skip
 refine av VP rfl rfl ?_;cases yg with
 |true=>rw[if_pos rfl]at nk;rw[nk]at hP;cbv;refine Y5 rfl Jy hx hC hPr (by omega) hF hPw uI zF.buf (fun uu WN ML P0 gh H7=>?_);generalize eS st (CA++CB) y.group PR=G at *;obtain⟨GR,ge⟩:=G;subst hP;have ae:=hk uu WN ML P0 (DL.trans (gh.kp _)) (Ds.mono gh) H7;clear hk;cbv;exact ae
 |false=>rw[if_neg (by simp)]at nk;rw[nk]at hP;cbv;refine hyp rfl Jy hx hC hPr (by omega) hF hPw uI zF.buf (fun uu WN ML P0 gh H7=>?_);generalize fC st (CA++CB) y.order PR=G at *;obtain⟨GR,ge⟩:=G;subst hP;have ae:=hk uu WN ML P0 (DL.trans (gh.kp _)) (Ds.mono gh) H7;clear hk;cbv;exact ae
end Go.S
