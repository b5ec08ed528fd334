import Derived.Test.YtekoaiendgjkdaaGreatQD
import Derived.Test.YtekoaiendgjkdaaGreatQC
set_option linter.unusedVariables false
set_option linter.unusedSimpArgs false
set_option linter.unusedSectionVars false
set_option maxRecDepth 100000
set_option maxHeartbeats 8000000
namespace Go.S
open Go.Sx Go.Proofs
theorem Sv{h:ad}{pb:Nat}{d:DB}{s:Int}{st:aA}(q:iD h pb d s st){n:Nat}(ok:uR n d)(kT:n<2^18){wb:Nat}(gw:h wb=some (.cells #[.pointer (some ⟨pb,0,none⟩)] 99 (0,0)))(nm:ByteArray){k:Value->ad->Prop}
 (hk:∀h',Kp [pb] h h'->iD h' pb (ax d ⟨s,nm,false⟩).1 s st->k (.int .i64 (ax d ⟨s,nm,false⟩).2) h'):Ct 98 [.string nm,.pointer (some ⟨wb,0,none⟩)] h k:=by
 obtain⟨A,hA⟩:=Ar.ex;refine af A (ar T98.aw T98.aZ) Tryz.func98 rfl (by kernel_rfl) ?_;cbv;refine ay gw rfl rfl ?_;cbv;refine MI q ok kT nm false (fun h1 k1 q1=>?_);have ae:=hk h1 k1 q1;generalize (ax d ⟨s,nm,false⟩).2=e at *;clear hk;cbv;exact ae
def dF(s:Int):List ByteArray->DB->DB×Int:=uA fun d nm=>ax d ⟨s,nm,false⟩
theorem Co{s:Int}(hs:-2^63<=s/\s<2^63):∀ {l:List ByteArray} {n:Nat} {d:DB},EJ n d->EJ (n+l.length) (dF s l d).1
 | [],n,d,h=>h
 |x::r,n,d,h=>by
  have h1:=h.hold ⟨s,x,false⟩ hs;show EJ _ (uA (fun d nm=>ax d ⟨s,nm,false⟩) (x::r) d).1;rw[BH];generalize ax d ⟨s,x,false⟩=H at *;obtain⟨d1,e⟩:=H;show EJ _ (if e≠0 then(d1,e)else dF s r d1).1;by_cases h0:e≠0
  ·rw[if_pos h0];exact EJ.le h1 (by simp only[List.length_cons];omega)
  ·rw[if_neg h0];exact(Co hs h1).le (by simp only[List.length_cons];omega)
theorem Hy{h:ad}{pb:Nat}{d:DB}{s:Int}{st:aA}(q:iD h pb d s st){n:Nat}(ej:EJ n d){names:List ByteArray}(kT:n+names.length+2<2^18)(nN:-2^63<=s/\s<2^63){wb:Nat}(gw:h wb=some (.cells #[.pointer (some ⟨pb,0,none⟩)] 99 (0,0)))(nw:wb≠pb)
 {b:Option Addr} {n1 c1:Nat} (qn:Sl 9 cK h (.slice b n1 c1) names) {k:Value->ad->Prop}
 (hk:∀h',Kp [pb] h h'->iD h' pb (dF s names d).1 s st->k (.int .i64 (dF s names d).2) h'):
 Ct 99 [.slice b n1 c1,.func (.func 98) #[] #[.pointer (some ⟨wb,0,none⟩)]] h k:=by
 have hn:=qn.len;obtain⟨D,hD⟩:∃D,dF s names d=D:=⟨_,rfl⟩;rw[hD]at hk;obtain⟨I,bm⟩:∃I:Nat->ad->Prop,∀i h',I i h'=∃d',iD h' pb d' s st/\EJ (n+i) d'/\Kp [pb] h h'/\dF s (names.drop i) d'=D:=⟨_,fun _ _=>rfl⟩;have hJ:I 0 h:=by rw[bm];exact⟨d,q,ej,Kp.refl _ _,hD⟩
 refine HX hn I hJ (fun i h' hI=>?_) (fun i x h' hi hx hI _=>?_) (fun h' hI=>?_)
 ·rw[bm]at hI;obtain⟨d',q',Y0,kp,-⟩:=hI;exact qn.mono (q.kp kp (by decide))
 ·rw[bm]at hI;obtain⟨d',q',Y0,kp,he⟩:=hI;have hd:names.drop i=x::names.drop (i+1):=by obtain⟨h1,h2⟩:=List.getElem?_eq_some_iff.1 hx;rw[List.drop_eq_getElem_cons h1,h2]
  rw[hd]at he;replace he:(match ax d' ⟨s,x,false⟩with
   | (d2,e)=>if e≠0 then(d2,e)else dF s (names.drop (i+1)) d2)=D:=he
  have ej2:=Y0.hold ⟨s,x,false⟩ nN;refine Sv q' Y0.sj.DE (by omega) (kp _ _ gw (by simpa using nw)) x (fun h2 k2 q2=>⟨_,rfl,fun h0=>?_,fun h0=>?_⟩)
  ·generalize ax d' ⟨s,x,false⟩=E at *;obtain⟨d2,e⟩:=E;replace he:(if e≠0 then(d2,e)else dF s (names.drop (i+1)) d2)=D:=he;rw[if_neg (fun g=>g h0)]at he;rw[bm];exact⟨d2,q2,ej2,kp.trans k2,he⟩
  ·generalize ax d' ⟨s,x,false⟩=E at *;obtain⟨d2,e⟩:=E;replace he:(if e≠0 then(d2,e)else dF s (names.drop (i+1)) d2)=D:=he;rw[if_pos h0]at he;subst he;exact hk h2 (kp.trans k2) q2
 ·rw[bm]at hI;obtain⟨d',q',Y0,kp,he⟩:=hI;rw[List.drop_of_length_le (by omega)]at he;replace he:(d',0)=D:=he;subst he;exact hk h' kp q'
def cF(st:aA):List ByteArray:=if st.join=b0 then [st.table]else [st.table,st.join]
def gQ(d:DB)(st:aA):List bS:=cj (dG d st.table)++(if st.join=b0 then []else cj (dG d st.join))
def Dq(d:DB)(st:aA):List Row:=if st.join=b0 then [[]]else(dG d st.join).rows
theorem AT(d:DB)(s:Int)(st:aA):fM d s st=if st.join=st.table then(d,[],7)else if(dF s (cF st) d).2≠0 then((dF s (cF st) d).1,[],(dF s (cF st) d).2)else
 ((dF s (cF st) d).1,sR st (gQ (dF s (cF st) d).1 st) (dG (dF s (cF st) d).1 st.table).rows (Dq (dF s (cF st) d).1 st)):=by
 unfold fM;by_cases h0:st.join=st.table
 ·rw[if_pos h0,if_pos h0]
 ·rw[if_neg h0,if_neg h0];by_cases hj:st.join=b0
  ·have hn:cF st=[st.table]:=by unfold cF;rw[if_pos hj]
   rw[hn];have hh:dF s [st.table] d=if(ax d ⟨s,st.table,false⟩).2≠0 then ax d ⟨s,st.table,false⟩else((ax d ⟨s,st.table,false⟩).1,0):=by
    show(match ax d ⟨s,st.table,false⟩with
     | (d',e)=>if e≠0 then(d',e)else(d',0))=_
    generalize ax d ⟨s,st.table,false⟩=H;obtain⟨d1,e⟩:=H;rfl
   rw[hh];generalize ax d ⟨s,st.table,false⟩=H;obtain⟨d1,e⟩:=H;by_cases he:e≠0
   ·simp only[he,if_true,ne_eq,not_false_eq_true]
   ·have he:e=0:=Decidable.not_not.1 he;subst he;simp only[hj,if_true,ne_eq,not_true_eq_false,if_false,gQ,Dq,List.append_nil]
  ·have hn:cF st=[st.table,st.join]:=by unfold cF;rw[if_neg hj]
   rw[hn];have hh:dF s [st.table,st.join] d=if(ax d ⟨s,st.table,false⟩).2≠0 then ax d ⟨s,st.table,false⟩else if(ax (ax d ⟨s,st.table,false⟩).1 ⟨s,st.join,false⟩).2≠0 then ax (ax d ⟨s,st.table,false⟩).1 ⟨s,st.join,false⟩else((ax (ax d ⟨s,st.table,false⟩).1 ⟨s,st.join,false⟩).1,0):=by
    show(match ax d ⟨s,st.table,false⟩with
     | (d',e)=>if e≠0 then(d',e)else match ax d' ⟨s,st.join,false⟩with
      | (d',e)=>if e≠0 then(d',e)else(d',0))=_
    generalize ax d ⟨s,st.table,false⟩=H;obtain⟨d1,e⟩:=H;show(if e≠0 then(d1,e)else match ax d1 ⟨s,st.join,false⟩with
     | (d',e)=>if e≠0 then(d',e)else(d',0))=_
    generalize ax d1 ⟨s,st.join,false⟩=H2;obtain⟨d2,e2⟩:=H2;rfl
   rw[hh];generalize ax d ⟨s,st.table,false⟩=H;obtain⟨d1,e⟩:=H;by_cases he:e≠0
   ·simp only[he,if_true,ne_eq,not_false_eq_true]
   ·have he:e=0:=Decidable.not_not.1 he;subst he;simp only[ne_eq,not_true_eq_false,if_false,hj];generalize ax d1 ⟨s,st.join,false⟩=H2;obtain⟨d2,e2⟩:=H2;by_cases he:e2≠0
    ·simp only[he,if_true,ne_eq,not_false_eq_true]
    ·have he:e2=0:=Decidable.not_not.1 he;subst he;simp only[hj,if_false,ne_eq,not_true_eq_false,gQ,Dq]
theorem Gg{x:aA}{cols:List bS}{a b:Row}{out:List Row}:∀r∈(mq x cols a b out).1,r∈out\/r=a++b:=by
 intro r hr;unfold mq at hr;generalize eA x.on cols (a++b)=H at hr;obtain⟨on,e⟩:=H;generalize eA x.bT cols (a++b)=H2 at hr;obtain⟨is,e2⟩:=H2;replace hr:r∈(if e≠0 then(out,e)else if on=false then(out,0)else(if e2≠0 then(out,e2)else(if is=true then out++[a++b]else out,0)):List Row×Int).1:=hr;split at hr
 ·exact .inl hr
 ·split at hr
  ·exact .inl hr
  ·split at hr
   ·exact .inl hr
   ·have hr:r∈(if is=true then out++[a++b]else out):=hr;split at hr
    ·rcases List.mem_append.1 hr with h|h
     ·exact .inl h
     ·exact .inr (by simpa using h)
    ·exact .inl hr
theorem vT{x:aA}{cols:List bS}{a:Row}:∀ {bs out:List Row},∀r∈(fA x cols a bs out).1,r∈out\/∃b∈bs,r=a++b
 | [],out,r,h=>.inl h
 |b::bs,out,r,h=>by
  rw[mT]at h;have h1:∀r∈(mq x cols a b out).1,r∈out\/∃c∈b::bs,r=a++c:=fun r hr=>by
   rcases Gg r hr with g|g
   ·exact .inl g
   ·exact .inr ⟨b,List.mem_cons_self,g⟩
  split at h
  ·exact h1 r h
  ·rcases vT r h with g| ⟨c,g1,g2⟩
   ·exact h1 r g
   ·exact .inr ⟨c,List.mem_cons_of_mem _ g1,g2⟩
theorem tD{x:aA}{cols:List bS}{bs:List Row}:∀ {as_ out:List Row},∀r∈(dC x cols bs as_ out).1,r∈out\/∃a∈as_,∃b∈bs,r=a++b
 | [],out,r,h=>.inl h
 |a::as_,out,r,h=>by
  rw[mU]at h;have h1:=vT (x:=x) (cols:=cols) (a:=a) (bs:=bs) (out:=out);generalize fA x cols a bs out=E at *;obtain⟨o,e⟩:=E;replace h:r∈(if e≠0 then(o,e)else dC x cols bs as_ o).1:=h;have h2:∀r∈o,r∈out\/∃a'∈a::as_,∃b∈bs,r=a'++b:=fun r hr=>by
   rcases h1 r hr with g| ⟨b,g1,g2⟩
   ·exact .inl g
   ·exact .inr ⟨a,List.mem_cons_self,b,g1,g2⟩
  split at h
  ·exact h2 r h
  ·rcases tD r h with g| ⟨a',g1,g2⟩
   ·exact h2 r g
   ·exact .inr ⟨a',List.mem_cons_of_mem _ g1,g2⟩
theorem tE{x:aA}{cols:List bS}{bs:List Row}:∀ {as_ out:List Row},(dC x cols bs as_ out).1.length<=out.length+as_.length*bs.length
 | [],out=>by show out.length<=_;omega
 |a::as_,out=>by
  rw[mU];have h1:=oN (x:=x) (cols:=cols) (a:=a) (bs:=bs) (out:=out);generalize fA x cols a bs out=E at *;obtain⟨o,e⟩:=E;show(if e≠0 then(o,e)else dC x cols bs as_ o).1.length<=_;have hm:(a::as_).length*bs.length=as_.length*bs.length+bs.length:=by rw[List.length_cons];exact Nat.succ_mul _ _
  have h1:o.length<=out.length+bs.length:=h1;split
  ·show o.length<=_;omega
  ·have:=tE (x:=x) (cols:=cols) (bs:=bs) (as_:=as_) (out:=o);omega
theorem Kn{A:Ar}[hA:aP A]{z w:Int}{i j:Nat}(hz:aO z i)(hw:aO w j)(hi:i<=2^20)(hj:j<=2^20):A .aD .gtr (A .bu .mul .i64 z w) 4000=decide (i*j>4000):=by
 have h1:=hz.eq;have h2:=hw.eq;have hm:i*j<=2^20*2^20:=Nat.mul_le_mul hi hj;have he:z*w=((i*j:Nat):Int):=by rw[h1,h2];exact(Int.natCast_mul i j).symm
 have hr:A .bu .mul .i64 z w=((i*j:Nat):Int):=by rw[hA.bu];simp only[bu];rw[he,IntWalk.i64_in _ (by omega)]
 rw[hr,bB A];apply decide_eq_decide.2;omega
def PlC(x:aA)(y:Qy):Prop:=∀ {h:ad} {qp:Nat} {cols:List bS} (q:kL h qp x cols y) (hx:gy x) (hc:∀c∈cols,Nm c.name) {rows:List Row} (hr:∀r∈rows,iF r) (Ni:rows.length<=2^20) {rb:Option Addr} {rn rc:Nat} (qr:Sl 59 aN h (.slice rb rn rc) rows)
 {k:Value->ad->Prop} (hk:∀h' b n c,Le h h'->Sl 59 aN h' (.slice b n c) (oM x cols y.order rows).1->k (.tuple #[.slice b n c,.int .i64 (oM x cols y.order rows).2]) h'),Ct 102 [.pointer (some ⟨qp,0,none⟩),.slice rb rn rc] h k
def MG(x:aA)(y:Qy):Prop:=∀ {h:ad} {qp:Nat} {cols:List bS} (q:kL h qp x cols y) (hx:gy x) (hc:∀c∈cols,Nm c.name) {rows:List Row} (hr:∀r∈rows,iF r) (Ni:rows.length<=2^20) {rb:Option Addr} {rn rc:Nat} (qr:Sl 59 aN h (.slice rb rn rc) rows)
 {k:Value->ad->Prop} (hk:∀h' b n c,Le h h'->Sl 59 aN h' (.slice b n c) (ig x cols y.group rows).1->k (.tuple #[.slice b n c,.int .i64 (ig x cols y.group rows).2]) h'),Ct 103 [.pointer (some ⟨qp,0,none⟩),.slice rb rn rc] h k
def Rm(d:DB)(s:Int)(st:aA):Prop:=∀ {h:ad} {pb:Nat} (q:iD h pb d s st) (hx:gy st) {n:Nat} (ej:EJ n d) (kT:n+700<2^18) (nN:-2^63<=s/\s<2^63) {k:Value->ad->Prop}
 (hk:∀h' b n c,Kp [pb] h h'->iD h' pb (fM d s st).1 s st->Sl 59 aN h' (.slice b n c) (fM d s st).2.1->k (.tuple #[.slice b n c,.int .i64 (fM d s st).2.2]) h'),Ct 44 [.pointer (some ⟨pb,0,none⟩)] h k
def UpdC(d:DB)(s:Int)(st:aA):Prop:=∀ {h:ad} {pb:Nat} (q:iD h pb d s st) (hx:gy st) {n:Nat} (ej:EJ n d) (kT:n+700<2^18) (nN:-2^63<=s/\s<2^63) {k:Value->ad->Prop}
 (hk:∀h',Kp [pb] h h'->iD h' pb (kg d s st).1 s st->k (.tuple #[.slice none 0 0,.int .i64 (kg d s st).2.2]) h'),Ct 42 [.pointer (some ⟨pb,0,none⟩)] h k
def DelC(d:DB)(s:Int)(st:aA):Prop:=∀ {h:ad} {pb:Nat} (q:iD h pb d s st) (hx:gy st) {n:Nat} (ej:EJ n d) (kT:n+700<2^18) (nN:-2^63<=s/\s<2^63) {k:Value->ad->Prop}
 (hk:∀h',Kp [pb] h h'->iD h' pb (kD d s st).1 s st->k (.tuple #[.slice none 0 0,.int .i64 (kD d s st).2.2]) h'),Ct 43 [.pointer (some ⟨pb,0,none⟩)] h k
structure uS(d:DB)(s:Int)(st:aA):Prop where
 sel:st.kind=6->Rm d s st
 C8:st.kind=4->UpdC d s st
 del:st.kind=5->DelC d s st
def SelP(d:DB)(s:Int)(st:aA):Prop:=∀y,eQ st (gQ (dF s (cF st) d).1 st)=(y,0)->(y.mE=true->MG st y)/\(y.mE=false->PlC st y)
theorem uS.no{d:DB}{s:Int}{st:aA}(h:st.kind≠6)(h4:st.kind≠4)(h5:st.kind≠5):uS d s st:=⟨fun e=>absurd e h,fun e=>absurd e h4,fun e=>absurd e h5⟩
theorem uS.SQ{d:DB}{s:Int}{st:aA}(h:st.kind=6)(hs:Rm d s st):uS d s st:=⟨fun _=>hs,fun e=>absurd (e.symm.trans h) (by decide),fun e=>absurd (e.symm.trans h) (by decide)⟩
theorem selE{h:ad}{pb:Nat}{d:DB}{s:Int}{st:aA}(q:iD h pb d s st)(hx:gy st)(hj:st.join=b0){n:Nat}(ej:EJ n d)(kT:n+700<2^18)(nN:-2^63<=s/\s<2^63)
 (Nh:∀y,eQ st (gQ (dF s (cF st) d).1 st)=(y,0)->(y.mE=true->MG st y)/\(y.mE=false->PlC st y)) {k:Value->ad->Prop}
 (hk:∀h' b n c,Kp [pb] h h'->iD h' pb (fM d s st).1 s st->Sl 59 aN h' (.slice b n c) (fM d s st).2.1->k (.tuple #[.slice b n c,.int .i64 (fM d s st).2.2]) h'):
 Ct 44 [.pointer (some ⟨pb,0,none⟩)] h k:=by
 obtain⟨A,hA⟩:=Ar.ex;have hP:=AT d s st;generalize fM d s st=D at *;obtain⟨c,hp⟩:=q.has;have fjt:A .jm .eql st.join st.table=decide (st.join=st.table):=bL A ..;have fj:A .jm .eql st.join ⟨#[]⟩=decide (st.join=b0):=bL A ..;have fj2:A .jm .neq st.join ⟨#[]⟩=decide (st.join≠b0):=xi A ..;refine q.elim (fun b1 n1 c1 b2 n2 c2 b3 n3 c3 b4 n4 c4 b5 n5 c5 b6 n6 c6 b7 n7 c7 b8 n8 c8 b9 n9 c9 fJ iq fI g qd q1 q2 q3 q4 q5 q6=>?_);clear qd q1 q2 q3 q4 q5 q6;refine af A (ar T44.aw T44.aZ) Tryz.func44 rfl (by kernel_rfl) ?_;cbv;intro wb h1 gn e1;have l1:Le h h1:=by rw[e1];exact Le.set gn
 have vr:h1 wb=some (.cells #[.pointer (some ⟨pb,0,none⟩)] 99 (0,0)):=by rw[e1];exact ah
 have nw:wb≠pb:=fun e=>by rw[e,hp]at gn;cases gn
 have g1:=l1 _ _ g;clear e1;cbv;repeat (first| (rw[aj A,aj A];refine ay vr rfl rfl ?_;cbv) | (rw[aj A];refine ay vr rfl rfl ?_;cbv) | (refine ay vr rfl rfl ?_;cbv) | (rw[aj A,aj A];refine ay g1 rfl rfl ?_;cbv) | (rw[aj A];refine ay g1 rfl rfl ?_;cbv) | (refine ay g1 rfl rfl ?_;cbv) | (refine⟨⟨_,rfl,rfl⟩,?_⟩;cbv))
 rw[fjt];by_cases YF:st.join=st.table
 ·rw[if_pos YF]at hP;subst hP;have ae:=hk h1 none 0 0 (l1.kp _) (q.mono l1) Sl.nil;clear hk;rw[decide_eq_true YF];cbv;exact ae
 rw[if_neg YF]at hP;rw[decide_eq_false YF];cbv;repeat (first| (rw[aj A,aj A];refine ay vr rfl rfl ?_;cbv) | (rw[aj A];refine ay vr rfl rfl ?_;cbv) | (refine ay vr rfl rfl ?_;cbv) | (rw[aj A,aj A];refine ay g1 rfl rfl ?_;cbv) | (rw[aj A];refine ay g1 rfl rfl ?_;cbv) | (refine ay g1 rfl rfl ?_;cbv) | (refine⟨⟨_,rfl,rfl⟩,?_⟩;cbv))
 intro nb h2 f2 e2;have l2:Le h1 h2:=by rw[e2];exact Le.set f2
 have qn:Sl 9 cK h2 (.slice (some ⟨nb,0,none⟩) 2 2) [st.table,st.join]:=by
  refine Sl.fresh (s:=cK) (h:=h2) (n:=nb) (xs:=[st.table,st.join]) (cap:=2) (c:=[.string st.table,.string st.join]) (by rw[e2];exact ah) ⟨Nat.le_refl 2,fun i x hx=>?_⟩ (by show 2<=_;omega) (Nat.le_refl 2)
  match i,hx with
  |0,hx=>cases hx;rfl
  |1,hx=>cases hx;rfl
  |i+2,hx=>simp at hx
 have lT:=l1.trans l2;have Bv:=l2 _ _ vr;have g2:=l2 _ _ g1;have q2:=q.mono lT;clear e2 g1 vr;cbv;repeat (first| (rw[aj A,aj A];refine ay Bv rfl rfl ?_;cbv) | (rw[aj A];refine ay Bv rfl rfl ?_;cbv) | (refine ay Bv rfl rfl ?_;cbv) | (rw[aj A,aj A];refine ay g2 rfl rfl ?_;cbv) | (rw[aj A];refine ay g2 rfl rfl ?_;cbv) | (refine ay g2 rfl rfl ?_;cbv) | (refine⟨⟨_,rfl,rfl⟩,?_⟩;cbv))
 rw[fj];rw[decide_eq_true hj];have nh:cF st=[st.table]:=by unfold cF;rw[if_pos hj]
 have Lf:A .qI 1 0=1:=by rw[hA.qI];rfl
 have qn1:Sl 9 cK h2 (.slice (A .cut (some ⟨nb,0,none⟩) 0 (A .nat 2) 1) 1 2) [st.table]:=by have:=qn.vK (A:=A) (z:=A .nat 2) (i:=1) (by omega) rfl rfl;exact Sl.MQ this (by omega)
 cbv;refine⟨by decide,?_⟩;cbv;rw[Lf];have rY:(cF st).length=1:=by rw[nh];rfl
 obtain⟨NB,hNB⟩:∃NB,A .cut (some ⟨nb,0,none⟩) 0 (A .nat 2) 1=NB:=⟨_,rfl⟩;have qnn:Sl 9 cK h2 (.slice NB 1 2) (cF st):=by rw[<-hNB,nh];exact qn1
 rw[hNB];clear hNB qn1;cbv;refine Hy q2 ej (by rw[rY];omega) nN Bv nw qnn (fun h3 k3 q3=>?_);have YZ:=Co nN (l:=cF st) ej;rw[rY]at YZ;generalize dF s (cF st) d=H at *;obtain⟨d1,e⟩:=H;replace q3:iD h3 pb d1 s st:=q3;replace YZ:EJ (n+1) d1:=YZ;replace hP:D=if e≠0 then(d1,[],e)else(d1,sR st (gQ d1 st) (dG d1 st.table).rows (Dq d1 st)):=hP
 replace Nh:∀y,eQ st (gQ d1 st)=(y,0)->(y.mE=true->MG st y)/\(y.mE=false->PlC st y):=Nh;have fe:A .aD .neq e 0=decide (e≠0):=aC A ..;have Yu:Kp [pb] h h3:=(lT.kp _).trans k3;have YT:=k3 _ _ Bv (by simpa using nw);clear q2 qn qnn Bv g2;by_cases h0:e≠0
 ·rw[if_pos h0]at hP;subst hP;have ae:=hk h3 none 0 0 Yu q3 Sl.nil;clear hk;cbv;rw[fe,decide_eq_true h0];cbv;exact ae
 rw[if_neg h0]at hP;have Ln:=YZ.held st.table;have PC:gQ d1 st=cj (dG d1 st.table)++[]:=by unfold gQ;rw[if_pos hj]
 have zu:Dq d1 st=[[]]:=by unfold Dq;rw[if_pos hj]
 rw[PC,zu]at hP;rw[PC]at Nh;refine q3.elim (fun b1x n1x c1x b2x n2x c2x b3x n3x c3x b4x n4x c4x Zh Yi Zc Zg Yh Zb Zf Yg Za Ze Yf Y8 Zd Ye Y6 Mm Km Md g3 qdx p1 p2 p3 p4 p5 p6=>?_);clear qdx;cbv;rw[fe,decide_eq_false h0];cbv;repeat (first| (rw[aj A,aj A];refine ay YT rfl rfl ?_;cbv) | (rw[aj A];refine ay YT rfl rfl ?_;cbv) | (refine ay YT rfl rfl ?_;cbv) | (rw[aj A,aj A];refine ay g3 rfl rfl ?_;cbv) | (rw[aj A];refine ay g3 rfl rfl ?_;cbv) | (refine ay g3 rfl rfl ?_;cbv) | (refine⟨⟨_,rfl,rfl⟩,?_⟩;cbv))
 intro qp h4 f4 e4;have l4:Le h3 h4:=by rw[e4];exact Le.set f4
 have q4:kL h4 qp st [] ⟨-1,-1,false⟩:=⟨⟨Zh,Yi,Zc,Zg,Yh,Zb,Zf,Yg,Za,Ze,Yf,Y8,Zd,Ye,Y6,Mm,Km,Md,none,0,0,by rw[e4];exact ah,p1.mono (l4.t _),p2.mono (l4.t _),p3.mono (l4.t _),p4.mono (l4.t _),p5.mono (l4.t _),p6.mono (l4.t _),Sl.nil⟩⟩;have g4:=l4 _ _ g3;have R3:=l4 _ _ YT;clear p1 p2 p3 p4 p5 p6 e4;cbv;repeat (first| (rw[aj A,aj A];refine ay R3 rfl rfl ?_;cbv) | (rw[aj A];refine ay R3 rfl rfl ?_;cbv) | (refine ay R3 rfl rfl ?_;cbv) | (rw[aj A,aj A];refine ay g4 rfl rfl ?_;cbv) | (rw[aj A];refine ay g4 rfl rfl ?_;cbv) | (refine ay g4 rfl rfl ?_;cbv) | (refine⟨⟨_,rfl,rfl⟩,?_⟩;cbv))
 refine Uj (q3.mono l4) st.table (fun T t1 u1 w1 t2 u2 w2 hT s1 s2=>?_);rw[<-hT]at Ln hP Nh;clear hT PC;cbv;repeat (refine⟨⟨_,rfl,rfl⟩,?_⟩;cbv)
 intro tJ h5 f5 e5;have l5:Le h4 h5:=by rw[e5];exact Le.set f5
 have s5:Sl 59 aN h5 (.slice (some ⟨tJ,0,none⟩) 1 1) [[]]:=bX (s:=aN) ((congrFun e5 tJ).trans ah) ⟨_,rfl,Sl.nil⟩;have g5:=l5 _ _ g4;have UL:=l5 _ _ R3;clear e5;cbv;repeat (first| (rw[aj A,aj A];refine ay UL rfl rfl ?_;cbv) | (rw[aj A];refine ay UL rfl rfl ?_;cbv) | (refine ay UL rfl rfl ?_;cbv) | (rw[aj A,aj A];refine ay g5 rfl rfl ?_;cbv) | (rw[aj A];refine ay g5 rfl rfl ?_;cbv) | (refine ay g5 rfl rfl ?_;cbv) | (refine⟨⟨_,rfl,rfl⟩,?_⟩;cbv))
 rw[fj2];rw[decide_eq_false (show ¬st.join≠b0 from fun g=>g hj)];obtain⟨BR,hBR⟩:∃BR:List Row,BR=[[]]:=⟨_,rfl⟩;obtain⟨CB,Lt⟩:∃CB:List bS,CB=[]:=⟨_,rfl⟩;rw[<-hBR]at s5 hP;rw[<-Lt]at hP Nh;have hBl:BR.length<=200:=by rw[hBR];decide
 have hBr:∀b∈BR,iF b/\b.length<=2^20:=fun b hb=>by
  rw[hBR]at hb;have:b=[]:=by simpa using hb
  subst this;exact⟨fun v hv=>(by cases hv),by decide⟩
 have hCB:∀c∈CB,Nm c.name:=fun c hc=>by rw[Lt]at hc;cases hc
 have Hn:=s5.len;cbv;have hAl:=Ln.len;have hAr:∀a∈T.rows,iF a/\a.length<=2^20:=fun a ha=>⟨(Ln.row a ha).2,by obtain⟨_,_,e,-⟩:=(Ln.row a ha).1;rw[e];show 2<=_;decide⟩;have hCA:∀c∈cj T,Nm c.name:=fun c D9=>by
  obtain⟨c0,h1,h2⟩:=List.mem_map.1 D9;rw[<-h2];exact L4 Ln.nm (Ln.CQ c0 h1)
 have hC:∀c∈cj T++CB,Nm c.name:=fun c hc=>by
  rcases List.mem_append.1 hc with h|h
  ·exact hCA c h
  ·exact hCB c h
 have hlA:u1<=2:=by
  have h1:=s1.len;rcases Ln.cols with h2| ⟨h2,-⟩
  ·rw[h2]at h1;rw[h1];decide
  ·rw[h2]at h1;rw[h1];decide
 have KW:=s2.len;obtain⟨AR,hAR⟩:∃AR,AR=T.rows:=⟨_,rfl⟩;rw[<-hAR]at hAl hAr s2 hP KW;have Jh:(cj T).length=u1:=by show(T.S.cols.map _).length=u1;rw[List.length_map,<-s1.len]
 have Us:T.S.cols.map (og T.S.name)=cj T:=rfl;obtain⟨CA,hCAe⟩:∃CA,CA=cj T:=⟨_,rfl⟩;rw[<-hCAe]at hCA hC hP Nh Jh Us;refine zY Ln.nm.nm (fun c hc=>(Ln.CQ c hc).nm) (s1.mono (l5.t _)) _ _ _ _ _ (fun h6 ba na ca l6 Ya=>?_);rw[Us]at Ya;have PX:na<=2:=by have h1:=Ya.sl.len;rw[h1,Jh];exact hlA
 cbv;repeat (refine⟨⟨_,rfl,rfl⟩,?_⟩;cbv)
 refine zY (nm:=b0) (sB (l:=[]) (fun _ h=>by cases h) (by decide)).nm (cols:=[]) (fun c hc=>by cases hc) Sl.nil _ _ _ _ _ (fun h7 bc nc cc l7 X9=>?_);rw[show([]:List bS).map (og b0)=CB from Lt.symm]at X9;have hl7:nc<=2:=by have h1:=X9.sl.len;rw[h1,Lt];decide
 have l57:=l6.trans l7;cbv;refine(Ya.mono (l7.t _)).append X9.sl (by decide) rfl (by decide) (by omega) l57 (fun mz bz cz h8 em8 l8 t8 k8 R2=>?_);clear t8 k8 Ya X9;have q8:=(q4.mono l5).mono l8;have l38:Le h3 h8:=(l4.trans l5).trans l8;refine q8.elim (fun b5 n5 c5 b6 n6 c6 b7 n7 c7 b8 n8 c8 b9 n9 c9 fJ iq fI cb cn cc g8 r1 r2 r3 r4 r5 r6 r7=>?_);cbv;first|rw[aj A,aj A] |rw[aj A] |skip
 refine kP g8 (by simp) (fun h9 e9=>?_);have M1:cG mh h8 h9:=by rw[e9];exact cG.set g8 (by decide)
 have lr9:cG [59,61] h8 h9:=by rw[e9];exact cG.set g8 (by decide)
 have q9:kL h9 qp st (CA++CB) ⟨-1,-1,false⟩:=⟨⟨b5,n5,c5,b6,n6,c6,b7,n7,c7,b8,n8,c8,b9,n9,c9,fJ,iq,fI,bz,mz,cz,by rw[e9];exact ah,r1.mono (M1.sub (by decide)),r2.mono (M1.sub (by decide)),r3.mono (M1.sub (by decide)),r4.mono (M1.sub (by decide)),r5.mono (M1.sub (by decide)),r6.mono (M1.sub (by decide)),R2.sl.mono (M1.sub (by decide))⟩⟩;have l39:Le h3 h9:=fun b o hb=>by rw[e9,aU (fun e=>by rw[e,f4]at hb;cases hb)];exact l38 _ _ hb
 have qA9:Sl 59 aN h9 (.slice t2 u2 w2) AR:=(s2.mono ((l5.trans l8).t _)).mono (lr9.sub (by decide));have qB9:Sl 59 aN h9 (.slice (some ⟨tJ,0,none⟩) 1 1) BR:=(s5.mono (l8.t _)).mono (lr9.sub (by decide));clear r1 r2 r3 r4 r5 r6 r7 e9 M1 lr9 R2 q8 g8 s1 s2;have xT:sR st (CA++CB) AR BR=if(eQ st (CA++CB)).2≠0 then([],(eQ st (CA++CB)).2)else if AR.length*BR.length>4000 then([],4)else if(dC st (CA++CB) BR AR []).2≠0 then([],(dC st (CA++CB) BR AR []).2)else
  if(eQ st (CA++CB)).1.mE=true then ig st (CA++CB) (eQ st (CA++CB)).1.group (dC st (CA++CB) BR AR []).1 else oM st (CA++CB) (eQ st (CA++CB)).1.order (dC st (CA++CB) BR AR []).1:=rfl
 cbv;refine UW q9 hx hC (fun lz y Pc Ja hy=>?_);have S9:Le h3 lz:=fun b o hb=>Pc _ _ (l39 _ _ hb) (fun hn=>by
  have:b=qp:=by simpa using hn
  rw[this,f4]at hb;cases hb)
 have Pe:Kp [pb] h lz:=Yu.trans (S9.kp _);obtain⟨F,hF⟩:∃F,eQ st (CA++CB)=F:=⟨_,rfl⟩;rw[hF]at xT hy Nh |-;obtain⟨fy,fe⟩:=F;replace xT:sR st (CA++CB) AR BR=if fe≠0 then([],fe)else if AR.length*BR.length>4000 then([],4)else if(dC st (CA++CB) BR AR []).2≠0 then([],(dC st (CA++CB) BR AR []).2)else
  if fy.mE=true then ig st (CA++CB) fy.group (dC st (CA++CB) BR AR []).1 else oM st (CA++CB) fy.order (dC st (CA++CB) BR AR []).1:=xT
 have ffe:A .aD .neq fe 0=decide (fe≠0):=aC A ..;have OA:=q3.mono S9;cbv;rw[ffe];by_cases Uh:fe≠0
 ·rw[if_pos Uh]at xT;rw[xT]at hP;subst hP;have ae:=hk lz none 0 0 Pe OA Sl.nil;clear hk;rw[decide_eq_true Uh];cbv;exact ae
 rw[if_neg Uh]at xT;have Jo:fe=0:=Decidable.not_not.1 Uh;subst Jo;have RH:y=fy:=hy rfl;subst RH;obtain⟨hyg,hyp⟩:=Nh y rfl;rw[decide_eq_false Uh];obtain⟨cq9,TK⟩:=q9.has;have qA10:Sl 59 aN lz (.slice t2 u2 w2) AR:=qA9.mono (Pc.y0 TK (by decide));have qB10:Sl 59 aN lz (.slice (some ⟨tJ,0,none⟩) 1 1) BR:=qB9.mono (Pc.y0 TK (by decide));have fm:A .aD .gtr (A .bu .mul .i64 (A .nat u2) (A .nat 1)) 4000=decide (AR.length*BR.length>4000):=by rw[Kn (A:=A) (aO.nat (A:=A) u2) (aO.nat (A:=A) 1) (by omega) (by omega)];apply decide_eq_decide.2;rw[<-KW,<-Hn]
 cbv;rw[fm];by_cases hm:AR.length*BR.length>4000
 ·rw[if_pos hm]at xT;rw[xT]at hP;subst hP;have ae:=hk lz none 0 0 Pe OA Sl.nil;clear hk;rw[decide_eq_true hm];cbv;exact ae
 rw[if_neg hm]at xT;rw[decide_eq_false hm];have hPm:=tD (x:=st) (cols:=CA++CB) (bs:=BR) (as_:=AR) (out:=[]);have hPl:=tE (x:=st) (cols:=CA++CB) (bs:=BR) (as_:=AR) (out:=[]);cbv;refine Sw Ja hx hC hAr hBr (by omega) (by omega) rfl rfl qA10 qB10 (fun Ed b11 n11 c11 nb11 wj hnb11 J8=>?_);generalize dC st (CA++CB) BR AR []=P at *;obtain⟨PR,pe⟩:=P;replace xT:sR st (CA++CB) AR BR=if pe≠0 then([],pe)else if y.mE=true then ig st (CA++CB) y.group PR else oM st (CA++CB) y.order PR:=xT
 replace J8:Bx 59 aN lz Ed nb11 (.slice b11 n11 c11) PR:=J8;replace hPm:∀r∈PR,r∈[]\/∃a∈AR,∃b∈BR,r=a++b:=hPm;replace hPl:PR.length<=0+AR.length*BR.length:=hPl;have hPr:∀r∈PR,iF r:=fun r hr v hv=>by
  rcases hPm r hr with h| ⟨a,ha,b,hb,e⟩
  ·cases h
  ·rw[e]at hv;rcases List.mem_append.1 hv with h|h
   ·exact(hAr a ha).1 v h
   ·exact(hBr b hb).1 v h
 have fpe:A .aD .neq pe 0=decide (pe≠0):=aC A ..;have Pd:Kp [pb] h Ed:=Pe.trans (wj.kp _);have Oz:=OA.mono wj;have OC:=Ja.mono wj;cbv;rw[fpe];by_cases YB:pe≠0
 ·rw[if_pos YB]at xT;rw[xT]at hP;subst hP;have ae:=hk Ed none 0 0 Pd Oz Sl.nil;clear hk;rw[decide_eq_true YB];cbv;exact ae
 rw[if_neg YB]at xT;rw[decide_eq_false YB];refine OC.elim (fun b5 n5 c5 b6 n6 c6 b7 n7 c7 b8 n8 c8 b9 n9 c9 fJ iq fI cb cn cc YV r1 r2 r3 r4 r5 r6 r7=>?_);clear r1 r2 r3 r4 r5 r6 r7;obtain⟨yg,hyge⟩:∃yg,yg=y.mE:=⟨_,rfl⟩;rw[<-hyge]at YV xT hyg hyp;cbv;first|rw[aj A,aj A] |rw[aj A] |skip
 refine ay YV rfl rfl ?_;cases yg with
 |true=>rw[if_pos rfl]at xT;rw[xT]at hP;cbv;refine hyg rfl OC hx hC hPr (by omega) J8.sl (fun vq b12 Ry Vm fO MN=>?_);generalize ig st (CA++CB) y.group PR=G at *;obtain⟨GR,ge⟩:=G;subst hP;have ae:=hk vq b12 Ry Vm (Pd.trans (fO.kp _)) (Oz.mono fO) MN;clear hk;cbv;exact ae
 |false=>rw[if_neg (by simp)]at xT;rw[xT]at hP;cbv;refine hyp rfl OC hx hC hPr (by omega) J8.sl (fun vq b12 Ry Vm fO MN=>?_);generalize oM st (CA++CB) y.order PR=G at *;obtain⟨GR,ge⟩:=G;subst hP;have ae:=hk vq b12 Ry Vm (Pd.trans (fO.kp _)) (Oz.mono fO) MN;clear hk;cbv;exact ae
end Go.S
