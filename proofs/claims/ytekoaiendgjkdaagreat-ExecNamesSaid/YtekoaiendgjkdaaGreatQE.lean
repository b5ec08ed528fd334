import Derived.Test.YtekoaiendgjkdaaGreatQD
import Derived.Test.YtekoaiendgjkdaaGreatQC
set_option linter.unusedVariables false
set_option linter.unusedSimpArgs false
set_option linter.unusedSectionVars false
set_option maxRecDepth 100000
set_option maxHeartbeats 8000000
namespace Go.S
open Go.Sx Go.Proofs
theorem US{h:ad}{pb:Nat}{d:DB}{s:Int}{st:aB}(q:di h pb d s st){n:Nat}(ok:sK n d)(iq:n<2^18){wb:Nat}(gw:h wb=some (.cells #[.pointer (some ⟨pb,0,none⟩)] 99 (0,0)))(nm:ByteArray){k:Value->ad->Prop}
 (hk:∀h',Kp [pb] h h'->di h' pb (aO d ⟨s,nm,false⟩).1 s st->k (.int .i64 (aO d ⟨s,nm,false⟩).2) h'):Ct 98 [.string nm,.pointer (some ⟨wb,0,none⟩)] h k:=by
 obtain⟨A,hA⟩:=Ar.ex;refine ah A (aq T98.ax T98.bm) Tryz.func98 rfl (by kernel_rfl) ?_;cbv;refine ar gw rfl rfl ?_;cbv;refine C6 q ok iq nm false (fun h1 k1 q1=>?_);have af:=hk h1 k1 q1;generalize (aO d ⟨s,nm,false⟩).2=e at *;clear hk;cbv;exact af
def dm(s:Int):List ByteArray->DB->DB×Int:=tq fun d nm=>aO d ⟨s,nm,false⟩
theorem yO{s:Int}(hs:-2^63<=s/\s<2^63):∀ {l:List ByteArray} {n:Nat} {d:DB},EJ n d->EJ (n+l.length) (dm s l d).1
 | [],n,d,h=>h
 |x::r,n,d,h=>by
  have h1:=h.hold ⟨s,x,false⟩ hs;show EJ _ (tq (fun d nm=>aO d ⟨s,nm,false⟩) (x::r) d).1;rw[vI];generalize aO d ⟨s,x,false⟩=H at *;obtain⟨d1,e⟩:=H;show EJ _ (if e≠0 then(d1,e)else dm s r d1).1;by_cases h0:e≠0
  ·rw[if_pos h0];exact EJ.le h1 (by simp only[List.length_cons];omega)
  ·rw[if_neg h0];exact(yO hs h1).le (by simp only[List.length_cons];omega)
theorem Aq{h:ad}{pb:Nat}{d:DB}{s:Int}{st:aB}(q:di h pb d s st){n:Nat}(ej:EJ n d){names:List ByteArray}(iq:n+names.length+2<2^18)(gu:-2^63<=s/\s<2^63){wb:Nat}(gw:h wb=some (.cells #[.pointer (some ⟨pb,0,none⟩)] 99 (0,0)))(nw:wb≠pb)
 {b:Option Addr} {n1 c1:Nat} (qn:Sl 9 cj h (.slice b n1 c1) names) {k:Value->ad->Prop}
 (hk:∀h',Kp [pb] h h'->di h' pb (dm s names d).1 s st->k (.int .i64 (dm s names d).2) h'):
 Ct 99 [.slice b n1 c1,.func (.func 98) #[] #[.pointer (some ⟨wb,0,none⟩)]] h k:=by
 have hn:=qn.len;obtain⟨D,hD⟩:∃D,dm s names d=D:=⟨_,rfl⟩;rw[hD]at hk;obtain⟨I,bh⟩:∃I:Nat->ad->Prop,∀i h',I i h'=∃d',di h' pb d' s st/\EJ (n+i) d'/\Kp [pb] h h'/\dm s (names.drop i) d'=D:=⟨_,fun _ _=>rfl⟩;have hJ:I 0 h:=by rw[bh];exact⟨d,q,ej,Kp.refl _ _,hD⟩
 refine JB hn I hJ (fun i h' hI=>?_) (fun i x h' hi hx hI _=>?_) (fun h' hI=>?_)
 ·rw[bh]at hI;obtain⟨d',q',CO,kp,-⟩:=hI;exact qn.mono (q.kp kp (by decide))
 ·rw[bh]at hI;obtain⟨d',q',CO,kp,he⟩:=hI;have hd:names.drop i=x::names.drop (i+1):=by obtain⟨h1,h2⟩:=List.getElem?_eq_some_iff.1 hx;rw[List.drop_eq_getElem_cons h1,h2]
  rw[hd]at he;replace he:(match aO d' ⟨s,x,false⟩with
   | (d2,e)=>if e≠0 then(d2,e)else dm s (names.drop (i+1)) d2)=D:=he
  have Xv:=CO.hold ⟨s,x,false⟩ gu;refine US q' CO.sj.zs (by omega) (kp _ _ gw (by simpa using nw)) x (fun h2 k2 q2=>⟨_,rfl,fun h0=>?_,fun h0=>?_⟩)
  ·generalize aO d' ⟨s,x,false⟩=E at *;obtain⟨d2,e⟩:=E;replace he:(if e≠0 then(d2,e)else dm s (names.drop (i+1)) d2)=D:=he;rw[if_neg (fun g=>g h0)]at he;rw[bh];exact⟨d2,q2,Xv,kp.trans k2,he⟩
  ·generalize aO d' ⟨s,x,false⟩=E at *;obtain⟨d2,e⟩:=E;replace he:(if e≠0 then(d2,e)else dm s (names.drop (i+1)) d2)=D:=he;rw[if_pos h0]at he;subst he;exact hk h2 (kp.trans k2) q2
 ·rw[bh]at hI;obtain⟨d',q',CO,kp,he⟩:=hI;rw[List.drop_of_length_le (by omega)]at he;replace he:(d',0)=D:=he;subst he;exact hk h' kp q'
def bK(st:aB):List ByteArray:=if st.join=b0 then [st.table]else [st.table,st.join]
def dY(d:DB)(st:aB):List bM:=aE (bU d st.table)++(if st.join=b0 then []else aE (bU d st.join))
def yr(d:DB)(st:aB):List Row:=if st.join=b0 then [[]]else(bU d st.join).rows
theorem uD(d:DB)(s:Int)(st:aB):ey d s st=if st.join=st.table then(d,[],7)else if(dm s (bK st) d).2≠0 then((dm s (bK st) d).1,[],(dm s (bK st) d).2)else
 ((dm s (bK st) d).1,ns st (dY (dm s (bK st) d).1 st) (bU (dm s (bK st) d).1 st.table).rows (yr (dm s (bK st) d).1 st)):=by
 unfold ey;by_cases h0:st.join=st.table
 ·rw[if_pos h0,if_pos h0]
 ·rw[if_neg h0,if_neg h0];by_cases hj:st.join=b0
  ·have hn:bK st=[st.table]:=by unfold bK;rw[if_pos hj]
   rw[hn];have hh:dm s [st.table] d=if(aO d ⟨s,st.table,false⟩).2≠0 then aO d ⟨s,st.table,false⟩else((aO d ⟨s,st.table,false⟩).1,0):=by
    show(match aO d ⟨s,st.table,false⟩with
     | (d',e)=>if e≠0 then(d',e)else(d',0))=_
    generalize aO d ⟨s,st.table,false⟩=H;obtain⟨d1,e⟩:=H;rfl
   rw[hh];generalize aO d ⟨s,st.table,false⟩=H;obtain⟨d1,e⟩:=H;by_cases he:e≠0
   ·simp only[he,if_true,ne_eq,not_false_eq_true]
   ·have he:e=0:=Decidable.not_not.1 he;subst he;simp only[hj,if_true,ne_eq,not_true_eq_false,if_false,dY,yr,List.append_nil]
  ·have hn:bK st=[st.table,st.join]:=by unfold bK;rw[if_neg hj]
   rw[hn];have hh:dm s [st.table,st.join] d=if(aO d ⟨s,st.table,false⟩).2≠0 then aO d ⟨s,st.table,false⟩else if(aO (aO d ⟨s,st.table,false⟩).1 ⟨s,st.join,false⟩).2≠0 then aO (aO d ⟨s,st.table,false⟩).1 ⟨s,st.join,false⟩else((aO (aO d ⟨s,st.table,false⟩).1 ⟨s,st.join,false⟩).1,0):=by
    show(match aO d ⟨s,st.table,false⟩with
     | (d',e)=>if e≠0 then(d',e)else match aO d' ⟨s,st.join,false⟩with
      | (d',e)=>if e≠0 then(d',e)else(d',0))=_
    generalize aO d ⟨s,st.table,false⟩=H;obtain⟨d1,e⟩:=H;show(if e≠0 then(d1,e)else match aO d1 ⟨s,st.join,false⟩with
     | (d',e)=>if e≠0 then(d',e)else(d',0))=_
    generalize aO d1 ⟨s,st.join,false⟩=H2;obtain⟨d2,e2⟩:=H2;rfl
   rw[hh];generalize aO d ⟨s,st.table,false⟩=H;obtain⟨d1,e⟩:=H;by_cases he:e≠0
   ·simp only[he,if_true,ne_eq,not_false_eq_true]
   ·have he:e=0:=Decidable.not_not.1 he;subst he;simp only[ne_eq,not_true_eq_false,if_false,hj];generalize aO d1 ⟨s,st.join,false⟩=H2;obtain⟨d2,e2⟩:=H2;by_cases he:e2≠0
    ·simp only[he,if_true,ne_eq,not_false_eq_true]
    ·have he:e2=0:=Decidable.not_not.1 he;subst he;simp only[hj,if_false,ne_eq,not_true_eq_false,dY,yr]
theorem HS{x:aB}{cols:List bM}{a b:Row}{out:List Row}:∀r∈(mQ x cols a b out).1,r∈out\/r=a++b:=by
 intro r hr;unfold mQ at hr;generalize cW x.on cols (a++b)=H at hr;obtain⟨on,e⟩:=H;generalize cW x.bB cols (a++b)=H2 at hr;obtain⟨is,e2⟩:=H2;replace hr:r∈(if e≠0 then(out,e)else if on=false then(out,0)else(if e2≠0 then(out,e2)else(if is=true then out++[a++b]else out,0)):List Row×Int).1:=hr;split at hr
 ·exact .inl hr
 ·split at hr
  ·exact .inl hr
  ·split at hr
   ·exact .inl hr
   ·have hr:r∈(if is=true then out++[a++b]else out):=hr;split at hr
    ·rcases List.mem_append.1 hr with h|h
     ·exact .inl h
     ·exact .inr (by simpa using h)
    ·exact .inl hr
theorem xz{x:aB}{cols:List bM}{a:Row}:∀ {bs out:List Row},∀r∈(fS x cols a bs out).1,r∈out\/∃b∈bs,r=a++b
 | [],out,r,h=>.inl h
 |b::bs,out,r,h=>by
  rw[nD]at h;have h1:∀r∈(mQ x cols a b out).1,r∈out\/∃c∈b::bs,r=a++c:=fun r hr=>by
   rcases HS r hr with g|g
   ·exact .inl g
   ·exact .inr ⟨b,List.mem_cons_self,g⟩
  split at h
  ·exact h1 r h
  ·rcases xz r h with g| ⟨c,g1,g2⟩
   ·exact h1 r g
   ·exact .inr ⟨c,List.mem_cons_of_mem _ g1,g2⟩
theorem pB{x:aB}{cols:List bM}{bs:List Row}:∀ {as_ out:List Row},∀r∈(cG x cols bs as_ out).1,r∈out\/∃a∈as_,∃b∈bs,r=a++b
 | [],out,r,h=>.inl h
 |a::as_,out,r,h=>by
  rw[nE]at h;have h1:=xz (x:=x) (cols:=cols) (a:=a) (bs:=bs) (out:=out);generalize fS x cols a bs out=E at *;obtain⟨o,e⟩:=E;replace h:r∈(if e≠0 then(o,e)else cG x cols bs as_ o).1:=h;have h2:∀r∈o,r∈out\/∃a'∈a::as_,∃b∈bs,r=a'++b:=fun r hr=>by
   rcases h1 r hr with g| ⟨b,g1,g2⟩
   ·exact .inl g
   ·exact .inr ⟨a,List.mem_cons_self,b,g1,g2⟩
  split at h
  ·exact h2 r h
  ·rcases pB r h with g| ⟨a',g1,g2⟩
   ·exact h2 r g
   ·exact .inr ⟨a',List.mem_cons_of_mem _ g1,g2⟩
theorem pC{x:aB}{cols:List bM}{bs:List Row}:∀ {as_ out:List Row},(cG x cols bs as_ out).1.length<=out.length+as_.length*bs.length
 | [],out=>by show out.length<=_;omega
 |a::as_,out=>by
  rw[nE];have h1:=pA (x:=x) (cols:=cols) (a:=a) (bs:=bs) (out:=out);generalize fS x cols a bs out=E at *;obtain⟨o,e⟩:=E;show(if e≠0 then(o,e)else cG x cols bs as_ o).1.length<=_;have hm:(a::as_).length*bs.length=as_.length*bs.length+bs.length:=by rw[List.length_cons];exact Nat.succ_mul _ _
  have h1:o.length<=out.length+bs.length:=h1;split
  ·show o.length<=_;omega
  ·have:=pC (x:=x) (cols:=cols) (bs:=bs) (as_:=as_) (out:=o);omega
theorem Dr{A:Ar}[hA:aX A]{z w:Int}{i j:Nat}(hz:aP z i)(hw:aP w j)(hi:i<=2^20)(hj:j<=2^20):A .aF .gtr (A .bA .mul .i64 z w) 4000=decide (i*j>4000):=by
 have h1:=hz.eq;have h2:=hw.eq;have hm:i*j<=2^20*2^20:=Nat.mul_le_mul hi hj;have he:z*w=((i*j:Nat):Int):=by rw[h1,h2];exact(Int.natCast_mul i j).symm
 have hr:A .bA .mul .i64 z w=((i*j:Nat):Int):=by rw[hA.bA];simp only[bA];rw[he,IntWalk.i64_in _ (by omega)]
 rw[hr,bH A];apply decide_eq_decide.2;omega
theorem selE{h:ad}{pb:Nat}{d:DB}{s:Int}{st:aB}(q:di h pb d s st)(hx:eO st)(hj:st.join=b0){n:Nat}(ej:EJ n d)(iq:n+700<2^18)(gu:-2^63<=s/\s<2^63)
 (wH:∀y,dx st (dY (dm s (bK st) d).1 st)=(y,0)->y.order<0/\(y.kU=true->y.group<0/\∀i∈st.items,i.fn=1)) {k:Value->ad->Prop}
 (hk:∀h' b n c,Kp [pb] h h'->di h' pb (ey d s st).1 s st->Sl 59 az h' (.slice b n c) (ey d s st).2.1->k (.tuple #[.slice b n c,.int .i64 (ey d s st).2.2]) h'):
 Ct 44 [.pointer (some ⟨pb,0,none⟩)] h k:=by
 obtain⟨A,hA⟩:=Ar.ex;have hP:=uD d s st;generalize ey d s st=D at *;obtain⟨c,hp⟩:=q.has;have fjt:A .je .eql st.join st.table=decide (st.join=st.table):=bN A ..;have fj:A .je .eql st.join ⟨#[]⟩=decide (st.join=b0):=bN A ..;have fj2:A .je .neq st.join ⟨#[]⟩=decide (st.join≠b0):=tW A ..;refine q.elim (fun b1 n1 c1 b2 n2 c2 b3 n3 c3 b4 n4 c4 b5 n5 c5 b6 n6 c6 b7 n7 c7 b8 n8 c8 b9 n9 c9 eQ fJ eP g qd q1 q2 q3 q4 q5 q6=>?_);clear qd q1 q2 q3 q4 q5 q6;refine ah A (aq T44.ax T44.bm) Tryz.func44 rfl (by kernel_rfl) ?_;cbv;intro wb h1 gn e1;have l1:Le h h1:=by rw[e1];exact Le.set gn
 have kT:h1 wb=some (.cells #[.pointer (some ⟨pb,0,none⟩)] 99 (0,0)):=by rw[e1];exact ae
 have nw:wb≠pb:=fun e=>by rw[e,hp]at gn;cases gn
 have g1:=l1 _ _ g;clear e1;cbv;repeat (first| (rw[ai A,ai A];refine ar kT rfl rfl ?_;cbv) | (rw[ai A];refine ar kT rfl rfl ?_;cbv) | (refine ar kT rfl rfl ?_;cbv) | (rw[ai A,ai A];refine ar g1 rfl rfl ?_;cbv) | (rw[ai A];refine ar g1 rfl rfl ?_;cbv) | (refine ar g1 rfl rfl ?_;cbv) | (refine⟨⟨_,rfl,rfl⟩,?_⟩;cbv))
 rw[fjt];by_cases MX:st.join=st.table
 ·rw[if_pos MX]at hP;subst hP;have af:=hk h1 none 0 0 (l1.kp _) (q.mono l1) Sl.nil;clear hk;rw[decide_eq_true MX];cbv;exact af
 rw[if_neg MX]at hP;rw[decide_eq_false MX];cbv;repeat (first| (rw[ai A,ai A];refine ar kT rfl rfl ?_;cbv) | (rw[ai A];refine ar kT rfl rfl ?_;cbv) | (refine ar kT rfl rfl ?_;cbv) | (rw[ai A,ai A];refine ar g1 rfl rfl ?_;cbv) | (rw[ai A];refine ar g1 rfl rfl ?_;cbv) | (refine ar g1 rfl rfl ?_;cbv) | (refine⟨⟨_,rfl,rfl⟩,?_⟩;cbv))
 intro nb h2 f2 e2;have l2:Le h1 h2:=by rw[e2];exact Le.set f2
 have qn:Sl 9 cj h2 (.slice (some ⟨nb,0,none⟩) 2 2) [st.table,st.join]:=by
  refine Sl.fresh (s:=cj) (h:=h2) (n:=nb) (xs:=[st.table,st.join]) (cap:=2) (c:=[.string st.table,.string st.join]) (by rw[e2];exact ae) ⟨Nat.le_refl 2,fun i x hx=>?_⟩ (by show 2<=_;omega) (Nat.le_refl 2)
  match i,hx with
  |0,hx=>cases hx;rfl
  |1,hx=>cases hx;rfl
  |i+2,hx=>simp at hx
 have iI:=l1.trans l2;have kR:=l2 _ _ kT;have g2:=l2 _ _ g1;have q2:=q.mono iI;clear e2 g1 kT;cbv;repeat (first| (rw[ai A,ai A];refine ar kR rfl rfl ?_;cbv) | (rw[ai A];refine ar kR rfl rfl ?_;cbv) | (refine ar kR rfl rfl ?_;cbv) | (rw[ai A,ai A];refine ar g2 rfl rfl ?_;cbv) | (rw[ai A];refine ar g2 rfl rfl ?_;cbv) | (refine ar g2 rfl rfl ?_;cbv) | (refine⟨⟨_,rfl,rfl⟩,?_⟩;cbv))
 rw[fj];rw[decide_eq_true hj];have oL:bK st=[st.table]:=by unfold bK;rw[if_pos hj]
 have M0:A .rR 1 0=1:=by rw[hA.rR];rfl
 have qn1:Sl 9 cj h2 (.slice (A .cut (some ⟨nb,0,none⟩) 0 (A .nat 2) 1) 1 2) [st.table]:=by have:=qn.sN (A:=A) (z:=A .nat 2) (i:=1) (by omega) rfl rfl;exact Sl.Dl this (by omega)
 cbv;refine⟨by decide,?_⟩;cbv;rw[M0];have pS:(bK st).length=1:=by rw[oL];rfl
 obtain⟨NB,hNB⟩:∃NB,A .cut (some ⟨nb,0,none⟩) 0 (A .nat 2) 1=NB:=⟨_,rfl⟩;have Va:Sl 9 cj h2 (.slice NB 1 2) (bK st):=by rw[<-hNB,oL];exact qn1
 rw[hNB];clear hNB qn1;cbv;refine Aq q2 ej (by rw[pS];omega) gu kR nw Va (fun h3 k3 q3=>?_);have K6:=yO gu (l:=bK st) ej;rw[pS]at K6;generalize dm s (bK st) d=H at *;obtain⟨d1,e⟩:=H;replace q3:di h3 pb d1 s st:=q3;replace K6:EJ (n+1) d1:=K6;replace hP:D=if e≠0 then(d1,[],e)else(d1,ns st (dY d1 st) (bU d1 st.table).rows (yr d1 st)):=hP
 replace wH:∀y,dx st (dY d1 st)=(y,0)->y.order<0/\(y.kU=true->y.group<0/\∀i∈st.items,i.fn=1):=wH;have fe:A .aF .neq e 0=decide (e≠0):=ay A ..;have Ce:Kp [pb] h h3:=(iI.kp _).trans k3;have pU:=k3 _ _ kR (by simpa using nw);clear q2 qn Va kR g2;by_cases h0:e≠0
 ·rw[if_pos h0]at hP;subst hP;have af:=hk h3 none 0 0 Ce q3 Sl.nil;clear hk;cbv;rw[fe,decide_eq_true h0];cbv;exact af
 rw[if_neg h0]at hP;have yX:=K6.held st.table;have I0:dY d1 st=aE (bU d1 st.table)++[]:=by unfold dY;rw[if_pos hj]
 have Bo:yr d1 st=[[]]:=by unfold yr;rw[if_pos hj]
 rw[I0,Bo]at hP;rw[I0]at wH;refine q3.elim (fun Lj KH Lf Li KG Ld Lh KF Lb Lg KE K9 Gd EV FU Gc EU FT Gb B1 FR Ef Ae A6 Ga ET FQ sI sf sH g3 Qi p1 p2 p3 p4 p5 p6=>?_);clear Qi;cbv;rw[fe,decide_eq_false h0];cbv;repeat (first| (rw[ai A,ai A];refine ar pU rfl rfl ?_;cbv) | (rw[ai A];refine ar pU rfl rfl ?_;cbv) | (refine ar pU rfl rfl ?_;cbv) | (rw[ai A,ai A];refine ar g3 rfl rfl ?_;cbv) | (rw[ai A];refine ar g3 rfl rfl ?_;cbv) | (refine ar g3 rfl rfl ?_;cbv) | (refine⟨⟨_,rfl,rfl⟩,?_⟩;cbv))
 intro qp h4 f4 e4;have l4:Le h3 h4:=by rw[e4];exact Le.set f4
 have q4:kV h4 qp st [] ⟨-1,-1,false⟩:=⟨⟨Gd,EV,FU,Gc,EU,FT,Gb,B1,FR,Ef,Ae,A6,Ga,ET,FQ,sI,sf,sH,none,0,0,by rw[e4];exact ae,p1.mono (l4.t _),p2.mono (l4.t _),p3.mono (l4.t _),p4.mono (l4.t _),p5.mono (l4.t _),p6.mono (l4.t _),Sl.nil⟩⟩;have g4:=l4 _ _ g3;have wy:=l4 _ _ pU;clear p1 p2 p3 p4 p5 p6 e4;cbv;repeat (first| (rw[ai A,ai A];refine ar wy rfl rfl ?_;cbv) | (rw[ai A];refine ar wy rfl rfl ?_;cbv) | (refine ar wy rfl rfl ?_;cbv) | (rw[ai A,ai A];refine ar g4 rfl rfl ?_;cbv) | (rw[ai A];refine ar g4 rfl rfl ?_;cbv) | (refine ar g4 rfl rfl ?_;cbv) | (refine⟨⟨_,rfl,rfl⟩,?_⟩;cbv))
 refine td (q3.mono l4) st.table (fun T t1 u1 w1 t2 u2 w2 hT s1 s2=>?_);rw[<-hT]at yX hP wH;clear hT I0;cbv;repeat (refine⟨⟨_,rfl,rfl⟩,?_⟩;cbv)
 intro sU h5 f5 e5;have l5:Le h4 h5:=by rw[e5];exact Le.set f5
 have s5:Sl 59 az h5 (.slice (some ⟨sU,0,none⟩) 1 1) [[]]:=bp (s:=az) ((congrFun e5 sU).trans ae) ⟨_,rfl,Sl.nil⟩;have g5:=l5 _ _ g4;have pj:=l5 _ _ wy;clear e5;cbv;repeat (first| (rw[ai A,ai A];refine ar pj rfl rfl ?_;cbv) | (rw[ai A];refine ar pj rfl rfl ?_;cbv) | (refine ar pj rfl rfl ?_;cbv) | (rw[ai A,ai A];refine ar g5 rfl rfl ?_;cbv) | (rw[ai A];refine ar g5 rfl rfl ?_;cbv) | (refine ar g5 rfl rfl ?_;cbv) | (refine⟨⟨_,rfl,rfl⟩,?_⟩;cbv))
 rw[fj2];rw[decide_eq_false (show ¬st.join≠b0 from fun g=>g hj)];obtain⟨BR,W8⟩:∃BR:List Row,BR=[[]]:=⟨_,rfl⟩;obtain⟨CB,AF⟩:∃CB:List bM,CB=[]:=⟨_,rfl⟩;rw[<-W8]at s5 hP;rw[<-AF]at hP wH;have hBl:BR.length<=200:=by rw[W8];decide
 have DO:∀b∈BR,eD b/\b.length<=2^20:=fun b hb=>by
  rw[W8]at hb;have:b=[]:=by simpa using hb
  subst this;exact⟨fun v hv=>(by cases hv),by decide⟩
 have hCB:∀c∈CB,Nm c.name:=fun c hc=>by rw[AF]at hc;cases hc
 have Fa:=s5.len;cbv;have hAl:=yX.len;have Sk:∀a∈T.rows,eD a/\a.length<=2^20:=fun a ha=>⟨(yX.row a ha).2,by obtain⟨_,_,e,-⟩:=(yX.row a ha).1;rw[e];show 2<=_;decide⟩;have W7:∀c∈aE T,Nm c.name:=fun c sC=>by
  obtain⟨c0,h1,h2⟩:=List.mem_map.1 sC;rw[<-h2];exact lp yX.nm (yX.rS c0 h1)
 have hC:∀c∈aE T++CB,Nm c.name:=fun c hc=>by
  rcases List.mem_append.1 hc with h|h
  ·exact W7 c h
  ·exact hCB c h
 have hlA:u1<=2:=by
  have h1:=s1.len;rcases yX.cols with h2| ⟨h2,-⟩
  ·rw[h2]at h1;rw[h1];decide
  ·rw[h2]at h1;rw[h1];decide
 have Gp:=s2.len;obtain⟨AR,hAR⟩:∃AR,AR=T.rows:=⟨_,rfl⟩;rw[<-hAR]at hAl Sk s2 hP Gp;have Fh:(aE T).length=u1:=by show(T.S.cols.map _).length=u1;rw[List.length_map,<-s1.len]
 have Jk:T.S.cols.map (ja T.S.name)=aE T:=rfl;obtain⟨CA,Sg⟩:∃CA,CA=aE T:=⟨_,rfl⟩;rw[<-Sg]at W7 hC hP wH Fh Jk;refine iz yX.nm.nm (fun c hc=>(yX.rS c hc).nm) (s1.mono (l5.t _)) _ _ _ _ _ (fun h6 ba na ca l6 L8=>?_);rw[Jk]at L8;have O7:na<=2:=by have h1:=L8.sl.len;rw[h1,Fh];exact hlA
 cbv;repeat (refine⟨⟨_,rfl,rfl⟩,?_⟩;cbv)
 refine iz (nm:=b0) (tY (l:=[]) (fun _ h=>by cases h) (by decide)).nm (cols:=[]) (fun c hc=>by cases hc) Sl.nil _ _ _ _ _ (fun h7 bc nc cc l7 L7=>?_);rw[show([]:List bM).map (ja b0)=CB from AF.symm]at L7;have hl7:nc<=2:=by have h1:=L7.sl.len;rw[h1,AF];decide
 have B7:=l6.trans l7;cbv;refine(L8.mono (l7.t _)).append L7.sl (by decide) rfl (by decide) (by omega) B7 (fun mz bz cz h8 em8 l8 t8 k8 Jp=>?_);clear t8 k8 L8 L7;have q8:=(q4.mono l5).mono l8;have l38:Le h3 h8:=(l4.trans l5).trans l8;refine q8.elim (fun b5 n5 c5 b6 n6 c6 b7 n7 c7 b8 n8 c8 b9 n9 c9 eQ fJ eP cb cn cc g8 r1 r2 r3 r4 r5 r6 r7=>?_);cbv;first|rw[ai A,ai A] |rw[ai A] |skip
 refine eH g8 (by simp) (fun h9 e9=>?_);have nI:bE lO h8 h9:=by rw[e9];exact bE.set g8 (by decide)
 have QS:bE [59,61] h8 h9:=by rw[e9];exact bE.set g8 (by decide)
 have q9:kV h9 qp st (CA++CB) ⟨-1,-1,false⟩:=⟨⟨b5,n5,c5,b6,n6,c6,b7,n7,c7,b8,n8,c8,b9,n9,c9,eQ,fJ,eP,bz,mz,cz,by rw[e9];exact ae,r1.mono (nI.sub (by decide)),r2.mono (nI.sub (by decide)),r3.mono (nI.sub (by decide)),r4.mono (nI.sub (by decide)),r5.mono (nI.sub (by decide)),r6.mono (nI.sub (by decide)),Jp.sl.mono (nI.sub (by decide))⟩⟩;have l39:Le h3 h9:=fun b o hb=>by rw[e9,av (fun e=>by rw[e,f4]at hb;cases hb)];exact l38 _ _ hb
 have qA9:Sl 59 az h9 (.slice t2 u2 w2) AR:=(s2.mono ((l5.trans l8).t _)).mono (QS.sub (by decide));have qB9:Sl 59 az h9 (.slice (some ⟨sU,0,none⟩) 1 1) BR:=(s5.mono (l8.t _)).mono (QS.sub (by decide));clear r1 r2 r3 r4 r5 r6 r7 e9 nI QS Jp q8 g8 s1 s2;have mJ:ns st (CA++CB) AR BR=if(dx st (CA++CB)).2≠0 then([],(dx st (CA++CB)).2)else if AR.length*BR.length>4000 then([],4)else if(cG st (CA++CB) BR AR []).2≠0 then([],(cG st (CA++CB) BR AR []).2)else
  if(dx st (CA++CB)).1.kU=true then fL st (CA++CB) (dx st (CA++CB)).1.group (cG st (CA++CB) BR AR []).1 else iR st (CA++CB) (dx st (CA++CB)).1.order (cG st (CA++CB) BR AR []).1:=rfl
 cbv;refine Px q9 hx hC (fun fh y IE EL hy=>?_);have Iq:Le h3 fh:=fun b o hb=>IE _ _ (l39 _ _ hb) (fun hn=>by
  have:b=qp:=by simpa using hn
  rw[this,f4]at hb;cases hb)
 have Cg:Kp [pb] h fh:=Ce.trans (Iq.kp _);obtain⟨F,hF⟩:∃F,dx st (CA++CB)=F:=⟨_,rfl⟩;rw[hF]at mJ hy wH |-;obtain⟨fy,fe⟩:=F;replace mJ:ns st (CA++CB) AR BR=if fe≠0 then([],fe)else if AR.length*BR.length>4000 then([],4)else if(cG st (CA++CB) BR AR []).2≠0 then([],(cG st (CA++CB) BR AR []).2)else
  if fy.kU=true then fL st (CA++CB) fy.group (cG st (CA++CB) BR AR []).1 else iR st (CA++CB) fy.order (cG st (CA++CB) BR AR []).1:=mJ
 have ffe:A .aF .neq fe 0=decide (fe≠0):=ay A ..;have BW:=q3.mono Iq;cbv;rw[ffe];by_cases Ji:fe≠0
 ·rw[if_pos Ji]at mJ;rw[mJ]at hP;subst hP;have af:=hk fh none 0 0 Cg BW Sl.nil;clear hk;rw[decide_eq_true Ji];cbv;exact af
 rw[if_neg Ji]at mJ;have Gx:fe=0:=Decidable.not_not.1 Ji;subst Gx;have OS:y=fy:=hy rfl;subst OS;obtain⟨hyo,VX⟩:=wH y rfl;rw[decide_eq_false Ji];obtain⟨cq9,O2⟩:=q9.has;have Qn:Sl 59 az fh (.slice t2 u2 w2) AR:=qA9.mono (IE.uU O2 (by decide));have Qm:Sl 59 az fh (.slice (some ⟨sU,0,none⟩) 1 1) BR:=qB9.mono (IE.uU O2 (by decide));have fm:A .aF .gtr (A .bA .mul .i64 (A .nat u2) (A .nat 1)) 4000=decide (AR.length*BR.length>4000):=by rw[Dr (A:=A) (aP.nat (A:=A) u2) (aP.nat (A:=A) 1) (by omega) (by omega)];apply decide_eq_decide.2;rw[<-Gp,<-Fa]
 cbv;rw[fm];by_cases hm:AR.length*BR.length>4000
 ·rw[if_pos hm]at mJ;rw[mJ]at hP;subst hP;have af:=hk fh none 0 0 Cg BW Sl.nil;clear hk;rw[decide_eq_true hm];cbv;exact af
 rw[if_neg hm]at mJ;rw[decide_eq_false hm];have Sb:=pB (x:=st) (cols:=CA++CB) (bs:=BR) (as_:=AR) (out:=[]);have W4:=pC (x:=st) (cols:=CA++CB) (bs:=BR) (as_:=AR) (out:=[]);cbv;refine Oy EL hx hC Sk DO (by omega) (by omega) rfl rfl Qn Qm (fun mY b11 n11 c11 QH Bl Wy yv=>?_);generalize cG st (CA++CB) BR AR []=P at *;obtain⟨PR,pe⟩:=P;replace mJ:ns st (CA++CB) AR BR=if pe≠0 then([],pe)else if y.kU=true then fL st (CA++CB) y.group PR else iR st (CA++CB) y.order PR:=mJ
 replace yv:Bx 59 az fh mY QH (.slice b11 n11 c11) PR:=yv;replace Sb:∀r∈PR,r∈[]\/∃a∈AR,∃b∈BR,r=a++b:=Sb;replace W4:PR.length<=0+AR.length*BR.length:=W4;have hPr:∀r∈PR,eD r:=fun r hr v hv=>by
  rcases Sb r hr with h| ⟨a,ha,b,hb,e⟩
  ·cases h
  ·rw[e]at hv;rcases List.mem_append.1 hv with h|h
   ·exact(Sk a ha).1 v h
   ·exact(DO b hb).1 v h
 have fpe:A .aF .neq pe 0=decide (pe≠0):=ay A ..;have Cf:Kp [pb] h mY:=Cg.trans (Bl.kp _);have BV:=BW.mono Bl;have HJ:=EL.mono Bl;cbv;rw[fpe];by_cases MO:pe≠0
 ·rw[if_pos MO]at mJ;rw[mJ]at hP;subst hP;have af:=hk mY none 0 0 Cf BV Sl.nil;clear hk;rw[decide_eq_true MO];cbv;exact af
 rw[if_neg MO]at mJ;rw[decide_eq_false MO];refine HJ.elim (fun b5 n5 c5 b6 n6 c6 b7 n7 c7 b8 n8 c8 b9 n9 c9 eQ fJ eP cb cn cc Sv r1 r2 r3 r4 r5 r6 r7=>?_);clear r1 r2 r3 r4 r5 r6 r7;obtain⟨yg,Rd⟩:∃yg,yg=y.kU:=⟨_,rfl⟩;rw[<-Rd]at Sv mJ VX;cbv;first|rw[ai A,ai A] |rw[ai A] |skip
 refine ar Sv rfl rfl ?_;cases yg with
 |true=>rw[if_pos rfl]at mJ;rw[mJ]at hP;obtain⟨hgg,hgc⟩:=VX rfl;cbv;refine DT HJ hx hgg hgc yv.sl (fun tM Tp KI NX fH Gk=>?_);generalize fL st (CA++CB) y.group PR=G at *;obtain⟨GR,ge⟩:=G;subst hP;have af:=hk tM Tp KI NX (Cf.trans (fH.kp _)) (BV.mono fH) Gk;clear hk;cbv;exact af
 |false=>rw[if_neg (by simp)]at mJ;rw[mJ]at hP;cbv;refine HP HJ hx hC hyo hPr (by omega) yv.sl (fun tM Tp KI NX fH Gk=>?_);generalize iR st (CA++CB) y.order PR=G at *;obtain⟨GR,ge⟩:=G;subst hP;have af:=hk tM Tp KI NX (Cf.trans (fH.kp _)) (BV.mono fH) Gk;clear hk;cbv;exact af
theorem selJ{h:ad}{pb:Nat}{d:DB}{s:Int}{st:aB}(q:di h pb d s st)(hx:eO st)(hj:¬st.join=b0){n:Nat}(ej:EJ n d)(iq:n+700<2^18)(gu:-2^63<=s/\s<2^63)
 (wH:∀y,dx st (dY (dm s (bK st) d).1 st)=(y,0)->y.order<0/\(y.kU=true->y.group<0/\∀i∈st.items,i.fn=1)) {k:Value->ad->Prop}
 (hk:∀h' b n c,Kp [pb] h h'->di h' pb (ey d s st).1 s st->Sl 59 az h' (.slice b n c) (ey d s st).2.1->k (.tuple #[.slice b n c,.int .i64 (ey d s st).2.2]) h'):
 Ct 44 [.pointer (some ⟨pb,0,none⟩)] h k:=by
 obtain⟨A,hA⟩:=Ar.ex;have hP:=uD d s st;generalize ey d s st=D at *;obtain⟨c,hp⟩:=q.has;have fjt:A .je .eql st.join st.table=decide (st.join=st.table):=bN A ..;have fj:A .je .eql st.join ⟨#[]⟩=decide (st.join=b0):=bN A ..;have fj2:A .je .neq st.join ⟨#[]⟩=decide (st.join≠b0):=tW A ..;refine q.elim (fun b1 n1 c1 b2 n2 c2 b3 n3 c3 b4 n4 c4 b5 n5 c5 b6 n6 c6 b7 n7 c7 b8 n8 c8 b9 n9 c9 eQ fJ eP g qd q1 q2 q3 q4 q5 q6=>?_);clear qd q1 q2 q3 q4 q5 q6;refine ah A (aq T44.ax T44.bm) Tryz.func44 rfl (by kernel_rfl) ?_;cbv;intro wb h1 gn e1;have l1:Le h h1:=by rw[e1];exact Le.set gn
 have kT:h1 wb=some (.cells #[.pointer (some ⟨pb,0,none⟩)] 99 (0,0)):=by rw[e1];exact ae
 have nw:wb≠pb:=fun e=>by rw[e,hp]at gn;cases gn
 have g1:=l1 _ _ g;clear e1;cbv;repeat (first| (rw[ai A,ai A];refine ar kT rfl rfl ?_;cbv) | (rw[ai A];refine ar kT rfl rfl ?_;cbv) | (refine ar kT rfl rfl ?_;cbv) | (rw[ai A,ai A];refine ar g1 rfl rfl ?_;cbv) | (rw[ai A];refine ar g1 rfl rfl ?_;cbv) | (refine ar g1 rfl rfl ?_;cbv) | (refine⟨⟨_,rfl,rfl⟩,?_⟩;cbv))
 rw[fjt];by_cases MX:st.join=st.table
 ·rw[if_pos MX]at hP;subst hP;have af:=hk h1 none 0 0 (l1.kp _) (q.mono l1) Sl.nil;clear hk;rw[decide_eq_true MX];cbv;exact af
 rw[if_neg MX]at hP;rw[decide_eq_false MX];cbv;repeat (first| (rw[ai A,ai A];refine ar kT rfl rfl ?_;cbv) | (rw[ai A];refine ar kT rfl rfl ?_;cbv) | (refine ar kT rfl rfl ?_;cbv) | (rw[ai A,ai A];refine ar g1 rfl rfl ?_;cbv) | (rw[ai A];refine ar g1 rfl rfl ?_;cbv) | (refine ar g1 rfl rfl ?_;cbv) | (refine⟨⟨_,rfl,rfl⟩,?_⟩;cbv))
 intro nb h2 f2 e2;have l2:Le h1 h2:=by rw[e2];exact Le.set f2
 have qn:Sl 9 cj h2 (.slice (some ⟨nb,0,none⟩) 2 2) [st.table,st.join]:=by
  refine Sl.fresh (s:=cj) (h:=h2) (n:=nb) (xs:=[st.table,st.join]) (cap:=2) (c:=[.string st.table,.string st.join]) (by rw[e2];exact ae) ⟨Nat.le_refl 2,fun i x hx=>?_⟩ (by show 2<=_;omega) (Nat.le_refl 2)
  match i,hx with
  |0,hx=>cases hx;rfl
  |1,hx=>cases hx;rfl
  |i+2,hx=>simp at hx
 have iI:=l1.trans l2;have kR:=l2 _ _ kT;have g2:=l2 _ _ g1;have q2:=q.mono iI;clear e2 g1 kT;cbv;repeat (first| (rw[ai A,ai A];refine ar kR rfl rfl ?_;cbv) | (rw[ai A];refine ar kR rfl rfl ?_;cbv) | (refine ar kR rfl rfl ?_;cbv) | (rw[ai A,ai A];refine ar g2 rfl rfl ?_;cbv) | (rw[ai A];refine ar g2 rfl rfl ?_;cbv) | (refine ar g2 rfl rfl ?_;cbv) | (refine⟨⟨_,rfl,rfl⟩,?_⟩;cbv))
 rw[fj];rw[decide_eq_false hj];have oL:bK st=[st.table,st.join]:=by unfold bK;rw[if_neg hj]
 have pS:(bK st).length=2:=by rw[oL];rfl
 have Va:Sl 9 cj h2 (.slice (some ⟨nb,0,none⟩) 2 2) (bK st):=by rw[oL];exact qn
 cbv;refine Aq q2 ej (by rw[pS];omega) gu kR nw Va (fun h3 k3 q3=>?_);have K6:=yO gu (l:=bK st) ej;rw[pS]at K6;generalize dm s (bK st) d=H at *;obtain⟨d1,e⟩:=H;replace q3:di h3 pb d1 s st:=q3;replace K6:EJ (n+2) d1:=K6;replace hP:D=if e≠0 then(d1,[],e)else(d1,ns st (dY d1 st) (bU d1 st.table).rows (yr d1 st)):=hP
 replace wH:∀y,dx st (dY d1 st)=(y,0)->y.order<0/\(y.kU=true->y.group<0/\∀i∈st.items,i.fn=1):=wH;have fe:A .aF .neq e 0=decide (e≠0):=ay A ..;have Ce:Kp [pb] h h3:=(iI.kp _).trans k3;have pU:=k3 _ _ kR (by simpa using nw);clear q2 qn Va kR g2;by_cases h0:e≠0
 ·rw[if_pos h0]at hP;subst hP;have af:=hk h3 none 0 0 Ce q3 Sl.nil;clear hk;cbv;rw[fe,decide_eq_true h0];cbv;exact af
 rw[if_neg h0]at hP;have yX:=K6.held st.table;have M9:=K6.held st.join;have I0:dY d1 st=aE (bU d1 st.table)++aE (bU d1 st.join):=by unfold dY;rw[if_neg hj]
 have Bo:yr d1 st=(bU d1 st.join).rows:=by unfold yr;rw[if_neg hj]
 rw[I0,Bo]at hP;rw[I0]at wH;refine q3.elim (fun Lj KH Lf Li KG Ld Lh KF Lb Lg KE K9 Gd EV FU Gc EU FT Gb B1 FR Ef Ae A6 Ga ET FQ sI sf sH g3 Qi p1 p2 p3 p4 p5 p6=>?_);clear Qi;cbv;rw[fe,decide_eq_false h0];cbv;repeat (first| (rw[ai A,ai A];refine ar pU rfl rfl ?_;cbv) | (rw[ai A];refine ar pU rfl rfl ?_;cbv) | (refine ar pU rfl rfl ?_;cbv) | (rw[ai A,ai A];refine ar g3 rfl rfl ?_;cbv) | (rw[ai A];refine ar g3 rfl rfl ?_;cbv) | (refine ar g3 rfl rfl ?_;cbv) | (refine⟨⟨_,rfl,rfl⟩,?_⟩;cbv))
 intro qp h4 f4 e4;have l4:Le h3 h4:=by rw[e4];exact Le.set f4
 have q4:kV h4 qp st [] ⟨-1,-1,false⟩:=⟨⟨Gd,EV,FU,Gc,EU,FT,Gb,B1,FR,Ef,Ae,A6,Ga,ET,FQ,sI,sf,sH,none,0,0,by rw[e4];exact ae,p1.mono (l4.t _),p2.mono (l4.t _),p3.mono (l4.t _),p4.mono (l4.t _),p5.mono (l4.t _),p6.mono (l4.t _),Sl.nil⟩⟩;have g4:=l4 _ _ g3;have wy:=l4 _ _ pU;clear p1 p2 p3 p4 p5 p6 e4;cbv;repeat (first| (rw[ai A,ai A];refine ar wy rfl rfl ?_;cbv) | (rw[ai A];refine ar wy rfl rfl ?_;cbv) | (refine ar wy rfl rfl ?_;cbv) | (rw[ai A,ai A];refine ar g4 rfl rfl ?_;cbv) | (rw[ai A];refine ar g4 rfl rfl ?_;cbv) | (refine ar g4 rfl rfl ?_;cbv) | (refine⟨⟨_,rfl,rfl⟩,?_⟩;cbv))
 refine td (q3.mono l4) st.table (fun T t1 u1 w1 t2 u2 w2 hT s1 s2=>?_);rw[<-hT]at yX hP wH;clear hT I0;cbv;repeat (refine⟨⟨_,rfl,rfl⟩,?_⟩;cbv)
 intro sU h5 f5 e5;have l5:Le h4 h5:=by rw[e5];exact Le.set f5
 have s5:Sl 59 az h5 (.slice (some ⟨sU,0,none⟩) 1 1) [[]]:=bp (s:=az) ((congrFun e5 sU).trans ae) ⟨_,rfl,Sl.nil⟩;have g5:=l5 _ _ g4;have pj:=l5 _ _ wy;clear e5;cbv;repeat (first| (rw[ai A,ai A];refine ar pj rfl rfl ?_;cbv) | (rw[ai A];refine ar pj rfl rfl ?_;cbv) | (refine ar pj rfl rfl ?_;cbv) | (rw[ai A,ai A];refine ar g5 rfl rfl ?_;cbv) | (rw[ai A];refine ar g5 rfl rfl ?_;cbv) | (refine ar g5 rfl rfl ?_;cbv) | (refine⟨⟨_,rfl,rfl⟩,?_⟩;cbv))
 rw[fj2];rw[decide_eq_true (show st.join≠b0 from hj)];cbv;repeat (first| (rw[ai A,ai A];refine ar pj rfl rfl ?_;cbv) | (rw[ai A];refine ar pj rfl rfl ?_;cbv) | (refine ar pj rfl rfl ?_;cbv) | (rw[ai A,ai A];refine ar g5 rfl rfl ?_;cbv) | (rw[ai A];refine ar g5 rfl rfl ?_;cbv) | (refine ar g5 rfl rfl ?_;cbv) | (refine⟨⟨_,rfl,rfl⟩,?_⟩;cbv))
 refine td (q3.mono (l4.trans l5)) st.join (fun TB y1 v1 z1 y2 v2 z2 hT s3 s4=>?_);rw[<-hT]at M9 hP wH;clear hT;have hBl:=M9.len;have DO:∀b∈TB.rows,eD b/\b.length<=2^20:=fun b hb=>⟨(M9.row b hb).2,by obtain⟨_,_,e,-⟩:=(M9.row b hb).1;rw[e];show 2<=_;decide⟩;obtain⟨BR,W8⟩:∃BR,BR=TB.rows:=⟨_,rfl⟩;rw[<-W8]at hBl DO s4 hP;have hCB:∀c∈aE TB,Nm c.name:=fun c sC=>by
  obtain⟨c0,h1,h2⟩:=List.mem_map.1 sC;rw[<-h2];exact lp M9.nm (M9.rS c0 h1)
 have hlB:v1<=2:=by
  have h1:=s3.len;rcases M9.cols with h2| ⟨h2,-⟩
  ·rw[h2]at h1;rw[h1];decide
  ·rw[h2]at h1;rw[h1];decide
 obtain⟨CB,AF⟩:∃CB,CB=aE TB:=⟨_,rfl⟩;rw[<-AF]at hCB hP wH;have Fa:=s4.len;cbv;repeat (refine⟨⟨_,rfl,rfl⟩,?_⟩;cbv)
 have hAl:=yX.len;have Sk:∀a∈T.rows,eD a/\a.length<=2^20:=fun a ha=>⟨(yX.row a ha).2,by obtain⟨_,_,e,-⟩:=(yX.row a ha).1;rw[e];show 2<=_;decide⟩;have W7:∀c∈aE T,Nm c.name:=fun c sC=>by
  obtain⟨c0,h1,h2⟩:=List.mem_map.1 sC;rw[<-h2];exact lp yX.nm (yX.rS c0 h1)
 have hC:∀c∈aE T++CB,Nm c.name:=fun c hc=>by
  rcases List.mem_append.1 hc with h|h
  ·exact W7 c h
  ·exact hCB c h
 have hlA:u1<=2:=by
  have h1:=s1.len;rcases yX.cols with h2| ⟨h2,-⟩
  ·rw[h2]at h1;rw[h1];decide
  ·rw[h2]at h1;rw[h1];decide
 have Gp:=s2.len;obtain⟨AR,hAR⟩:∃AR,AR=T.rows:=⟨_,rfl⟩;rw[<-hAR]at hAl Sk s2 hP Gp;have Fh:(aE T).length=u1:=by show(T.S.cols.map _).length=u1;rw[List.length_map,<-s1.len]
 have Jk:T.S.cols.map (ja T.S.name)=aE T:=rfl;obtain⟨CA,Sg⟩:∃CA,CA=aE T:=⟨_,rfl⟩;rw[<-Sg]at W7 hC hP wH Fh Jk;refine iz yX.nm.nm (fun c hc=>(yX.rS c hc).nm) (s1.mono (l5.t _)) _ _ _ _ _ (fun h6 ba na ca l6 L8=>?_);rw[Jk]at L8;have O7:na<=2:=by have h1:=L8.sl.len;rw[h1,Fh];exact hlA
 cbv;repeat (refine⟨⟨_,rfl,rfl⟩,?_⟩;cbv)
 refine iz M9.nm.nm (fun c hc=>(M9.rS c hc).nm) (s3.mono (l6.t _)) _ _ _ _ _ (fun h7 bc nc cc l7 L7=>?_);rw[show TB.S.cols.map (ja TB.S.name)=CB from AF.symm]at L7;have hl7:nc<=2:=by have h1:=L7.sl.len;rw[h1,AF];show(TB.S.cols.map _).length<=2;rw[List.length_map,<-s3.len];exact hlB
 have B7:=l6.trans l7;cbv;refine(L8.mono (l7.t _)).append L7.sl (by decide) rfl (by decide) (by omega) B7 (fun mz bz cz h8 em8 l8 t8 k8 Jp=>?_);clear t8 k8 L8 L7;have q8:=(q4.mono l5).mono l8;have l38:Le h3 h8:=(l4.trans l5).trans l8;refine q8.elim (fun b5 n5 c5 b6 n6 c6 b7 n7 c7 b8 n8 c8 b9 n9 c9 eQ fJ eP cb cn cc g8 r1 r2 r3 r4 r5 r6 r7=>?_);cbv;first|rw[ai A,ai A] |rw[ai A] |skip
 refine eH g8 (by simp) (fun h9 e9=>?_);have nI:bE lO h8 h9:=by rw[e9];exact bE.set g8 (by decide)
 have QS:bE [59,61] h8 h9:=by rw[e9];exact bE.set g8 (by decide)
 have q9:kV h9 qp st (CA++CB) ⟨-1,-1,false⟩:=⟨⟨b5,n5,c5,b6,n6,c6,b7,n7,c7,b8,n8,c8,b9,n9,c9,eQ,fJ,eP,bz,mz,cz,by rw[e9];exact ae,r1.mono (nI.sub (by decide)),r2.mono (nI.sub (by decide)),r3.mono (nI.sub (by decide)),r4.mono (nI.sub (by decide)),r5.mono (nI.sub (by decide)),r6.mono (nI.sub (by decide)),Jp.sl.mono (nI.sub (by decide))⟩⟩;have l39:Le h3 h9:=fun b o hb=>by rw[e9,av (fun e=>by rw[e,f4]at hb;cases hb)];exact l38 _ _ hb
 have qA9:Sl 59 az h9 (.slice t2 u2 w2) AR:=(s2.mono ((l5.trans l8).t _)).mono (QS.sub (by decide));have qB9:Sl 59 az h9 (.slice y2 v2 z2) BR:=(s4.mono (l8.t _)).mono (QS.sub (by decide));clear r1 r2 r3 r4 r5 r6 r7 e9 nI QS Jp q8 g8 s1 s2;have mJ:ns st (CA++CB) AR BR=if(dx st (CA++CB)).2≠0 then([],(dx st (CA++CB)).2)else if AR.length*BR.length>4000 then([],4)else if(cG st (CA++CB) BR AR []).2≠0 then([],(cG st (CA++CB) BR AR []).2)else
  if(dx st (CA++CB)).1.kU=true then fL st (CA++CB) (dx st (CA++CB)).1.group (cG st (CA++CB) BR AR []).1 else iR st (CA++CB) (dx st (CA++CB)).1.order (cG st (CA++CB) BR AR []).1:=rfl
 cbv;refine Px q9 hx hC (fun fh y IE EL hy=>?_);have Iq:Le h3 fh:=fun b o hb=>IE _ _ (l39 _ _ hb) (fun hn=>by
  have:b=qp:=by simpa using hn
  rw[this,f4]at hb;cases hb)
 have Cg:Kp [pb] h fh:=Ce.trans (Iq.kp _);obtain⟨F,hF⟩:∃F,dx st (CA++CB)=F:=⟨_,rfl⟩;rw[hF]at mJ hy wH |-;obtain⟨fy,fe⟩:=F;replace mJ:ns st (CA++CB) AR BR=if fe≠0 then([],fe)else if AR.length*BR.length>4000 then([],4)else if(cG st (CA++CB) BR AR []).2≠0 then([],(cG st (CA++CB) BR AR []).2)else
  if fy.kU=true then fL st (CA++CB) fy.group (cG st (CA++CB) BR AR []).1 else iR st (CA++CB) fy.order (cG st (CA++CB) BR AR []).1:=mJ
 have ffe:A .aF .neq fe 0=decide (fe≠0):=ay A ..;have BW:=q3.mono Iq;cbv;rw[ffe];by_cases Ji:fe≠0
 ·rw[if_pos Ji]at mJ;rw[mJ]at hP;subst hP;have af:=hk fh none 0 0 Cg BW Sl.nil;clear hk;rw[decide_eq_true Ji];cbv;exact af
 rw[if_neg Ji]at mJ;have Gx:fe=0:=Decidable.not_not.1 Ji;subst Gx;have OS:y=fy:=hy rfl;subst OS;obtain⟨hyo,VX⟩:=wH y rfl;rw[decide_eq_false Ji];obtain⟨cq9,O2⟩:=q9.has;have Qn:Sl 59 az fh (.slice t2 u2 w2) AR:=qA9.mono (IE.uU O2 (by decide));have Qm:Sl 59 az fh (.slice y2 v2 z2) BR:=qB9.mono (IE.uU O2 (by decide));have fm:A .aF .gtr (A .bA .mul .i64 (A .nat u2) (A .nat v2)) 4000=decide (AR.length*BR.length>4000):=by rw[Dr (A:=A) (aP.nat (A:=A) u2) (aP.nat (A:=A) v2) (by omega) (by omega)];apply decide_eq_decide.2;rw[<-Gp,<-Fa]
 cbv;rw[fm];by_cases hm:AR.length*BR.length>4000
 ·rw[if_pos hm]at mJ;rw[mJ]at hP;subst hP;have af:=hk fh none 0 0 Cg BW Sl.nil;clear hk;rw[decide_eq_true hm];cbv;exact af
 rw[if_neg hm]at mJ;rw[decide_eq_false hm];have Sb:=pB (x:=st) (cols:=CA++CB) (bs:=BR) (as_:=AR) (out:=[]);have W4:=pC (x:=st) (cols:=CA++CB) (bs:=BR) (as_:=AR) (out:=[]);cbv;refine Oy EL hx hC Sk DO (by omega) (by omega) rfl rfl Qn Qm (fun mY b11 n11 c11 QH Bl Wy yv=>?_);generalize cG st (CA++CB) BR AR []=P at *;obtain⟨PR,pe⟩:=P;replace mJ:ns st (CA++CB) AR BR=if pe≠0 then([],pe)else if y.kU=true then fL st (CA++CB) y.group PR else iR st (CA++CB) y.order PR:=mJ
 replace yv:Bx 59 az fh mY QH (.slice b11 n11 c11) PR:=yv;replace Sb:∀r∈PR,r∈[]\/∃a∈AR,∃b∈BR,r=a++b:=Sb;replace W4:PR.length<=0+AR.length*BR.length:=W4;have hPr:∀r∈PR,eD r:=fun r hr v hv=>by
  rcases Sb r hr with h| ⟨a,ha,b,hb,e⟩
  ·cases h
  ·rw[e]at hv;rcases List.mem_append.1 hv with h|h
   ·exact(Sk a ha).1 v h
   ·exact(DO b hb).1 v h
 have fpe:A .aF .neq pe 0=decide (pe≠0):=ay A ..;have Cf:Kp [pb] h mY:=Cg.trans (Bl.kp _);have BV:=BW.mono Bl;have HJ:=EL.mono Bl;cbv;rw[fpe];by_cases MO:pe≠0
 ·rw[if_pos MO]at mJ;rw[mJ]at hP;subst hP;have af:=hk mY none 0 0 Cf BV Sl.nil;clear hk;rw[decide_eq_true MO];cbv;exact af
 rw[if_neg MO]at mJ;rw[decide_eq_false MO];refine HJ.elim (fun b5 n5 c5 b6 n6 c6 b7 n7 c7 b8 n8 c8 b9 n9 c9 eQ fJ eP cb cn cc Sv r1 r2 r3 r4 r5 r6 r7=>?_);clear r1 r2 r3 r4 r5 r6 r7;obtain⟨yg,Rd⟩:∃yg,yg=y.kU:=⟨_,rfl⟩;rw[<-Rd]at Sv mJ VX;cbv;first|rw[ai A,ai A] |rw[ai A] |skip
 refine ar Sv rfl rfl ?_;cases yg with
 |true=>rw[if_pos rfl]at mJ;rw[mJ]at hP;obtain⟨hgg,hgc⟩:=VX rfl;cbv;refine DT HJ hx hgg hgc yv.sl (fun tM Tp KI NX fH Gk=>?_);generalize fL st (CA++CB) y.group PR=G at *;obtain⟨GR,ge⟩:=G;subst hP;have af:=hk tM Tp KI NX (Cf.trans (fH.kp _)) (BV.mono fH) Gk;clear hk;cbv;exact af
 |false=>rw[if_neg (by simp)]at mJ;rw[mJ]at hP;cbv;refine HP HJ hx hC hyo hPr (by omega) yv.sl (fun tM Tp KI NX fH Gk=>?_);generalize iR st (CA++CB) y.order PR=G at *;obtain⟨GR,ge⟩:=G;subst hP;have af:=hk tM Tp KI NX (Cf.trans (fH.kp _)) (BV.mono fH) Gk;clear hk;cbv;exact af
end Go.S
