import Derived.Test.YtekoaiendgjkdaaGreatYB
import Derived.Test.YtekoaiendgjkdaaGreatQD
import Derived.Test.YtekoaiendgjkdaaGreatSxC
import Derived.Test.YtekoaiendgjkdaaGreatQE
set_option linter.unusedVariables false
set_option linter.unusedSimpArgs false
set_option linter.unusedSectionVars false
set_option maxRecDepth 100000
set_option maxHeartbeats 8000000
namespace Go.S
open Go.Sx Go.Proofs
def GY:Sh (Option Addr×Nat×Nat)where
 n:=1
 R _ cs t:=cs=[.slice t.1 t.2.1 t.2.2]
 len:=by rintro h cs x rfl;rfl
 one:=by rintro h cs x rfl;rfl
 tys:=[]
 mono:=fun _ q=>q
def yi(h:ad)(b:Option Addr):ad:=match b with
 |some a=>Sx.eF h a.block
 |none=>h
theorem Qj(h:ad)(b:Option Addr):Le (yi h b) h:=by
 cases b with
 |none=>exact Le.refl h
 |some a=>exact Sx.fY h a.block
theorem YY{h:ad}{b:Option Addr}{j:Nat}{o:Obj}(q:yi h b j=some o):h j=some o/\b≠some ⟨j,0,none⟩:=by refine⟨Qj h b _ _ q,fun e=>?_⟩;subst e;replace q:Sx.eF h j j=some o:=q;rw[Sx.dP]at q;cases q
theorem YX{h:ad}{b:Option Addr}{j:Nat}{o:Obj}(q:h j=some o)(hb:∀a,b=some a->a.block≠j):yi h b j=some o:=by
 cases b with
 |none=>exact q
 |some a=>show Sx.eF h a.block j=_;rw[Sx.cY (fun e=>hb a rfl e.symm)];exact q
theorem ru{h h':ad}{tys:List Nat}(l:bR tys h h')(b:Option Addr):bR tys (yi h b) (yi h' b):=fun j c e fr hm hj=>by
 cases b with
 |none=>exact l j c e fr hm hj
 |some a=>
  replace hj:Sx.eF h a.block j=some (.cells c e fr):=hj;by_cases NK:j=a.block
  ·subst NK;rw[Sx.dP]at hj;cases hj
  ·rw[Sx.cY NK]at hj;show Sx.eF h' a.block j=_;rw[Sx.cY NK];exact l j c e fr hm hj
abbrev Hd:=Option Addr×Nat×Nat
structure uf{α:Type}(e:Nat)(s:Sh α)(h:ad)(hf:List Hd)(gf:List (List α)):Prop where
 len:hf.length=gf.length
 ok:∀(j:Nat) t g,hf[j]? =some t->gf[j]? =some g->Sl e s h (.slice t.1 t.2.1 t.2.2) g
theorem uf.mono{α:Type}{e:Nat}{s:Sh α}{h h':ad}{hf:List Hd}{gf:List (List α)}(q:uf e s h hf gf)(l:bR (e::s.tys) h h'):uf e s h' hf gf:=⟨q.len,fun j t g h1 h2=>(q.ok j t g h1 h2).mono l⟩
theorem uf.nil{α:Type}{e:Nat}{s:Sh α}{h:ad}:uf e s h [] ([]:List (List α)):=⟨rfl,fun j t g h1=>by cases h1⟩
theorem uf.snoc{α:Type}{e:Nat}{s:Sh α}{h:ad}{hf:List Hd}{gf:List (List α)}(q:uf e s h hf gf){t:Hd}{g:List α}(qt:Sl e s h (.slice t.1 t.2.1 t.2.2) g):uf e s h (hf++[t]) (gf++[g]):=by
 have hl:=q.len;refine⟨by rw[nX,nX,hl];rfl,fun j t' g' h1 h2=>?_⟩;rcases mQS j hf.length with hj|hj
 ·rw[mZz hj]at h1;rw[mZz (by omega)]at h2;exact q.ok j t' g' h1 h2
 ·rw[mXM hj]at h1;rw[mXM (by omega)]at h2;rw[<-hl]at h2;generalize j-hf.length=i at *
  match i with
  |0=>cases h1;cases h2;exact qt
  |i+1=>cases h1
theorem uf.sl{α:Type}{e e1:Nat}{s:Sh α}{h:ad}{v:Value}{hf:List Hd}{gf:List (List α)}(q:uf e1 s h hf gf)(o:Sl e GY h v hf):Sl e (mW e1 s) h v gf:=by
 obtain⟨b,cap,h1,h2,h3,h4⟩:=o.out;have hl:=q.len;refine⟨b,cap,by rw[h1,hl],by omega,by omega,?_⟩;rcases h4 with rfl| ⟨oB,off,c,fr,g1,g2,g3⟩
 ·exact .inl (mXs.1 (by rw[<-hl];rfl))
 ·refine .inr ⟨oB,off,c,fr,g1,g2,?_,fun i x hx=>?_⟩
  ·have:=g3.1;rw[hl]at this;exact this
  ·have hi:=(HH.1 hx).1;obtain⟨t,ht⟩:=aE (xs:=hf) (i:=i) (by omega);exact⟨_,g3.2 i t ht,q.ok i t x ht hx⟩
theorem Uj{α:Type}{e:Nat}{s:Sh α}{h0 h:ad}{b x:Option Addr}{len cap cx:Nat}{g:List α}{y:α}{hf:List Hd}{gf:List (List α)}(q:cF e s h0 h (.slice b len cap) g)(Zc:len=0->b=none)(fin:uf e s (yi h b) hf gf)(qv:Sl e s h (.slice x 1 cx) [y])(he:e∉s.tys){size bytes:Nat}(mX:size=s.n)(rR:bytes<=128)(hn:len+1<=2^39)
 {k:Value->ad->Prop} (vN:Le h0 h) (hk:∀m b' c' h',m=len+1->Le h0 h'->(∀tys,e∉tys->bR tys h h')->cF e s h0 h' (.slice b' m c') (g++[y])->uf e s (yi h' b') hf gf->k (.slice b' m c') h'):
 iU h b len cap x 1 size bytes e k:=by
 have kKU:∀j c e1 fr,h j=some (.cells c e1 fr)->e1≠e->b≠some ⟨j,0,none⟩:=fun j c e1 fr hj ch hb=>by
  rcases mXw len with fZK|fZK
  ·rw[Zc fZK]at hb;cases hb
  ·obtain⟨nb,oz,-,-,o⟩:=q.own fZK;obtain⟨c',wG,-⟩:=o.out;rw[oz]at hb;cases hb;rw[wG]at hj;cases hj;exact ch rfl
 refine q.Dr qv he mX rR hn vN (fun m b' c' h' hm l kp qb fr=>?_);have aP:∀tys,e∉tys->bR tys h h':=fun tys ht j c e1 NQ kX hj=>kp j _ hj (kKU j c e1 NQ hj (fun e2=>ht (e2 ▸ kX)));refine hk m b' c' h' hm l aP qb (fin.mono (fun j c e1 NQ _ hj=>?_));obtain⟨NL,KP⟩:=YY hj;refine YX (kp j _ NL KP) (fun a ha Gn=>?_);obtain⟨nb,cQO,-⟩:=qb.own (by omega);rw[cQO]at ha;cases ha;replace Gn:nb=j:=Gn;subst Gn;rcases fr nb cQO with h1|h1|h1
 ·exact KP h1
 ·rw[h1]at NL;cases NL
 ·omega
theorem dZC:Nm b0:=⟨oh.2 (by decide),by decide⟩
def hJA(n:Nd):List Value:=[.int .i64 n.op,.int .i64 n.a,.int .i64 n.b,.int .i64 n.v.k,.int .i64 n.v.n,.string n.v.s,.string n.name]
theorem bKD{e:Nat}{h:ad}{n:Nat}{a b c:Nd}(hb:h n=some (.cells (List.toArray (hJA a++hJA b++hJA c)) e (0,0))):Sl e fx h (.slice (some ⟨n,0,none⟩) 3 3) [a,b,c]:=by
 refine Sl.fresh (xs:=[a,b,c]) hb ⟨by show 0+3*7<=21;decide,fun j y hj=>?_⟩ (by simp) (by simp)
 match j,hj with
 |0,hj=>cases hj;rfl
 |1,hj=>cases hj;rfl
 |2,hj=>cases hj;rfl
 |j+3,hj=>cases hj
theorem bKZ(fn:Int){v x:cO}(hv:kM v)(hx:kM x){h:ad}{k:Value->ad->Prop}(hk:∀h' w e u,Le h h'->(w,e)=iR fn v x->u=w.v->k (.tuple #[u,.int .i64 e]) h'):
 Ct 257 [.int .i64 fn,.agg #[.int .i64 v.k,.int .i64 v.n,.string v.s],.agg #[.int .i64 x.k,.int .i64 x.n,.string x.s]] h k:=by
 obtain⟨A,hA⟩:=Ar.ex;have f0:A .aI .eql v.k 0=decide (v.k=0):=aA A ..;have f2:A .aI .eql fn 2=decide (fn=2):=aA A ..;have f3:A .aI .eql fn 3=decide (fn=3):=aA A ..;have f4:A .aI .eql fn 4=decide (fn=4):=aA A ..;have hP:iR fn v x=if v.k=0 then(x,0)else if fn=2 then eP [lit v,lit x,bin 14 0 1] [] []else if(fn=3/\bC x v<0)\/(fn=4/\bC x v>0)then(x,0)else(v,0):=rfl
 generalize iR fn v x=D at *;refine ah A (ax gQg.aK gQg.bF) Tryz.func257 rfl (by kernel_rfl) ?_;cbv;rw[f0];by_cases h0:v.k=0
 ·rw[if_pos h0]at hP;have af:=hk h x 0 _ (Le.refl h) hP.symm rfl;rw[kS h0];clear hk hP;cbv;exact af
 rw[if_neg h0]at hP;rw[nM h0];cbv;rw[f2];by_cases h2:fn=2
 ·rw[if_pos h2]at hP;subst hP;rw[kS h2];cbv;intro nb h1 f1 e1;have l1:Le h h1:=by rw[e1];exact Le.set f1
  have q1:Sl 325 fx h1 (.slice (some ⟨nb,0,none⟩) 3 3) [lit v,lit x,bin 14 0 1]:=bKD ((congrFun e1 nb).trans ae);clear e1;cbv;refine Gx (ex:=[lit v,lit x,bin 14 0 1]) (cols:=[]) (r:=[]) (fun n hn=>?_) (fun c hc=>by cases hc) (fun v hv=>by cases hv) q1 Sl.nil Sl.nil (fun h' w e u l h1 h2=>?_)
  ·rcases mQs.1 hn with rfl|hn
   ·exact⟨dZC,hv⟩
   ·rcases mQs.1 hn with rfl|hn
    ·exact⟨dZC,hx⟩
    ·rw[mQA]at hn;subst hn;exact⟨dZC,kA⟩
  ·have af:=hk h' w e u (l1.trans l) h1 h2;clear hk;subst h2;cbv;exact af
 rw[if_neg h2]at hP;rw[nM h2];cbv;rw[f3];by_cases h3:fn=3
 ·have f5:A .aI .eql 3 4=false:=by rw[aA A];rfl
  subst h3;rw[kS rfl];cbv;refine(pg x v h).mono (fun r h1 hR=>?_);obtain⟨l1,z,hr,hz⟩:=hR;subst hr;rw[<-hz]at hP;have f6:A .aI .lss z 0=decide (z<0):=bm A ..;clear hz;cbv;rw[f6];by_cases hl:z<0
  ·rw[if_pos (.inl ⟨rfl,hl⟩)]at hP;have af:=hk h1 x 0 _ l1 hP.symm rfl;rw[kS hl];clear hk hP;cbv;exact af
  ·rw[if_neg (by rintro(⟨-,h⟩ | ⟨h,-⟩);exact hl h;exact absurd h (by decide))]at hP;have af:=hk h1 v 0 _ l1 hP.symm rfl;rw[nM hl];clear hk hP;cbv;rw[f5];cbv;exact af
 rw[nM h3];cbv;rw[f4];by_cases h4:fn=4
 ·subst h4;rw[kS rfl];cbv;refine(pg x v h).mono (fun r h1 hR=>?_);obtain⟨l1,z,hr,hz⟩:=hR;subst hr;rw[<-hz]at hP;have f6:A .aI .gtr z 0=decide (z>0):=bO A ..;clear hz;cbv;rw[f6];by_cases hl:z>0
  ·rw[if_pos (.inr ⟨rfl,hl⟩)]at hP;have af:=hk h1 x 0 _ l1 hP.symm rfl;rw[kS hl];clear hk hP;cbv;exact af
  ·rw[if_neg (by rintro(⟨h,-⟩ | ⟨-,h⟩);exact absurd h (by decide);exact hl h)]at hP;have af:=hk h1 v 0 _ l1 hP.symm rfl;rw[nM hl];clear hk hP;cbv;exact af
 rw[if_neg (by rintro(⟨h,-⟩ | ⟨h,-⟩);exact h3 h;exact h4 h)]at hP;have af:=hk h v 0 _ (Le.refl h) hP.symm rfl;rw[nM h4];clear hk hP;cbv;exact af
structure Ru(B h:ad)(vb:Nat)(w:cO):Prop where
 v:h vb=some (.cells #[.int .i64 w.k,.int .i64 w.n,.string w.s] 61 (0,0))
 le:Le B h
 no:B vb=none
 iv:kM w
theorem ZU(fn:Int)(e:List Nd)(cols:List cK)(r:Row)(rs:List Row)(v:cO):lO fn e cols (r::rs) v=match eP e cols r with
 | (x,f)=>if f≠0 then(v0,f)else if x.k=0 then lO fn e cols rs v else match iR fn v x with
  | (w,f)=>if f≠0 then(v0,f)else lO fn e cols rs w:=rfl
theorem Ta{fn:Int}{v x w:cO}{e:Int}(hv:kM v)(hx:kM x)(h:iR fn v x=(w,e)):kM w:=by
 unfold iR at h;split at h
 ·cases h;exact hx
 ·split at h
  ·exact zM (fun n hn=>by
    rcases mQs.1 hn with rfl|hn
    ·exact hv
    ·rcases mQs.1 hn with rfl|hn
     ·exact hx
     ·rw[mQA]at hn;subst hn;exact kA) (fun v hv=>by cases hv) h
  ·split at h
   ·cases h;exact hx
   ·cases h;exact hv
theorem fJS{it:dO}(hn:∀n∈it.e,Nm n.name/\kM n.v){x:aJ}{cols:List cK}{y:Qy}(hc:∀c∈cols,Nm c.name){B h:ad}{vb:Nat}{w:cO}(qa:Ru B h vb w){qp qb ib:Nat}(gq:B qb=some (.cells #[.pointer (some ⟨qp,0,none⟩)] 186 (0,0))){eb:Option Addr}{en ec:Nat}(gi:B ib=some (.cells #[.int .i64 it.fn,.slice eb en ec] 276 (0,0)))(qe:Sl 325 fx B (.slice eb en ec) it.e)(qs:oC B qp x cols y){r:Row}(hr:∀v∈r,kM v){rb:Option Addr}{rn rc:Nat}(qr:Sl 61 bq h (.slice rb rn rc) r)
 {k:Value->ad->Prop} (hk:∀h' e,(e=0->∃w',Ru B h' vb w'/\∀rs,lO it.fn it.e cols (r::rs) w=lO it.fn it.e cols rs w')->(e≠0->Le B h'/\(∃u,Ru B h' vb u)/\∀rs,lO it.fn it.e cols (r::rs) w=(v0,e))->k (.int .i64 e) h'):
 Ct 256 [.slice rb rn rc,.pointer (some ⟨ib,0,none⟩),.pointer (some ⟨qb,0,none⟩),.pointer (some ⟨vb,0,none⟩)] h k:=by
 obtain⟨A,hA⟩:=Ar.ex;have l0:=qa.le;have aQy:=l0 _ _ gq;have fZT:=l0 _ _ gi;have jQa:=qs.mono l0;have kZf:=qe.mono (l0.t _);have hE:=fun rs=>ZU it.fn it.e cols r rs w;generalize hV:eP it.e cols r=V at *;obtain⟨xv,RW⟩:=V;replace hE:∀rs,lO it.fn it.e cols (r::rs) w=if RW≠0 then(v0,RW)else if xv.k=0 then lO it.fn it.e cols rs w else match iR it.fn w xv with
  | (w,f)=>if f≠0 then(v0,f)else lO it.fn it.e cols rs w:=hE
 have VY:kM xv:=zM (fun n h=>(hn n h).2) hr hV;refine jQa.elim (fun b5 n5 c5 b6 n6 c6 b7 n7 c7 b8 n8 c8 b9 n9 c9 gW jD gT cb cn cc g q1 q2 q3 q4 q5 q6 q7=>?_);clear q1 q2 q3 q4 q5 q6;refine ah A (ax gQh.aK gQh.bF) Tryz.func256 rfl (by kernel_rfl) ?_;cbv;repeat (first| ((try rw[ai A]);(try rw[ai A]);(first|refine aB fZT rfl rfl ?_|refine aB aQy rfl rfl ?_|refine aB g rfl rfl ?_);cbv) | (refine⟨⟨_,rfl,rfl⟩,?_⟩;cbv))
 refine Gx hn hc hr kZf q7 qr (fun h1 v e u l1 hv hu=>?_);rw[hV]at hv;cases hv;subst hu;have iZL:=l1 _ _ fZT;have gKo:=l1 _ _ qa.v;have fe:A .aI .eql RW 0=decide (RW=0):=aA A ..;have SS:A .aI .neq xv.k 0=decide (xv.k≠0):=aC A ..;have hJc:Ru B h1 vb w:=⟨gKo,l0.trans l1,qa.no,qa.iv⟩;clear gq gi aQy fZT qs jQa g q7;cbv;rw[fe];by_cases he:RW=0
 ·subst he;rw[kS rfl];cbv;rw[SS];by_cases Qe:xv.k=0
  ·have af:=hk h1 0 (fun _=>⟨w,hJc,fun rs=>by rw[hE,if_neg (fun g=>g rfl),if_pos Qe]⟩) (fun e=>absurd rfl e);rw[nM (fun g=>g Qe)];clear hk hE;cbv;exact af
  ·rw[kS Qe];cbv;repeat (first| ((try rw[ai A]);(try rw[ai A]);(first|refine aB iZL rfl rfl ?_|refine aB gKo rfl rfl ?_);cbv) | (refine⟨⟨_,rfl,rfl⟩,?_⟩;cbv))
   refine bKZ it.fn qa.iv VY (fun h2 w2 e2 u2 l2 vj PH=>?_);have lQF:=l2 _ _ gKo;subst PH;have fZ:kM w2:=Ta qa.iv VY vj.symm;have aQv:∀rs,lO it.fn it.e cols (r::rs) w=if e2≠0 then(v0,e2)else lO it.fn it.e cols rs w2:=fun rs=>by
    rw[hE,if_neg (fun g=>g rfl),if_neg Qe,<-vj]
   have jQQ:=(l0.trans l1).trans l2;clear hE vj;cbv;refine ja lQF (by simp) (fun h3 e3=>?_);have hJb:Ru B h3 vb w2:=⟨by rw[e3];exact ae,fun b' o' oz=>by rw[e3,aO (fun e=>by rw[e,qa.no]at oz;cases oz)];exact jQQ _ _ oz,qa.no,fZ⟩;have af:=hk h3 e2 (fun e0=>⟨w2,hJb,fun rs=>by rw[aQv,if_neg (fun g=>g e0)]⟩) (fun e0=>⟨hJb.le,⟨_,hJb⟩,fun rs=>by rw[aQv,if_pos e0]⟩);clear hk e3 aQv;cbv;exact af
 ·have af:=hk h1 RW (fun e=>absurd e he) (fun _=>⟨hJc.le,⟨_,hJc⟩,fun rs=>by rw[hE,if_pos he]⟩);rw[nM he];clear hk hE;cbv;exact af
structure bZf(cols:List cK)(group:Int)(i:dO)(g:List Row):Prop where
 gKM:i.fn=0->g≠[]/\0<=group
 wide:∀r∈g,group<r.length
 rr:∀r∈g,fS r
theorem eXv{cols:List cK}{group:Int}{i:dO}{g:List Row}(h:i.fn=1):yA cols group i g=(⟨2,g.length,b0⟩,0):=by unfold yA;rw[if_pos h]
theorem eXw{cols:List cK}{group:Int}{i:dO}{r:Row}{g:List Row}(h:i.fn=0):yA cols group i (r::g)=(fT r group,0):=by unfold yA;rw[if_neg (by omega),if_pos h]
theorem eXu{cols:List cK}{group:Int}{i:dO}{g:List Row}(h1:¬i.fn=1)(h0:¬i.fn=0):yA cols group i g=lO i.fn i.e cols g v0:=by unfold yA;rw[if_neg h1,if_neg h0]
theorem UE{h:ad}{qp:Nat}{x:aJ}{cols:List cK}{y:Qy}(q:oC h qp x cols y)(hc:∀c∈cols,Nm c.name){it:dO}(hn:∀n∈it.e,Nm n.name/\kM n.v){g:List Row}(ok:bZf cols y.group it g){eb:Option Addr}{en ec:Nat}(qe:Sl 325 fx h (.slice eb en ec) it.e){rb:Option Addr}{rn rc:Nat}(qr:Sl 59 aD h (.slice rb rn rc) g)
 {k:Value->ad->Prop} (hk:∀h' v e u,Le h h'->(v,e)=yA cols y.group it g->u=v.v->k (.tuple #[u,.int .i64 e]) h'):
 Ct 199 [.pointer (some ⟨qp,0,none⟩),.agg #[.int .i64 it.fn,.slice eb en ec],.slice rb rn rc] h k:=by
 obtain⟨A,hA⟩:=Ar.ex;have KH:=qr.len;have f1:A .aI .eql it.fn 1=decide (it.fn=1):=aA A ..;have f0:A .aI .eql it.fn 0=decide (it.fn=0):=aA A ..;obtain⟨N,hN⟩:∃N,A .nat rn=N:=⟨_,rfl⟩;have iZg:N=(rn:Int):=by rw[<-hN,hA.nat];rfl
 obtain⟨D,hP⟩:∃D,D=yA cols y.group it g:=⟨_,rfl⟩;rw[<-hP]at hk;refine ah A (ax cZS.aK cZS.bF) Tryz.func199 rfl (by kernel_rfl) ?_;cbv;intro qb h1 g1 e1;have l1:Le h h1:=by rw[e1];exact Le.set g1
 have gq:h1 qb=some (.cells #[.pointer (some ⟨qp,0,none⟩)] 186 (0,0)):=by rw[e1];exact ae
 clear e1;cbv;intro ib h2 g2 e2;have l2:Le h1 h2:=by rw[e2];exact Le.set g2
 have gi:h2 ib=some (.cells #[.int .i64 it.fn,.slice eb en ec] 276 (0,0)):=by rw[e2];exact ae
 clear e2;cbv;intro vb h3 g3 e3;have l3:Le h2 h3:=by rw[e3];exact Le.set g3
 have gv:h3 vb=some (.cells #[.int .i64 0,.int .i64 0,.string ⟨#[]⟩] 61 (0,0)):=by rw[e3];exact ae
 have bZZ:=l3 _ _ gi;have iZH:=(l2.trans l3) _ _ gq;have rL:=l1.trans (l2.trans l3);have lB:Le h2 (Sx.eF h3 vb):=fun b o hb=>by
  rw[Sx.cY (fun e=>by rw[e,g3]at hb;cases hb)];exact l3 _ _ hb
 clear e3;obtain⟨B,hB⟩:∃B,B=Sx.eF h3 vb:=⟨_,rfl⟩;rw[<-hB]at lB;have cKN:Le B h3:=by rw[hB];exact Sx.fY h3 vb
 have cXc:B vb=none:=by rw[hB];exact Sx.dP h3 vb
 clear hB;have uM:Le h B:=(l1.trans l2).trans lB;cbv;repeat (first| ((try rw[ai A]);(try rw[ai A]);refine aB bZZ rfl rfl ?_;cbv) | (refine⟨⟨_,rfl,rfl⟩,?_⟩;cbv))
 rw[f1];by_cases h1:it.fn=1
 ·rw[eXv h1,<-KH]at hP;rw[kS h1];cbv;rw[hN];refine ja gv (by simp) (fun h4 e4=>?_);have l4:Le h h4:=fun b o hb=>by rw[e4,aO (fun e=>by rw[e]at hb;rw[uM _ _ hb]at cXc;cases cXc)];exact rL _ _ hb
  have Na:h4 vb=some (.cells #[.int .i64 2,.int .i64 N,.string b0] 61 (0,0)):=by rw[e4];exact ae
  have af:=hk h4 ⟨2,N,b0⟩ 0 _ l4 (by rw[hP,iZg]) rfl;clear hk e4 hP;cbv;repeat (first| ((try rw[ai A]);(try rw[ai A]);refine aB Na rfl rfl ?_;cbv) | (refine⟨⟨_,rfl,rfl⟩,?_⟩;cbv))
  exact af
 rw[nM h1];cbv;repeat (first| ((try rw[ai A]);(try rw[ai A]);refine aB bZZ rfl rfl ?_;cbv) | (refine⟨⟨_,rfl,rfl⟩,?_⟩;cbv))
 rw[f0];by_cases h0:it.fn=0
 ·-- mQd
  obtain⟨CE,YV⟩:=ok.gKM h0;cases g with
  |nil=>exact absurd rfl CE
  |cons r rs=>
   rw[eXw h0]at hP;have hw:=ok.wide r mQE;obtain⟨iZJ,eZC⟩:∃j:Nat,y.group=(j:Int):=⟨y.group.toNat,by omega⟩;obtain⟨xv,NA⟩:=aE (xs:=r) (i:=iZJ) (by omega);have kJw:=lD NA eZC;have An:iZJ<r.length:=by omega
   have jQy:aS y.group iZJ:=⟨eZC⟩;rw[kJw]at hP;have Lp:rb.isSome=true/\(0:Int)<=0/\(0:Int)<(rn:Int):=⟨qr.aT (by rw[KH,mQx];omega),by omega,by rw[KH,mQx];omega⟩;refine q.elim (fun b5 n5 c5 b6 n6 c6 b7 n7 c7 b8 n8 c8 b9 n9 c9 gW jD gT cb cn cc jZI q1 q2 q3 q4 q5 q6 q7=>?_);have iZG:=rL _ _ jZI;clear q1 q2 q3 q4 q5 q6 q7 jZI;rw[kS h0];cbv;refine⟨Lp,?_⟩;cbv;have gJJ:(r::rs)[0]? =some r:=rfl;refine bZ (qr.mono (rL.t _)) gJJ rfl (fun ab an ac qx=>?_);replace qx:Sl 61 bq h3 (.slice ab an ac) r:=qx;have RM:=qx.len;have dQm:ab.isSome=true/\0<=y.group/\y.group<(an:Int):=⟨qx.aT (by omega),jQy.ix (by omega)⟩;cbv;repeat (first| ((try rw[ai A]);(try rw[ai A]);(first|refine aB iZH rfl rfl ?_|refine aB iZG rfl rfl ?_);cbv) | (refine⟨⟨_,rfl,rfl⟩,?_⟩;cbv))
   refine⟨dQm,?_⟩;cbv;refine qx.load NA jQy.eq (fun cs ay=>?_);replace ay:cs=[.int .i64 xv.k,.int .i64 xv.n,.string xv.s]:=ay;subst ay;cbv;refine ja gv (by simp) (fun h4 e4=>?_);have l4:Le h h4:=fun b o hb=>by rw[e4,aO (fun e=>by rw[e]at hb;rw[uM _ _ hb]at cXc;cases cXc)];exact rL _ _ hb
   have Na:h4 vb=some (.cells #[.int .i64 xv.k,.int .i64 xv.n,.string xv.s] 61 (0,0)):=by rw[e4];exact ae
   have af:=hk h4 xv 0 _ l4 hP.symm rfl;clear hk e4 hP;cbv;repeat (first| ((try rw[ai A]);(try rw[ai A]);refine aB Na rfl rfl ?_;cbv) | (refine⟨⟨_,rfl,rfl⟩,?_⟩;cbv))
   exact af
 rw[eXu h1 h0]at hP;obtain⟨J,dY⟩:∃J:Nat->ad->Prop,∀i h',J i h'=∃w,Ru B h' vb w/\lO it.fn it.e cols (g.drop i) w=D:=⟨_,fun _ _=>rfl⟩;have MX:J 0 h3:=by rw[dY];exact⟨v0,⟨gv,cKN,cXc,kA⟩,hP.symm⟩
 have hZV:=qr.mono (uM.t _);have kZe:=qe.mono (uM.t _);have hZT:=q.mono uM;have lQH:=lB _ _ (l2 _ _ gq);have lQM:=lB _ _ gi;rw[nM h0];cbv;refine bQv KH J MX (fun i h' hI=>?_) (fun i r h' ab an ac hi JA hI hv=>?_) (fun h' hI=>?_)
 ·rw[dY]at hI;obtain⟨w,qa,-⟩:=hI;exact hZV.mono (qa.le.t _)
 ·rw[dY]at hI;obtain⟨w,qa,hD⟩:=hI;have Bc:g.drop i=r::g.drop (i+1):=by obtain⟨h1,h2⟩:=HH.1 JA;rw[mQy h1,h2]
  rw[Bc]at hD;refine fJS hn hc qa lQH lQM kZe hZT (ok.rr r (GD JA)) hv (fun h5 e s0 s1=>⟨e,rfl,fun e0=>?_,fun e0=>?_⟩)
  ·obtain⟨w',eKo,RA⟩:=s0 e0;rw[dY];exact⟨w',eKo,by rw[<-hD,RA]⟩
  ·obtain⟨l5,⟨u,qu⟩,RA⟩:=s1 e0;rw[RA]at hD;have fe:A .aI .neq e 0=true:=by rw[aC A];exact kS e0
   have eZP:=qu.v;have lJT:=qu.no;clear dY MX;cbv;rw[fe];cbv;refine ja eZP (by simp) (fun h4 e4=>?_);have l4:Le h h4:=fun b o hb=>by rw[e4,aO (fun e=>by rw[e]at hb;rw[uM _ _ hb]at cXc;cases cXc)];exact l5 _ _ (uM _ _ hb)
   have Na:h4 vb=some (.cells #[.int .i64 0,.int .i64 0,.string ⟨#[]⟩] 61 (0,0)):=by rw[e4];exact ae
   have af:=hk h4 v0 e _ l4 hD rfl;clear hk e4;cbv;repeat (first| ((try rw[ai A]);(try rw[ai A]);refine aB Na rfl rfl ?_;cbv) | (refine⟨⟨_,rfl,rfl⟩,?_⟩;cbv))
   exact af
 ·rw[dY]at hI;obtain⟨w,qa,hD⟩:=hI;rw[mQR (by omega)]at hD;replace hD:(w,0)=D:=hD;have fe:A .aI .neq 0 0=false:=by rw[aC A];rfl
  have eZP:=qa.v;have l5:=qa.le;clear dY MX;cbv;rw[fe];cbv;repeat (first| ((try rw[ai A]);(try rw[ai A]);refine aB eZP rfl rfl ?_;cbv) | (refine⟨⟨_,rfl,rfl⟩,?_⟩;cbv))
  refine ja eZP (by simp) (fun h4 e4=>?_);have l4:Le h h4:=fun b o hb=>by rw[e4,aO (fun e=>by rw[e]at hb;rw[uM _ _ hb]at cXc;cases cXc)];exact l5 _ _ (uM _ _ hb)
  have Na:h4 vb=some (.cells #[.int .i64 w.k,.int .i64 w.n,.string w.s] 61 (0,0)):=by rw[e4];exact ae
  have af:=hk h4 w 0 _ l4 hD rfl;clear hk e4;cbv;repeat (first| ((try rw[ai A]);(try rw[ai A]);refine aB Na rfl rfl ?_;cbv) | (refine⟨⟨_,rfl,rfl⟩,?_⟩;cbv))
  exact af
theorem bQm{B h:ad}{ob:Nat}{l:Row}(qo:Nx B h ob l)(hl:l.length<=2^30){qp qb gb:Nat}{x:aJ}{cols:List cK}{y:Qy}(q:oC B qp x cols y)(hc:∀c∈cols,Nm c.name){it:dO}(hn:∀n∈it.e,Nm n.name/\kM n.v){g:List Row}(ok:bZf cols y.group it g){rb:Option Addr}{rn rc:Nat}(gq:B qb=some (.cells #[.pointer (some ⟨qp,0,none⟩)] 186 (0,0)))(gg:B gb=some (.cells #[.slice rb rn rc] 34 (0,0)))(qr:Sl 59 aD B (.slice rb rn rc) g){eb:Option Addr}{en ec:Nat}(qe:Sl 325 fx h (.slice eb en ec) it.e)
 {k:Value->ad->Prop} (hk:∀h' v e,Nx B h' ob (l++[v])->(v,e)=yA cols y.group it g->k (.int .i64 e) h'):
 Ct 198 [.agg #[.int .i64 it.fn,.slice eb en ec],.pointer (some ⟨qb,0,none⟩),.pointer (some ⟨gb,0,none⟩),.pointer (some ⟨ob,0,none⟩)] h k:=by
 obtain⟨A,hA⟩:=Ar.ex;have l0:=qo.le;have gK:=qo.no;obtain⟨b,n,c,go,aZn⟩:=qo.out;have JD:=aZn.sl.len;have aQy:=l0 _ _ gq;have eQd:=l0 _ _ gg;refine ah A (ax cZT.aK cZT.bF) Tryz.func198 rfl (by kernel_rfl) ?_;cbv;repeat (first| ((try rw[ai A]);(try rw[ai A]);(first|refine aB aQy rfl rfl ?_|refine aB eQd rfl rfl ?_);cbv) | (refine⟨⟨_,rfl,rfl⟩,?_⟩;cbv))
 refine UE (q.mono l0) hc hn ok qe (qr.mono (l0.t _)) (fun h1 v e u l1 hv hu=>?_);subst hu;have KV:=l1 _ _ go;cbv;repeat (first| ((try rw[ai A]);(try rw[ai A]);refine aB KV rfl rfl ?_;cbv) | (refine⟨⟨_,rfl,rfl⟩,?_⟩;cbv))
 intro n2 h2 g2 e2;have l2:Le h1 h2:=by rw[e2];exact Le.set g2
 have v2:Sl 61 bq h2 (.slice (some ⟨n2,0,none⟩) 1 1) [v]:=bA (s:=bq) ((congrFun e2 n2).trans ae) rfl;have go2:=l2 _ _ KV;clear e2;cbv;refine(aZn.mono ((l1.trans l2).t _)).append v2 (by decide) rfl (by decide) (by omega) (l0.trans (l1.trans l2)) (fun m3 b3 c3 h3 eQE l3 t3 k3 ry=>?_);have Uk:h3 ob=some (.cells #[.slice b n c] 59 (0,0)):=t3 [59] (by decide) _ _ _ _ (mQA.2 rfl) go2;clear t3 k3 v2;cbv;refine ja Uk (by simp) (fun h4 e4=>?_);have af:=hk h4 v e ⟨⟨b3,m3,c3,by rw[e4];exact ae,ry.mono (by rw[e4];exact bR.set Uk (by decide))⟩,fun b' o' oz=>by rw[e4,aO (fun e=>by rw[e,gK]at oz;cases oz)];exact l3 _ _ oz,gK⟩ hv;clear hk e4;cbv;exact af
theorem Nb(k:Int)(r:Row)(rs:List Row)(gf:List (List Row)){g g':List Row}{p:Row}(hg:g=g'++[p]):cG k (r::rs) (gf++[g])=if re (fT p k) (fT r k)=true then cG k rs (gf++[g++[r]])else cG k rs (gf++[g]++[[r]]):=by
 have e3:cG k (r::rs) (gf++[g])=match (gf++[g]).getLast? with
  |none=>cG k rs [[r]]
  |some g1=>match g1.getLast? with
   |none=>cG k rs (gf++[g]++[[r]])
   |some p=>if re (fT p k) (fT r k)=true then cG k rs ((gf++[g]).dropLast++[g1++[r]])else cG k rs (gf++[g]++[[r]]):=rfl
 rw[e3,mJx,mJy];show(match g.getLast? with
  |none=>cG k rs (gf++[g]++[[r]])
  |some p=>if re (fT p k) (fT r k)=true then cG k rs (gf++[g++[r]])else cG k rs (gf++[g]++[[r]]))=_
 have e4:g.getLast?=some p:=by rw[hg,mJx]
 rw[e4]
structure hQm(h2 h:ad)(k:Int)(S:List Row)(i:Nat)(hd:List Hd)(gs:List (List Row)):Prop where
 z:i=0->hd=[]/\gs=[]
 s:0<i->∃hf gf t g g' p,hd=hf++[t]/\gs=gf++[g]/\g=g'++[p]/\S[i-1]? =some p/\uf 59 aD (yi h t.1) hf gf/\cF 59 aD h2 h (.slice t.1 t.2.1 t.2.2) g
theorem hQm.fin{h2 h:ad}{k:Int}{S:List Row}{i:Nat}{hd:List Hd}{gs:List (List Row)}(q:hQm h2 h k S i hd gs):uf 59 aD h hd gs:=by
 rcases mXw i with h0|h0
 ·obtain⟨rfl,rfl⟩:=q.z h0;exact uf.nil
 ·obtain⟨hf,gf,t,g,g',p,rfl,rfl,-,-,f,b⟩:=q.s h0;exact(f.mono ((Qj h t.1).t _)).snoc b.sl
theorem bQi{h0 h:ad}{qp:Nat}{x:aJ}{cols:List cK}{y:Qy}(q:oC h qp x cols y)(hg:0<=y.group){fI:List Row}(mF:fI.length<=2^20)(hw:∀r∈fI,y.group<r.length){rb:Option Addr}{rn rc:Nat}(l0:Le h0 h)(qr:cF 59 aD h0 h (.slice rb rn rc) fI)
 {k:Value->ad->Prop} (hk:∀h' b n c,Le h0 h'->(∀tys,59∉tys->bR tys h h')->(∀b o,h b=some o->(∀c fr,o≠.cells c 59 fr)->h' b=some o)->Sl 34 (mW 59 aD) h' (.slice b n c) (gV y.group x.desc fI)->k (.slice b n c) h'):
 Ct 197 [.pointer (some ⟨qp,0,none⟩),.slice rb rn rc] h k:=by
 obtain⟨A,hA⟩:=Ar.ex;obtain⟨S,hS⟩:∃S,S=gL (wP y.group x.desc) fI:=⟨_,rfl⟩;have lKp:S.length=fI.length:=by rw[hS];exact(gh _ _).length_eq
 have fZw:∀r∈S,y.group<r.length:=fun r hr=>by rw[hS]at hr;exact hw r (oM hr)
 obtain⟨D,jZA⟩:∃D,cG y.group S []=D:=⟨_,rfl⟩;have hP:gV y.group x.desc fI=D:=by unfold gV;rw[if_neg (by omega),<-hS,jZA]
 rw[hP]at hk;have fo:A .aI .lss y.group 0=false:=by rw[bm A];exact nM (by omega)
 have iXv:aG 255=true:=by kernel_rfl
 obtain⟨gk,jXU⟩:∃j:Nat,y.group=(j:Int):=⟨y.group.toNat,by omega⟩;have fZw:∀r∈S,gk<r.length:=fun r hr=>by have:=fZw r hr;omega
 have eKV:aS y.group gk:=⟨jXU⟩;clear jXU;refine q.elim (fun b5 n5 c5 b6 n6 c6 b7 n7 c7 b8 n8 c8 b9 n9 c9 gW jD gT cb cn cc g q1 q2 q3 q4 q5 q6 q7=>?_);clear q1 q2 q3 q4 q5 q6 q7 hP;refine ah A (ax cZU.aK cZU.bF) Tryz.func197 rfl (by kernel_rfl) ?_;cbv;intro qb h1 f1 e1;have l1:Le h h1:=by rw[e1];exact Le.set f1
 have gb:h1 qb=some (.cells #[.pointer (some ⟨qp,0,none⟩)] 186 (0,0)):=by rw[e1];exact ae
 have g1:=l1 _ _ g;clear e1;cbv;repeat (first| ((try rw[ai A]);(try rw[ai A]);(first|refine aB gb rfl rfl ?_|refine aB g1 rfl rfl ?_);cbv) | (refine⟨⟨_,rfl,rfl⟩,?_⟩;cbv))
 intro ob bQd f2 e2;have cJM:Le h1 bQd:=by rw[e2];exact Le.set f2
 have eQb:bQd ob=some (.cells #[.int .i64 0] 3 (0,0)):=by rw[e2];exact ae
 clear e2;cbv;refine ja eQb (by simp) (fun hq e2=>?_);have hJP:Le h1 hq:=fun b o hb=>by rw[e2,aO (fun e=>by rw[e,f2]at hb;cases hb)];exact cJM _ _ hb
 have go:hq ob=some (.cells #[.int .i64 y.group] 3 (0,0)):=by rw[e2];exact ae
 have TR:=l1.trans hJP;have gKw:=hJP _ _ gb;have gq:=TR _ _ g;have iKZ:=q.mono TR;have jQS:=l0.trans TR;have jQb:=qr.mono (TR.t _);clear e2;cbv;refine aB go rfl rfl ?_;cbv;rw[fo];cbv;refine aXO (Ce y.group x.desc) iXv jQS jQb hw (fun nb c fr gY=>ZC go gKw iKZ (fun e=>by rw[e,gY]at go;cases go) (fun e=>by rw[e,gY]at gKw;cases gKw) (fun e=>by rw[e,gY]at gq;cases gq) hg) (fun h2 d1 d2 d3 d4=>?_);rw[<-hS]at d4;have go2:=d3 _ _ go (fun c fr e=>by cases e);have TS:=d4.sl;have KH:rn=S.length:=TS.len;have sJ:∀h' b n c,Le h2 h'->Sl 34 (mW 59 aD) h' (.slice b n c) D->k (.slice b n c) h':=fun h' b n c l qs=>hk h' b n c (d1.trans l) (fun tys ht=>(TR.t tys).trans ((d2 tys ht).trans (l.t tys))) (fun b o hb ho=>l _ _ (d3 _ _ (TR _ _ hb) ho)) qs;clear hk d1 d2 d3 d4 go gKw gq iKZ jQS jQb gb g1 g q qr l0 TR hJP cJM l1 hS;obtain⟨I,aY⟩:∃I:Nat->(Int×Option Addr×Nat×Nat)->ad->Prop,∀m g h',I m g h'=∃i hd gs,aS g.1 i/\i<=rn/\m=rn-i/\Le h2 h'/\cF 34 GY h2 h' (.slice g.2.1 g.2.2.1 g.2.2.2) hd/\(g.2.2.1=0->g.2.1=none)/\hd.length<=i/\(∀g∈gs,g.length<=i)/\hQm h2 h' y.group S i hd gs/\cG y.group (S.drop i) gs=D:=⟨_,fun _ _ _=>rfl⟩;have hJ:I rn (0,none,0,0) h2:=by rw[aY];exact⟨0,[],[],⟨rfl⟩,mQr _,rfl,Le.refl _,cF.nil,fun _=>rfl,mQr _,(fun g hg=>by cases hg),⟨fun _=>⟨rfl,rfl⟩,fun e=>absurd e (by omega)⟩,jZA⟩
 cbv;refine aX.go (G:=Int×Option Addr×Nat×Nat) (fun g=>[(22,.v (.int .i64 g.1)),(6,.v (.slice g.2.1 g.2.2.1 g.2.2.2))]) (fun _=>[]) (fun m g h'=>I m g h') rn (0,none,0,0) ⟨?_,?_,?_⟩ hJ ?_
 ·cbv
 ·cbv
 ·cbv
 ·intro m gg h4 hI;rw[aY]at hI;cbv;obtain⟨i,hd,gs,hz,hi,hm,rK,qo,cKj,TN,RI,st,hD⟩:=hI;obtain⟨z,bo,no,co⟩:=gg;replace hz:aS z i:=hz;replace qo:cF 34 GY h2 h4 (.slice bo no co) hd:=qo;replace cKj:no=0->bo=none:=cKj;have f2:A .aI .lss z (A .nat rn)=decide (i<rn):=hz.iJ (aS.nat rn);have gK:no=hd.length:=qo.sl.len;rw[f2];by_cases aP:i<rn
  ·obtain⟨r,Jx⟩:=aE (xs:=S) (i:=i) (by omega);have hJd:=TS.mono (rK.t _);have cN:=hz.eq;have cJ:rb.isSome=true/\0<=z/\z<(rn:Int):=⟨TS.aT (by omega),hz.ix aP⟩;have cZ:=hz.succ (A:=A) (by omega);obtain⟨z2,dL⟩:∃z2,A .bB .add .i64 z 1=z2:=⟨_,rfl⟩;rw[dL]at cZ;obtain⟨mm,sf⟩:∃mm,mm=rn-(i+1):=⟨_,rfl⟩;have sh:mm<m:=by omega
   have Bc:S.drop i=r::S.drop (i+1):=by obtain⟨h1,h2⟩:=HH.1 Jx;rw[mQy h1,h2]
   rw[Bc]at hD;have jd:∀h5 b5 m5 c5 fZf fZN,Le h2 h5->cF 34 GY h2 h5 (.slice b5 m5 c5) fZf->fZf.length<=i+1->(∀g∈fZN,g.length<=i+1)->hQm h2 h5 y.group S (i+1) fZf fZN->cG y.group (S.drop (i+1)) fZN=D->I mm (z2,b5,m5,c5) h5:=fun h5 b5 m5 c5 fZf fZN l5 o5 eZz qX s5 lQs=>by
    rw[aY];refine⟨i+1,fZf,fZN,cZ,aP,sf,l5,o5,fun e=>?_,eZz,qX,s5,lQs⟩;exfalso;obtain⟨hf,_,t,_,_,_,e1,-⟩:=s5.s (by omega);have:=o5.sl.len;rw[e1,nX,mQu]at this;replace e:m5=0:=e;omega
   have gKq:=rK _ _ go2;clear aY hJ sJ;rw[kS aP];cbv;refine⟨cJ,?_⟩;cbv;refine bZ hJd Jx cN (fun xb xn xc uG=>?_);have bZv:=uG.len;have eZu:=fZw r (GD Jx);cbv;have lQY:A .aI .eql z 0=decide (i=0):=by rw[aA A,decide_eq_decide];have:=hz.eq;omega
   rw[lQY];by_cases Jf:i=0
   ·obtain⟨rfl,rfl⟩:=st.z Jf;replace hD:cG y.group (S.drop (i+1)) [[r]]=D:=hD;obtain⟨hf,cQJ⟩:∃hf:List Hd,hf=[]:=⟨_,rfl⟩;obtain⟨gf,YU⟩:∃gf:List (List Row),gf=[]:=⟨_,rfl⟩;have bQw:uf 59 aD h4 hf gf:=by rw[cQJ,YU];exact uf.nil
    have aKJ:([]:List Row).length<=i:=mQr _;have RI:∀x∈gf,x.length<=i:=fun x hx=>by rw[YU]at hx;cases hx
    rw[<-cQJ]at qo gK TN;replace hD:cG y.group (S.drop (i+1)) (gf++[[]++[r]])=D:=by rw[YU];exact hD
    clear st cQJ YU gKq;rw[kS Jf];cbv;intro Ad h5 f5 e5;have l5:Le h4 h5:=by rw[e5];exact Le.set f5
    have v5:Sl 34 GY h5 (.slice (some ⟨Ad,0,none⟩) 1 1) [(none,0,0)]:=bA (s:=GY) ((congrFun e5 Ad).trans ae) rfl;clear e5;cbv;refine(qo.mono (l5.t _)).append v5 (by decide) rfl (by decide) (by omega) (rK.trans l5) (fun m6 b6 c6 h6 jJd l6 t6 k6 o6=>?_);have t46:bR [59,61] h4 h6:=(l5.t _).trans (t6 _ (by decide));have eQu:=bQw.mono t46;have TN:m6=hf.length+1:=by omega
    clear v5 t6 k6 qo bQw;obtain⟨zn,nP⟩:∃zn,A .nat m6=zn:=⟨_,rfl⟩;have eKL:aS zn m6:=by rw[<-nP];exact aS.nat m6
    obtain⟨zk,Ba⟩:∃zk,A .bB .sub .i64 zn 1=zk:=⟨_,rfl⟩;have aZN:aS zk (m6-1):=by rw[<-Ba];exact ff (A:=A) eKL (⟨rfl⟩:aS 1 1) (by omega) (by omega)
    have uO:=aZN.eq;have dQl:b6.isSome=true/\0<=zk/\zk<(m6:Int):=⟨o6.sl.aT (by omega),aZN.ix (by omega)⟩;have RH:(hf++[(none,0,0)])[m6-1]? =some (none,0,0):=by rw[TN,mXn,mXM (mQt _),mXA];rfl
    have cKu:∀cs,GY.R h6 cs (none,0,0)->cs=[.slice none 0 0]:=fun cs h=>h;cbv;rw[nP,Ba];refine⟨dQl,?_⟩;cbv;refine o6.sl.load RH uO (fun cs ay=>?_);replace ay:cs=[.slice none 0 0]:=cKu cs ay;subst ay;clear cKu;cbv;intro aQg h8 f8 e8;have l8:Le h6 h8:=by rw[e8];exact Le.set f8
    have v8:Sl 59 aD h8 (.slice (some ⟨aQg,0,none⟩) 1 1) [r]:=bA (s:=aD) ((congrFun e8 aQg).trans ae) ⟨_,rfl,uG.mono (((t46.sub (by decide))).trans (l8.t _))⟩;clear e8;cbv;refine Uj (h0:=h2) (((cF.nil:cF 59 aD h2 h6 (.slice none 0 0) ([]:List Row))).mono (l8.t _)) (fun _=>rfl) (((show uf 59 aD (yi h6 none) hf gf from eQu)).mono (ru (l8.t _) none)) v8 (by decide) rfl (by decide) (by omega) (l6.trans l8) (fun m9 b9 c9 h9 dQa l9 t9 dQr QF=>?_);have o9:=(o6.mono (l8.t _)).mono (t9 [34] (by decide));obtain⟨cJF,yV,Qo,bZG,OU⟩:=o9.own (by omega);have aKS:b6=some ⟨cJF,0,none⟩:=yV;subst aKS;cbv;refine⟨dQl,?_⟩;cbv;refine OU.setAt (by decide) (i:=m6-1) (by omega) uO rfl (x:=(b9,m9,c9)) rfl (fun fL yS t10 xJ=>?_);have fU:Le h2 fL:=fun b o hb=>yS _ _ (l9 _ _ hb) (fun hm=>by rw[mQA.1 hm,Qo]at hb;cases hb);have bQC:(hf++[(none,0,0)]).set (m6-1) (b9,m9,c9)=hf++[(b9,m9,c9)]:=by rw[TN,mXn];simp
    rw[bQC]at xJ;have QY:=xJ.buf (n:=m6) Qo (by rw[TN,nX,mQu]);have af:=jd fL (some ⟨cJF,0,none⟩) m6 c6 (hf++[(b9,m9,c9)]) (gf++[([]:List Row)++[r]]) fU QY (by rw[nX,mQu];omega) (fun x hx=>by
     rcases mQv.1 hx with hx|hx
     ·have:=RI x hx;omega
     ·rw[mQA]at hx;rw[hx,nX,mQu];have:=aKJ;omega) ⟨fun e=>absurd e (by omega),fun _=>⟨hf,gf,(b9,m9,c9),([]:List Row)++[r],([]:List Row),r,rfl,rfl,rfl,by rw[mXn];exact Jx,QF.mono (ru (t10 _ (by decide)) b9),dQr.mono (t10 _ (by decide))⟩⟩ hD
    clear jd OU xJ QY dQr QF;cbv;rw[dL];refine⟨mm,(_,_),sh,⟨?_,?_,?_⟩,af⟩
    ·cbv
    ·cbv
    ·cbv
   ·obtain⟨Wo,fZV,t,g,g',p,jJe,fJo,eg,jZq,cXG,XL⟩:=st.s (by omega);obtain⟨tb,tn,tc⟩:=t;replace cXG:uf 59 aD (yi h4 tb) Wo fZV:=cXG;replace XL:cF 59 aD h2 h4 (.slice tb tn tc) g:=XL;have fJj:=st.fin;have iXs:=RI;rw[fJo,Nb y.group r (S.drop (i+1)) fZV eg]at hD;have jXy:=fZw p (GD jZq);obtain⟨xp,jXg⟩:=aE (xs:=p) (i:=gk) (by omega);obtain⟨xr,bZu⟩:=aE (xs:=r) (i:=gk) (by omega);rw[lD jXg eKV.eq,lD bZu eKV.eq]at hD;have fXU:=eKV.eq;have HR:tn=g.length:=XL.sl.len;have An:0<g.length:=by rw[eg,nX,mQu];omega
    have aKJ:g.length<=i:=RI g (by rw[fJo];simp);have RI:∀x∈fZV,x.length<=i:=fun x hx=>RI x (by rw[fJo];exact mXK _ hx);obtain⟨z1,jV⟩:∃z1,A .bB .sub .i64 z 1=z1:=⟨_,rfl⟩;have bZl:aS z1 (i-1):=by rw[<-jV];exact ff (A:=A) hz (⟨rfl⟩:aS 1 1) (by omega) (by omega)
    have MF:=bZl.eq;have zU:rb.isSome=true/\0<=z1/\z1<(rn:Int):=⟨hJd.aT (by omega),bZl.ix (by omega)⟩;have fJk:A .not (A .and (A .aI .eql xp.k xr.k) (A .and (A .aI .eql xp.n xr.n) (A .and (A .iQ .eql xp.s xr.s) true)))= !re xp xr:=by rw[pA A xp xr,hA.not]
    clear st fZw;rw[nM Jf];cbv;rw[jV];refine⟨zU,?_⟩;cbv;refine bZ hJd jZq MF (fun ab an ac qp=>?_);have RM:=qp.len;have RR:ab.isSome=true/\0<=y.group/\y.group<(an:Int):=⟨qp.aT (by omega),eKV.ix (by omega)⟩;have cZd:xb.isSome=true/\0<=y.group/\y.group<(xn:Int):=⟨uG.aT (by omega),eKV.ix (by omega)⟩;cbv;refine aB gKq rfl rfl ?_;cbv;refine⟨RR,?_⟩;cbv;refine qp.load jXg fXU (fun cs ay=>?_);replace ay:cs=[.int .i64 xp.k,.int .i64 xp.n,.string xp.s]:=ay;subst ay;cbv;refine aB gKq rfl rfl ?_;cbv;refine⟨cZd,?_⟩;cbv;refine uG.load bZu fXU (fun cs ay=>?_);replace ay:cs=[.int .i64 xr.k,.int .i64 xr.n,.string xr.s]:=ay;subst ay;cbv;rw[fJk];by_cases cKz:re xp xr=true
    ·rw[if_pos cKz]at hD;rw[cKz];subst jJe;obtain⟨hf,cQJ⟩:∃hf,hf=Wo:=⟨_,rfl⟩;subst cQJ;have TN:no=hf.length+1:=by rw[gK,nX,mQu]
     have kKK:hf.length+1<=i:=by omega
     obtain⟨zn,nP⟩:∃zn,A .nat no=zn:=⟨_,rfl⟩;have eKL:aS zn no:=by rw[<-nP];exact aS.nat no
     obtain⟨zk,Ba⟩:∃zk,A .bB .sub .i64 zn 1=zk:=⟨_,rfl⟩;have aZN:aS zk (no-1):=by rw[<-Ba];exact ff (A:=A) eKL (⟨rfl⟩:aS 1 1) (by omega) (by omega)
     have uO:=aZN.eq;have dQl:bo.isSome=true/\0<=zk/\zk<(no:Int):=⟨qo.sl.aT (by omega),aZN.ix (by omega)⟩;have RH:(hf++[(tb,tn,tc)])[no-1]? =some (tb,tn,tc):=by rw[TN,mXn,mXM (mQt _),mXA];rfl
     have cKu:∀cs,GY.R h4 cs (tb,tn,tc)->cs=[.slice tb tn tc]:=fun cs h=>h;cbv;rw[nP,Ba];refine⟨dQl,?_⟩;cbv;refine qo.sl.load RH uO (fun cs ay=>?_);replace ay:cs=[.slice tb tn tc]:=cKu cs ay;subst ay;clear cKu;cbv;intro aQg h8 f8 e8;have l8:Le h4 h8:=by rw[e8];exact Le.set f8
     have v8:Sl 59 aD h8 (.slice (some ⟨aQg,0,none⟩) 1 1) [r]:=bA (s:=aD) ((congrFun e8 aQg).trans ae) ⟨_,rfl,uG.mono (((bR.refl _ _)).trans (l8.t _))⟩;clear e8;cbv;refine Uj (h0:=h2) ((XL).mono (l8.t _)) (fun e=>absurd e (by omega)) ((cXG).mono (ru (l8.t _) tb)) v8 (by decide) rfl (by decide) (by omega) (rK.trans l8) (fun m9 b9 c9 h9 dQa l9 t9 dQr QF=>?_);have o9:=(qo.mono (l8.t _)).mono (t9 [34] (by decide));obtain⟨cJF,yV,Qo,bZG,OU⟩:=o9.own (by omega);have aKS:bo=some ⟨cJF,0,none⟩:=yV;subst aKS;cbv;refine⟨dQl,?_⟩;cbv;refine OU.setAt (by decide) (i:=no-1) (by omega) uO rfl (x:=(b9,m9,c9)) rfl (fun fL yS t10 xJ=>?_);have fU:Le h2 fL:=fun b o hb=>yS _ _ (l9 _ _ hb) (fun hm=>by rw[mQA.1 hm,Qo]at hb;cases hb);have bQC:(hf++[(tb,tn,tc)]).set (no-1) (b9,m9,c9)=hf++[(b9,m9,c9)]:=by rw[TN,mXn];simp
     rw[bQC]at xJ;have QY:=xJ.buf (n:=no) Qo (by rw[TN,nX,mQu]);have af:=jd fL (some ⟨cJF,0,none⟩) no co (hf++[(b9,m9,c9)]) (fZV++[g++[r]]) fU QY (by rw[nX,mQu];omega) (fun x hx=>by
      rcases mQv.1 hx with hx|hx
      ·have:=RI x hx;omega
      ·rw[mQA]at hx;rw[hx,nX,mQu];have:=aKJ;omega) ⟨fun e=>absurd e (by omega),fun _=>⟨hf,fZV,(b9,m9,c9),g++[r],g,r,rfl,rfl,rfl,by rw[mXn];exact Jx,QF.mono (ru (t10 _ (by decide)) b9),dQr.mono (t10 _ (by decide))⟩⟩ hD
     clear jd OU xJ QY dQr QF;cbv;rw[dL];refine⟨mm,(_,_),sh,⟨?_,?_,?_⟩,af⟩
     ·cbv
     ·cbv
     ·cbv
    ·rw[if_neg cKz]at hD;have fXX:re xp xr=false:=by simpa using cKz
     rw[fXX];obtain⟨hf,cQJ⟩:∃hf,hf=hd:=⟨_,rfl⟩;obtain⟨gf,YU⟩:∃gf,gf=gs:=⟨_,rfl⟩;have bQw:uf 59 aD h4 hf gf:=by rw[cQJ,YU];exact fJj
     have RI:∀x∈gf,x.length<=i:=fun x hx=>by rw[YU]at hx;exact iXs x hx
     have aKJ:([]:List Row).length<=i:=mQr _;rw[<-cQJ]at qo gK TN;replace hD:cG y.group (S.drop (i+1)) (gf++[[]++[r]])=D:=by rw[YU,fJo];exact hD
     clear cQJ YU jJe fJo cXG XL fJj gKq;cbv;intro Ad h5 f5 e5;have l5:Le h4 h5:=by rw[e5];exact Le.set f5
     have v5:Sl 34 GY h5 (.slice (some ⟨Ad,0,none⟩) 1 1) [(none,0,0)]:=bA (s:=GY) ((congrFun e5 Ad).trans ae) rfl;clear e5;cbv;refine(qo.mono (l5.t _)).append v5 (by decide) rfl (by decide) (by omega) (rK.trans l5) (fun m6 b6 c6 h6 jJd l6 t6 k6 o6=>?_);have t46:bR [59,61] h4 h6:=(l5.t _).trans (t6 _ (by decide));have eQu:=bQw.mono t46;have TN:m6=hf.length+1:=by omega
     clear v5 t6 k6 qo bQw;obtain⟨zn,nP⟩:∃zn,A .nat m6=zn:=⟨_,rfl⟩;have eKL:aS zn m6:=by rw[<-nP];exact aS.nat m6
     obtain⟨zk,Ba⟩:∃zk,A .bB .sub .i64 zn 1=zk:=⟨_,rfl⟩;have aZN:aS zk (m6-1):=by rw[<-Ba];exact ff (A:=A) eKL (⟨rfl⟩:aS 1 1) (by omega) (by omega)
     have uO:=aZN.eq;have dQl:b6.isSome=true/\0<=zk/\zk<(m6:Int):=⟨o6.sl.aT (by omega),aZN.ix (by omega)⟩;have RH:(hf++[(none,0,0)])[m6-1]? =some (none,0,0):=by rw[TN,mXn,mXM (mQt _),mXA];rfl
     have cKu:∀cs,GY.R h6 cs (none,0,0)->cs=[.slice none 0 0]:=fun cs h=>h;cbv;rw[nP,Ba];refine⟨dQl,?_⟩;cbv;refine o6.sl.load RH uO (fun cs ay=>?_);replace ay:cs=[.slice none 0 0]:=cKu cs ay;subst ay;clear cKu;cbv;intro aQg h8 f8 e8;have l8:Le h6 h8:=by rw[e8];exact Le.set f8
     have v8:Sl 59 aD h8 (.slice (some ⟨aQg,0,none⟩) 1 1) [r]:=bA (s:=aD) ((congrFun e8 aQg).trans ae) ⟨_,rfl,uG.mono (((t46.sub (by decide))).trans (l8.t _))⟩;clear e8;cbv;refine Uj (h0:=h2) (((cF.nil:cF 59 aD h2 h6 (.slice none 0 0) ([]:List Row))).mono (l8.t _)) (fun _=>rfl) (((show uf 59 aD (yi h6 none) hf gf from eQu)).mono (ru (l8.t _) none)) v8 (by decide) rfl (by decide) (by omega) (l6.trans l8) (fun m9 b9 c9 h9 dQa l9 t9 dQr QF=>?_);have o9:=(o6.mono (l8.t _)).mono (t9 [34] (by decide));obtain⟨cJF,yV,Qo,bZG,OU⟩:=o9.own (by omega);have aKS:b6=some ⟨cJF,0,none⟩:=yV;subst aKS;cbv;refine⟨dQl,?_⟩;cbv;refine OU.setAt (by decide) (i:=m6-1) (by omega) uO rfl (x:=(b9,m9,c9)) rfl (fun fL yS t10 xJ=>?_);have fU:Le h2 fL:=fun b o hb=>yS _ _ (l9 _ _ hb) (fun hm=>by rw[mQA.1 hm,Qo]at hb;cases hb);have bQC:(hf++[(none,0,0)]).set (m6-1) (b9,m9,c9)=hf++[(b9,m9,c9)]:=by rw[TN,mXn];simp
     rw[bQC]at xJ;have QY:=xJ.buf (n:=m6) Qo (by rw[TN,nX,mQu]);have af:=jd fL (some ⟨cJF,0,none⟩) m6 c6 (hf++[(b9,m9,c9)]) (gf++[([]:List Row)++[r]]) fU QY (by rw[nX,mQu];omega) (fun x hx=>by
      rcases mQv.1 hx with hx|hx
      ·have:=RI x hx;omega
      ·rw[mQA]at hx;rw[hx,nX,mQu];have:=aKJ;omega) ⟨fun e=>absurd e (by omega),fun _=>⟨hf,gf,(b9,m9,c9),([]:List Row)++[r],([]:List Row),r,rfl,rfl,rfl,by rw[mXn];exact Jx,QF.mono (ru (t10 _ (by decide)) b9),dQr.mono (t10 _ (by decide))⟩⟩ hD
     clear jd OU xJ QY dQr QF;cbv;rw[dL];refine⟨mm,(_,_),sh,⟨?_,?_,?_⟩,af⟩
     ·cbv
     ·cbv
     ·cbv
  ·have aQp:i=rn:=by omega
   rw[mQR (by omega)]at hD;replace hD:gs=D:=hD;subst hD;have af:=sJ h4 bo no co rK (st.fin.sl qo.sl);clear aY hJ;rw[nM aP];cbv;exact af
theorem UD(cols:List cK)(gr:Int)(g:List Row)(i:dO)(is:List dO)(r:Row):ki cols gr g (i::is) r=match yA cols gr i g with
 | (v,e)=>if e≠0 then([],e)else ki cols gr g is (r++[v]):=rfl
theorem Fb{k:Int}:∀(rs:List Row) (out:List (List Row)),(∀g∈out,g≠[])->(∀g∈cG k rs out,g≠[])/\∀g∈cG k rs out,∀r∈g,r∈rs\/∃g'∈out,r∈g'
 | [],out,h=>⟨h,fun g hg r hr=>.inr ⟨g,hg,hr⟩⟩
 |r::rs,out,h=>by
  have key:∀zN,(∀g∈zN,g≠[])->(∀g∈zN,∀x∈g,x=r\/∃g'∈out,x∈g')->(∀g∈cG k rs zN,g≠[])/\∀g∈cG k rs zN,∀x∈g,x∈r::rs\/∃g'∈out,x∈g':=fun zN h1 h2=>by
   obtain⟨i1,i2⟩:=Fb rs zN h1;refine⟨i1,fun g hg x hx=>?_⟩;rcases i2 g hg x hx with h3| ⟨g',h3,h4⟩
   ·exact .inl (mQQ _ h3)
   ·rcases h2 g' h3 x h4 with h5|h5
    ·exact .inl (by rw[h5];exact mQE)
    ·exact .inr h5
  have snoc:(∀g∈out++[[r]],g≠[])/\∀g∈out++[[r]],∀x∈g,x=r\/∃g'∈out,x∈g':=by
   refine⟨fun g hg=>?_,fun g hg x hx=>?_⟩
   ·rcases mQv.1 hg with hg|hg
    ·exact h g hg
    ·rw[mQA]at hg;rw[hg];simp
   ·rcases mQv.1 hg with hg|hg
    ·exact .inr ⟨g,hg,hx⟩
    ·rw[mQA]at hg;rw[hg,mQA]at hx;exact .inl hx
  unfold cG;split
  ·exact key _ (fun g hg=>by rw[mQA]at hg;rw[hg];simp) (fun g hg x hx=>by
    rw[mQA]at hg;rw[hg,mQA]at hx;exact .inl hx)
  ·rename_i g0 YV;have RF:=mZb YV;split
   ·exact key _ snoc.1 snoc.2
   ·split
    ·refine key _ (fun g hg=>?_) (fun g hg x hx=>?_)
     ·rcases mQv.1 hg with hg|hg
      ·exact h g ((mJw _).subset hg)
      ·rw[mQA]at hg;rw[hg];simp
     ·rcases mQv.1 hg with hg|hg
      ·exact .inr ⟨g,(mJw _).subset hg,hx⟩
      ·rw[mQA]at hg;rw[hg]at hx;rcases mQv.1 hx with hx|hx
       ·exact .inr ⟨g0,RF,hx⟩
       ·rw[mQA]at hx;exact .inl hx
    ·exact key _ snoc.1 snoc.2
theorem Qt{k:Int}{de:Bool}{rows:List Row}:(0<=k->∀g∈gV k de rows,g≠[])/\∀g∈gV k de rows,∀r∈g,r∈rows:=by
 unfold gV;split
 ·rename_i hk;refine⟨fun h=>absurd h (by omega),fun g hg r hr=>?_⟩;rw[mQA]at hg;rw[hg]at hr;exact hr
 ·obtain⟨i1,i2⟩:=Fb (k:=k) (gL (wP k de) rows) [] (fun g hg=>by cases hg);refine⟨fun _=>i1,fun g hg r hr=>?_⟩;rcases i2 g hg r hr with h| ⟨g',h,-⟩
  ·exact oM h
  ·cases h
theorem Fa{k:Int}:∀(rs:List Row) (out:List (List Row)),(cG k rs out).length<=out.length+rs.length
 | [],out=>mQt _
 |r::rs,out=>by
  have key:∀zN,zN.length<=out.length+1->(cG k rs zN).length<=out.length+(r::rs).length:=fun zN h=>by
   have:=Fa (k:=k) rs zN;rw[mQx];omega
  have snoc:(out++[[r]]).length<=out.length+1:=by rw[nX];exact mQt _
  unfold cG;split
  ·exact key _ (by show 1<=_;omega)
  ·rename_i g0 YV;split
   ·exact key _ snoc
   ·split
    ·refine key _ ?_;rw[nX,List.length_dropLast,mQu];omega
    ·exact key _ snoc
theorem Qs{k:Int}{de:Bool}{rows:List Row}:(gV k de rows).length<=rows.length+1:=by
 unfold gV;split
 ·show 1<=_;omega
 ·have h:=Fa (k:=k) (gL (wP k de) rows) [];have h2:=(gh (wP k de) rows).length_eq;rw[h2]at h;replace h:(cG k (gL (wP k de) rows) []).length<=0+rows.length:=h;omega
theorem Mr{α:Type}{l:List α}{n:Int}:(bL l n).length<=l.length:=by
 unfold bL;split
 ·exact mQt _
 ·rw[mQw];exact mZC _ _
theorem vE{α:Type}{l:List α}{n:Int}{x:α}(h:x∈bL l n):x∈l:=by
 unfold bL at h;split at h
 ·exact h
 ·exact mXN h
theorem QC{α:Type}{f:α->Int}:∀ {l:List α},ey f l=0->∀x∈l,f x=0
 | [],_,x,hx=>by cases hx
 |y::l,h,x,hx=>by
  unfold ey at h;by_cases h0:f y≠0
  ·rw[if_pos h0]at h;exact absurd h h0
  ·rw[if_neg h0]at h;rcases mQs.1 hx with rfl|hx
   ·exact mQW.1 h0
   ·exact QC h x hx
theorem Zk{x:aJ}{cols:List cK}{y:Qy}(h:dp x cols=(y,0))(hg:y.kK=true):∀i∈x.items,i.fn=0->0<=y.group:=by
 unfold dp at h;split at h
 ·rename_i h1;rw[Prod.mk.injEq]at h;exact absurd h.2 h1
 ·split at h
  ·rename_i h1;rw[Prod.mk.injEq]at h;exact absurd h.2 h1
  ·split at h
   ·rename_i h1;rw[Prod.mk.injEq]at h;exact absurd h.2 h1
   ·generalize bN x.group cols=G at *;obtain⟨g,e1⟩:=G;generalize bN x.order cols=O at *;obtain⟨o,e2⟩:=O;simp only[]at h;split at h
    ·rename_i h1;rw[Prod.mk.injEq]at h;exact absurd h.2 h1
    ·split at h
     ·rename_i h2;rw[Prod.mk.injEq]at h;exact absurd h.2 h2
     ·split at h
      ·rw[Prod.mk.injEq]at h;rw[<-h.1]at hg;cases hg
      ·split at h
       ·rw[Prod.mk.injEq]at h;exact absurd h.2 (by decide)
       ·rw[Prod.mk.injEq]at h;intro i hi h0;have:=QC h.2 i hi;rw[<-h.1];show 0<=g;unfold cM at this;rw[if_neg (fun hh=>hh h0)]at this;by_cases YV:g<0
        ·rw[if_pos YV]at this;exact absurd this (by decide)
        ·omega
theorem cXs{h0 h:ad}{qp:Nat}{x:aJ}{cols:List cK}{y:Qy}(q:oC h qp x cols y){fI:List Row}(mF:fI.length<=2^20)(hw:∀r∈fI,y.group<r.length){rb:Option Addr}{rn rc:Nat}(l0:Le h0 h)(qr:cF 59 aD h0 h (.slice rb rn rc) fI)
 {k:Value->ad->Prop} (hk:∀h' b n c,Le h0 h'->(∀tys,59∉tys->bR tys h h')->(∀b o,h b=some o->(∀c fr,o≠.cells c 59 fr)->h' b=some o)->Sl 34 (mW 59 aD) h' (.slice b n c) (gV y.group x.desc fI)->k (.slice b n c) h'):
 Ct 197 [.pointer (some ⟨qp,0,none⟩),.slice rb rn rc] h k:=by
 by_cases hg:0<=y.group
 ·exact bQi q hg mF hw l0 qr hk
 ·refine Wx q (by omega) qr.sl (fun h' b l s=>hk h' _ _ _ (l0.trans l) (fun tys _=>l.t tys) (fun b o hb _=>l _ _ hb) ?_);have:gV y.group x.desc fI=[fI]:=by unfold gV;rw[if_pos (by omega)]
  rw[this];exact s
theorem cXw{h0 h:ad}{qp:Nat}{x:aJ}{cols:List cK}{y:Qy}(q:oC h qp x cols y)(hx:dr x)(hc:∀c∈cols,Nm c.name){fI:List Row}(rZ:∀r∈fI,fS r)(cQA:fI.length<=2^20)(gJW:dp x cols=(y,0))(FK:y.kK=true)(hw:∀r∈fI,cols.length<=r.length){rb:Option Addr}{rn rc:Nat}(l0:Le h0 h)(qr:cF 59 aD h0 h (.slice rb rn rc) fI)
 {k:Value->ad->Prop} (hk:∀h' b n c,Le h0 h'->Sl 59 aD h' (.slice b n c) (dw x cols y.group fI).1->k (.tuple #[.slice b n c,.int .i64 (dw x cols y.group fI).2]) h'):
 Ct 103 [.pointer (some ⟨qp,0,none⟩),.slice rb rn rc] h k:=by
 obtain⟨A,hA⟩:=Ar.ex;have hP:dw x cols y.group fI=gJ x cols y.group (bL (gV y.group x.desc fI) x.eG) []:=rfl;rw[hP]at hk;obtain⟨GS,fZB⟩:∃GS,gV y.group x.desc fI=GS:=⟨_,rfl⟩;obtain⟨D,hD⟩:∃D,gJ x cols y.group (bL (gV y.group x.desc fI) x.eG) []=D:=⟨_,rfl⟩;rw[hD]at hk;rw[fZB]at hD;obtain⟨-,eZo⟩:=Lb gJW;have dJH:∀r∈fI,y.group<r.length:=fun r h=>by have:=hw r h;omega
 have bZN:=Zk gJW FK;obtain⟨iZR,gKx⟩:=Qt (k:=y.group) (de:=x.desc) (rows:=fI);rw[fZB]at iZR gKx;have nR:∀g∈bL GS x.eG,∀i∈x.items,bZf cols y.group i g:=fun g hg i hi=>⟨fun h0=>⟨iZR (bZN i hi h0) g (vE hg),bZN i hi h0⟩,fun r hr=>dJH r (gKx g (vE hg) r hr),fun r hr=>rZ r (gKx g (vE hg) r hr)⟩;have TQ:=hx.items;refine q.elim (fun b5 n5 c5 b6 n6 c6 b7 n7 c7 b8 n8 c8 b9 n9 c9 gW jD gT cb cn cc g q1 q2 q3 q4 q5 q6 q7=>?_);clear q1 q2 q3 q4 q5 q6 q7;refine ah A (ax cJc.aK cJc.bF) Tryz.func103 rfl (by kernel_rfl) ?_;cbv;intro qb h1 f1 e1;have l1:Le h h1:=by rw[e1];exact Le.set f1
 have gb:h1 qb=some (.cells #[.pointer (some ⟨qp,0,none⟩)] 186 (0,0)):=by rw[e1];exact ae
 have g1:=l1 _ _ g;have eXW:=q.mono l1;clear e1;cbv;repeat (first| ((try rw[ai A]);(try rw[ai A]);(first|refine aB gb rfl rfl ?_|refine aB g1 rfl rfl ?_);cbv) | (refine⟨⟨_,rfl,rfl⟩,?_⟩;cbv))
 refine cXs eXW cQA dJH (l0.trans l1) (qr.mono (l1.t _)) (fun h2 lKy lKw lKx jZ t2 f2 qg=>?_);rw[fZB]at qg;have yY:=f2 _ _ gb (fun c fr e=>by cases e);have g2:=f2 _ _ g1 (fun c fr e=>by cases e);have cJs:=eXW.lt (g2.trans g1.symm) (t2 _ (by decide));clear t2 f2 eXW g1 gb g q qr l0 l1 f1 bZN iZR gKx dJH hw rZ;cbv;repeat (first| ((try rw[ai A]);(try rw[ai A]);(first|refine aB yY rfl rfl ?_|refine aB g2 rfl rfl ?_);cbv) | (refine⟨⟨_,rfl,rfl⟩,?_⟩;cbv))
 refine Pq qg x.eG (fun lb ln lc qm=>?_);obtain⟨M,hM⟩:∃M,bL GS x.eG=M:=⟨_,rfl⟩;have iZi:M.length<=2^21:=by have h1:=Mr (l:=GS) (n:=x.eG);have h2:=Qs (k:=y.group) (de:=x.desc) (rows:=fI);rw[fZB]at h2;rw[hM]at h1;omega
 rw[hM]at qm hD nR;have tG:=qm.len;have dKn:=qm.bound.1;refine cJs.elim (fun b5 n5 c5 b6 n6 c6 b7 n7 c7 b8 n8 c8 b9 n9 c9 gW jD gT cb cn cc g2 q1 q2 q3 q4 q5 q6 q7=>?_);clear q1 q2 q3 q4 q6 q7;have FG:=q5.len;have ke:=hx.aJU;obtain⟨I2,aY⟩:∃I:Nat->(Int×Option Addr×Nat×Nat)->ad->Prop,∀m g h',I m g h'=∃i out,aS g.1 i/\i<=ln/\m=ln-i/\Le h2 h'/\out.length=i/\cF 59 aD h2 h' (.slice g.2.1 g.2.2.1 g.2.2.2) out/\gJ x cols y.group (M.drop i) out=D:=⟨_,fun _ _ _=>rfl⟩;have hJ:I2 ln (0,none,0,0) h2:=by rw[aY];exact⟨0,[],⟨rfl⟩,mQr _,rfl,Le.refl _,rfl,cF.nil,hD⟩
 clear hM hD qg fZB;cbv;repeat (refine⟨⟨_,rfl,rfl⟩,?_⟩;cbv)
 refine aX.go (G:=Int×Option Addr×Nat×Nat) (fun g=>[(21,.v (.int .i64 g.1)),(6,.v (.slice g.2.1 g.2.2.1 g.2.2.2))]) (fun _=>[]) (fun m g h'=>I2 m g h') ln (0,none,0,0) ⟨?_,?_,?_⟩ hJ ?_
 ·cbv
 ·cbv
 ·cbv
 ·intro m2 gg h4 hI;rw[aY]at hI;cbv;obtain⟨j,out,hw,hj,sH,rK,bZG,qo,hD⟩:=hI;obtain⟨w,bo,no,co⟩:=gg;replace hw:aS w j:=hw;replace qo:cF 59 aD h2 h4 (.slice bo no co) out:=qo;have f2:A .aI .lss w (A .nat ln)=decide (j<ln):=hw.iJ (aS.nat ln);have aZm:=qm.mono (rK.t _);have gK:=qo.sl.len;cbv;rw[f2];by_cases KM:j<ln
  ·obtain⟨r,Jx⟩:=aE (xs:=M) (i:=j) (by omega);have iQH:=nR r (GD Jx);have jo:0<=w/\w<(ln:Int):=hw.ix KM;have PF:=hw.eq;have VZ:=hw.succ (A:=A) (by omega);have sf:ln-(j+1)<m2:=by omega
   have Bc:M.drop j=r::M.drop (j+1):=by obtain⟨h1,h2⟩:=HH.1 Jx;rw[mQy h1,h2]
   obtain⟨DD,uU⟩:∃DD,ki cols y.group r x.items []=DD:=⟨_,rfl⟩;rw[Bc]at hD;replace hD:(match ki cols y.group r x.items []with
    | (r,e)=>if e≠0 then([],e)else gJ x cols y.group (M.drop (j+1)) (out++[r]))=D:=hD
   rw[uU]at hD;obtain⟨RV,RE⟩:=DD;replace hD:(if RE≠0 then([],RE)else gJ x cols y.group (M.drop (j+1)) (out++[RV]))=D:=hD;have jd:∀h5 b5 m5 c5,Le h2 h5->m5=no+1->cF 59 aD h2 h5 (.slice b5 m5 c5) (out++[RV])->RE=0->I2 (ln-(j+1)) (A .bB .add .i64 w 1,b5,m5,c5) h5:=fun h5 b5 m5 c5 l5 cXJ o5 h0=>by
    rw[aY];exact⟨j+1,out++[RV],VZ,KM,rfl,l5,by rw[nX,mQu,bZG],o5,by rw[if_neg (fun g=>g h0)]at hD;exact hD⟩
   have Tp:=aZm.aT (by omega:0<ln);have g4:=rK _ _ g2;have RQ:=rK _ _ yY;have hZU:=cJs.mono rK;clear aY hJ VZ;rw[kS KM];cbv;refine⟨⟨Tp,jo⟩,?_⟩;cbv;refine bZ aZm Jx PF (fun br nr cr uG=>?_);cbv;intro gx fZG f5 e5;have hJV:Le h4 fZG:=by rw[e5];exact Le.set f5
   have eQc:fZG gx=some (.cells #[.slice none 0 0] 34 (0,0)):=by rw[e5];exact ae
   clear e5;cbv;refine ja eQc (by simp) (fun h5 e5=>?_);have l5:Le h4 h5:=fun b o hb=>by rw[e5,aO (fun e=>by rw[e,f5]at hb;cases hb)];exact hJV _ _ hb
   have iZM:h5 gx=some (.cells #[.slice br nr cr] 34 (0,0)):=by rw[e5];exact ae
   clear e5;cbv;intro ox h6 f6 e6;have l6:Le h5 h6:=by rw[e6];exact Le.set f6
   have iZI:h6 ox=some (.cells #[.slice none 0 0] 59 (0,0)):=by rw[e6];exact ae
   have dJa:Le h5 (Sx.eF h6 ox):=fun b o hb=>by
    rw[Sx.cY (fun e=>by rw[e,f6]at hb;cases hb)];exact l6 _ _ hb
   clear e6;obtain⟨B,hB⟩:∃B,B=Sx.eF h6 ox:=⟨_,rfl⟩;rw[<-hB]at dJa;have iZt:Le B h6:=by rw[hB];exact Sx.fY h6 ox
   have cXd:B ox=none:=by rw[hB];exact Sx.dP h6 ox
   have bZq:Le h4 B:=l5.trans dJa;obtain⟨J,dY⟩:∃J:Nat->ad->Prop,∀i h',J i h'=∃l,Nx B h' ox l/\l.length=i/\ki cols y.group r (x.items.drop i) l=(RV,RE):=⟨_,fun _ _=>rfl⟩;have MX:J 0 h6:=by rw[dY];exact⟨[],⟨⟨none,0,0,iZI,cF.nil⟩,iZt,cXd⟩,rfl,uU⟩
   have g6:=l5.trans l6 _ _ g4;have eQh:=l5.trans l6 _ _ RQ;have hJh:=q5.mono (rK.t _);have hZT:=hZU.mono bZq;have hZV:=uG.mono (bZq.t _);clear hB;cbv;repeat (first| ((try rw[ai A]);(try rw[ai A]);(first|refine aB eQh rfl rfl ?_|refine aB g6 rfl rfl ?_);cbv) | (refine⟨⟨_,rfl,rfl⟩,?_⟩;cbv))
   refine Fe FG J MX (fun i h' hI=>?_) (fun i it h' b1 n1 c1 hi JA hI hv=>?_) (fun h' hI=>?_)
   ·rw[dY]at hI;obtain⟨l,eXX,-⟩:=hI;exact hJh.mono ((bZq.trans eXX.le).t _)
   ·rw[dY]at hI;obtain⟨l,eXX,tW,Qq⟩:=hI;have MQ:=GD JA;have kKL:x.items.drop i=it::x.items.drop (i+1):=by obtain⟨h1,h2⟩:=HH.1 JA;rw[mQy h1,h2]
    rw[kKL,UD]at Qq;refine bQm eXX (by omega) hZT hc (TQ it MQ) (iQH it MQ) (bZq _ _ RQ) (dJa _ _ iZM) hZV hv (fun h7 v e q7 Je=>⟨e,rfl,fun h0=>?_,fun h0=>?_⟩)
    ·rw[<-Je]at Qq;replace Qq:(if e≠0 then([],e)else ki cols y.group r (x.items.drop (i+1)) (l++[v]))=(RV,RE):=Qq;rw[if_neg (fun g=>g h0)]at Qq;rw[dY];exact⟨l++[v],q7,by rw[nX,mQu,tW],Qq⟩
    ·rw[<-Je]at Qq;replace Qq:(if e≠0 then([],e)else ki cols y.group r (x.items.drop (i+1)) (l++[v]))=(RV,RE):=Qq;rw[if_pos h0]at Qq;have gKd:[]=RV:=(Prod.mk.inj Qq).1;have lQh:e=RE:=(Prod.mk.inj Qq).2;subst gKd lQh;rw[if_pos h0]at hD;subst hD;have fe:A .aI .neq e 0=true:=by rw[aC A];exact kS h0
     have af:=hk h7 none 0 0 (jZ.trans (rK.trans (bZq.trans q7.le))) Sl.nil;clear hk jd dY MX;cbv;rw[fe];cbv;exact af
   ·rw[dY]at hI;obtain⟨l,eXX,tW,Qq⟩:=hI;rw[mQR (by omega)]at Qq;replace Qq:(l,(0:Int))=(RV,RE):=Qq;cases Qq;obtain⟨b7,n7,c7,g7,gJe⟩:=eXX.out;have l7:Le h4 h':=bZq.trans eXX.le;have fe:A .aI .neq 0 0=false:=by rw[aC A];rfl
    clear dY MX;cbv;rw[fe];cbv;repeat (first| ((try rw[ai A]);(try rw[ai A]);refine aB g7 rfl rfl ?_;cbv) | (refine⟨⟨_,rfl,rfl⟩,?_⟩;cbv))
    refine(mU gJe.sl).mono (fun v8 h8 hR=>?_);obtain⟨l8,b8,c8,iQh,hZM⟩:=hR;subst iQh;cbv;intro eKY h9 f9 e9;have l9:Le h8 h9:=by rw[e9];exact Le.set f9
    have v9:Sl 59 aD h9 (.slice (some ⟨eKY,0,none⟩) 1 1) [RV]:=bA (s:=aD) ((congrFun e9 eKY).trans ae) ⟨_,rfl,hZM.sl.mono (l9.t _)⟩;clear e9;cbv;refine(qo.mono ((l7.trans (l8.trans l9)).t _)).append v9 (by decide) rfl (by decide) (by omega) (rK.trans (l7.trans (l8.trans l9))) (fun Gh gW gT fL wH fU t10 yS jN=>?_);clear t10 yS v9;have af:=jd fL gW Gh gT fU wH jN rfl;clear jd hk;cbv;refine⟨ln-(j+1),(A .bB .add .i64 w 1,gW,Gh,gT),sf,⟨?_,?_,?_⟩,af⟩
    ·cbv
    ·cbv
    ·cbv
  ·have KP:j=ln:=by omega
   rw[mQR (by omega)]at hD;replace hD:(out,0)=D:=hD;subst hD;clear aY hJ;rw[nM KM];cbv;refine(Gp qo.sl).mono (fun v5 h5 hR=>?_);obtain⟨l5,b5,c5,aKh,Sy⟩:=hR;subst aKh;have af:=hk h5 b5 no c5 (jZ.trans (rK.trans l5)) Sy.sl;clear hk;cbv;exact af
theorem Er{x:aJ}{y:Qy}(hg:y.kK=true):Rp x y:=fun{h0 h qp cols} q hx hc {rows} hr mF hf hw {rb rn rc} l0 qr {k} hk=>cXw q hx hc hr mF hf hg hw l0 qr hk
end Go.S
