import Derived.Test.YtekoaiendgjkdaaGreatGB
import Derived.Test.YtekoaiendgjkdaaGreatEC
import Derived.Test.YtekoaiendgjkdaaGreatRd
set_option linter.unusedVariables false
set_option linter.unusedSimpArgs false
set_option linter.unusedSectionVars false
set_option maxRecDepth 100000
set_option maxHeartbeats 8000000
namespace Go.S
open Go.Sx Go.Proofs
theorem _root_.Go.Sx.Rows.map{α β:Type}{s1:Sh α}{s2:Sh β}(hn:s1.n=s2.n)(f:α->β)(hR:∀h cs x,s1.R h cs x->s2.R h cs (f x)){h:ad}{c:List Value}{off:Nat}{xs:List α}(r:Sx.Rows s1 h c off xs):Sx.Rows s2 h c off (xs.map f):=by
 refine⟨by rw[mQz,<-hn];exact r.1,fun i x hx=>?_⟩;rw[mQU]at hx;cases hy:xs[i]? with
 |none=>rw[hy]at hx;cases hx
 |some y=>rw[hy]at hx;simp at hx;subst hx;rw[<-hn];exact hR _ _ _ (r.2 i y hy)
theorem _root_.Go.Sx.fX.map{α β:Type}{s1:Sh α}{s2:Sh β}(hn:s1.n=s2.n)(f:α->β)(hR:∀h cs x,s1.R h cs x->s2.R h cs (f x)){e:Nat}{h:ad}{nb cap:Nat}{xs:List α}(o:fX e s1 h nb cap xs):fX e s2 h nb cap (xs.map f):=by obtain⟨c,h1,h2,h3⟩:=o.out;exact⟨⟨c,h1,Sx.Rows.map hn f hR h2,by rw[<-hn];exact h3⟩,by rw[mQz];exact o.le,by rw[mQz];exact o.bd⟩
def lk:Sh (fJ×Option Nat)where
 n:=3
 R h cs t:=∃b1 n1 b2 n2 c2,cs=[.int .i64 t.1.s,.slice b1 n1 n1,.slice b2 n2 c2]/\Sl 148 dI h (.slice b1 n1 n1) t.1.log/\
  ((t.2=none/\n2=0/\c2=0/\t.1.marks=[])\/∃nb,t.2=some nb/\b2=some ⟨nb,0,none⟩/\n2=t.1.marks.length/\fX 161 dN h nb c2 t.1.marks)
 len:=by rintro h cs x ⟨_,_,_,_,_,rfl,-⟩;rfl
 one:=by rintro h cs x ⟨_,_,_,_,_,rfl,-⟩;rfl
 tys:=[148,61,161]
 mono:=by
  rintro h h' cs x hl ⟨b1,n1,b2,n2,c2,rfl,q1,q2⟩;refine⟨b1,n1,b2,n2,c2,rfl,q1.mono (hl.sub (by decide)),?_⟩;rcases q2 with q2| ⟨nb,e1,e2,e3,o⟩
  ·exact .inl q2
  ·exact .inr ⟨nb,e1,e2,e3,o.mono (hl.sub (by decide))⟩
theorem RT(h:ad)(cs:List Value)(x:fJ×Option Nat)(r:lk.R h cs x):cX.R h cs (x.1,true):=by
 obtain⟨b1,n1,b2,n2,c2,rfl,q1,q2⟩:=r;refine⟨b1,n1,n1,b2,n2,c2,rfl,q1,?_,fun _=>rfl⟩;rcases q2 with ⟨-,e1,e2,e3⟩ | ⟨nb,e1,e2,e3,o⟩
 ·rw[e1,e2];show Sl 161 dN h _ x.1.marks;rw[e3];exact Sl.nil
 ·rw[e2];exact o.sl e3
theorem ZD{xs:List oy}{h:ad}{b:Option Addr}{len cap:Nat}(q:Sl 161 dN h (.slice b len cap) xs){k:Value->ad->Prop}(Qe:∀b' h',len=0->Le h h'->k (.slice b' 0 0) h')
 (vm:∀nb c h',h nb=none->0<len->Le h h'->fX 161 dN h' nb c xs->k (.slice (some ⟨nb,0,none⟩) len c) h'):Ct 208 [.slice b len cap] h k:=by
 obtain⟨A,hA⟩:=Ar.ex;refine ah A (ax ZY.aK ZY.bF) Tryz.func208 rfl (by kernel_rfl) ?_;cbv;refine bh (fun hc=>?_) (fun hc=>?_)
 ·rw[hA.HO]at hc;have hb:b=none:=by cases b<;>simp at hc |-
  subst hb;have hl:len=0:=by
   rcases mXw len with e|e
   ·exact e
   ·have:=q.aT e;cases this
  have af:=Qe none h hl (Le.refl _);cbv;exact af
 ·cbv;intro n0 h1 nf iW;have hle:Le h h1:=by rw[iW];exact Le.set nf
  cbv;refine dz (q.mono (hle.t _)) (by simp[dN]) rfl (by decide) (fun hn=>?_) (fun nb c h2 e1 e2 e3 e4=>?_)
  ·have af:=fun b'=>Qe b' h1 hn hle;cbv;exact af _
  ·have af:=vm nb c h2 (hle.none e1) e2 (hle.trans e3) e4;cbv;exact af
theorem bKw{w:fJ}{g:Bool}{h:ad}{c0 c1 c2:Value}(q:cX.R h [c0,c1,c2] (w,g)){k:Value->ad->Prop}
 (hk:∀h' b1 n1 b2 n2 c2 (m:Option Nat),Le h h'->(∀nb,m=some nb->h nb=none)->lk.R h' [.int .i64 w.s,.slice b1 n1 n1,.slice b2 n2 c2] (w,m)->k (.agg #[.int .i64 w.s,.slice b1 n1 n1,.slice b2 n2 c2]) h'):Ct 115 [.agg #[c0,c1,c2]] h k:=by
 obtain⟨A,hA⟩:=Ar.ex;obtain⟨b1,n1,k1,b2,n2,k2,he,q1,q2,-⟩:=q;cases he;have q1:Sl 148 dI h (.slice b1 n1 k1) w.log:=q1;have q2:Sl 161 dN h (.slice b2 n2 k2) w.marks:=q2;obtain⟨ws,wl,wm⟩:=w;refine ah A (ax cJa.aK cJa.bF) Tryz.func115 rfl (by kernel_rfl) ?_;cbv;refine(Uy q1).mono (fun v h1 hR=>?_);obtain⟨hle,nb,gY,rfl,ho⟩:=hR;cbv;refine ZD (q2.mono (hle.t _)) (fun b' h2 hn eE=>?_) (fun Dz c h2 e1 e2 eE o2=>?_)
 ·have hm:wm=[]:=by have:=q2.len;exact mQT (by simp only at this;omega)
  have af:=hk h2 (some ⟨nb,0,none⟩) n1 b' 0 0 none (hle.trans eE) (fun _ e=>by cases e) ⟨_,_,_,_,_,rfl,(ho.sl q1.len).mono (eE.t _),.inl ⟨rfl,rfl,rfl,hm⟩⟩;cbv;exact af
 ·have af:=hk h2 (some ⟨nb,0,none⟩) n1 (some ⟨Dz,0,none⟩) n2 c (some Dz) (hle.trans eE) (fun _ e=>by cases e;exact hle.none e1) ⟨_,_,_,_,_,rfl,(ho.sl q1.len).mono (eE.t _),.inr ⟨Dz,rfl,rfl,q2.len,o2⟩⟩;cbv;exact af
def UJ(gs:List (Option Nat)):Prop:=∀(i j nb:Nat),gs[i]? =some (some nb)->gs[j]? =some (some nb)->i=j
theorem UJ.push{gs:List (Option Nat)}(d:UJ gs){m:Option Nat}(h:∀(i nb:Nat),gs[i]? =some (some nb)->m≠some nb):UJ (gs++[m]):=fun i j nb h1 h2=>by
 rw[mXX]at h1 h2;split at h1<;>split at h2
 ·exact d i j nb h1 h2
 ·rename_i a b;rw[mZi]at h2;split at h2
  ·cases h2;exact absurd rfl (h i nb h1)
  ·cases h2
 ·rename_i a b;rw[mZi]at h1;split at h1
  ·cases h1;exact absurd rfl (h j nb h2)
  ·cases h1
 ·rw[mZi]at h1 h2;split at h1
  ·split at h2
   ·omega
   ·cases h2
  ·cases h1
theorem bQG{xs:List (fJ×Bool)}{h:ad}{b:Option Addr}{len cap:Nat}(q:Sl 55 cX h (.slice b len cap) xs){k:Value->ad->Prop}
 (hk:∀h' nb (gs:List (Option Nat)),Le h h'->h nb=none->gs.length=len->UJ gs->(∀(i m:Nat),gs[i]? =some (some m)->h m=none)->fX 55 lk h' nb len ((xs.map (·.1)).zip gs)->k (.slice (some ⟨nb,0,none⟩) len len) h'):
 Ct 114 [.slice b len cap,.func (.func 115) #[] #[]] h k:=by
 obtain⟨A,hA⟩:=Ar.ex;have hlen:=q.len;obtain⟨lY,jq⟩:=q.bound;refine ah A (ax cJb.aK cJb.bF) Tryz.func114 rfl (by kernel_rfl) ?_;cbv;refine nJ (s:=lk) rfl (by omega) (by decide) (fun nb h1 gY hle ho=>?_);obtain⟨I,aY⟩:∃I:Nat->Int->ad->Prop,∀n z h',I n z h'=∃(i:Nat) (gs:List (Option Nat)),aS z i/\n=len-i/\i<=len/\Le h h'/\gs.length=i/\UJ gs/\(∀(j m:Nat),gs[j]? =some (some m)->h m=none/\h' m≠none/\m≠nb)/\fX 55 lk h' nb len (((xs.take i).map (·.1)).zip gs):=⟨_,fun _ _ _=>rfl⟩;cbv;refine aX.go (G:=Int) (fun z=>[(13,.v (.int .i64 z))]) (fun _=>[]) (fun n z h'=>I n z h') len 0 ⟨?_,?_,?_⟩ (by rw[aY];exact⟨0,[],⟨rfl⟩,by omega,by omega,hle,rfl,fun _ _ _ h=>by simp at h,fun _ _ h=>by simp at h,ho⟩) ?_
 ·cbv
 ·cbv
 ·cbv
 ·intro n z h' hI;rw[aY]at hI;cbv;obtain⟨i,gs,hz,hn,hi,qV,An,aKK,CE,wR⟩:=hI;refine bh (fun hc=>?_) (fun hc=>?_)
  ·have aP:=hz.lt hc;clear hc;obtain⟨⟨w,g⟩,hx⟩:=aE (xs:=xs) (i:=i) (by omega);have rQ:b.isSome=true/\0<=z/\z<(len:Int):=⟨q.aT (by omega),hz.ix aP⟩;have jo:(some (⟨nb,0,none⟩:Addr)).isSome=true/\0<=z/\z<(len:Int):=⟨rfl,hz.ix aP⟩;have lKb:(((xs.take i).map (·.1)).zip gs).length=i:=by simp;omega
   have cN:=hz.eq;cbv;refine⟨rQ,?_⟩;cbv;refine(q.mono (qV.t _)).load hx hz.eq (fun cs ay=>?_);have hv:cX.R h' cs (w,g):=ay;obtain⟨b1,n1,k1,b2,n2,k2,rfl,-⟩:=ay;cbv;refine bKw hv (fun h2 b1 n1 b2 n2 c2 m eE HX hr=>?_);cbv;refine⟨jo,?_⟩;cbv;refine(wR.mono (eE.t _)).store (by decide) (i:=i) (by omega) (by omega) (by omega) cN rfl hr (fun h3 Ia YM NI=>?_);rw[if_neg (by omega)]at NI;have DE:Le h h3:=(qV.trans eE).dJ (by simpa using gY) Ia;have hp:I (len-(i+1)) (A .bB .add .i64 z 1) h3:=by
    rw[aY];refine⟨i+1,gs++[m],hz.succ (A:=A) (by omega),rfl,by omega,DE,by simp[An],aKK.push (fun j px hj e=>?_),fun j m' hj=>?_,?_⟩
    ·exact(CE j px hj).2.1 (HX px e)
    ·rw[mXX]at hj;split at hj
     ·obtain⟨a1,a2,a3⟩:=CE j m' hj;refine⟨a1,?_,a3⟩;cases hb:h' m' with
      |none=>exact absurd hb a2
      |some o=>rw[Ia _ _ (eE _ _ hb) (by simpa using a3)];simp
     ·rw[mZi]at hj;split at hj
      ·cases hj;have iZz:=HX m' rfl;obtain⟨_,_,_,_,_,-,-,hq⟩:=hr;rcases hq with ⟨e,-⟩ | ⟨Dz,e,-,-,o⟩
       ·cases e
       ·cases e;obtain⟨cc,Ij,-⟩:=o.out;have ch:m'≠nb:=fun e=>by
         obtain⟨lKQ,iXK,-⟩:=wR.out;rw[e,iXK]at iZz;cases iZz
        refine⟨qV.none iZz,?_,ch⟩;rw[Ia _ _ Ij (by simpa using ch)];simp
      ·cases hj
    ·have e2:(xs.take (i+1)).map (·.1)=(xs.take i).map (·.1)++[w]:=by rw[mXc,hx];simp
     rw[e2,List.zip_append (by simp;omega)];exact NI
   cbv;refine⟨len-(i+1),_,by omega,⟨?_,?_,?_⟩,hp⟩
   ·cbv
   ·cbv
   ·cbv
  ·have lN:=hz.ge hc;have ke:i=len:=by omega
   subst ke;rw[hlen,mXy,<-hlen]at wR;have af:=hk h' nb gs qV gY An aKK (fun j m hj=>(CE j m hj).1) wR;cbv;exact af
theorem dZs{d:DB}{h:ad}{v:Value}(q:ik h v d){k:Value->ad->Prop}
 (hk:∀h' tb wb n1 n2 b3 n3 c3 b4 n4 c4 (gs:List (Option Nat)),Le h h'->h tb=none->h wb=none->n1=d.az.length->fX 51 ef h' tb n1 d.az->n2=d.aq.length->gs.length=n2->UJ gs->(∀(i m:Nat),gs[i]? =some (some m)->h m=none)->fX 55 lk h' wb n2 (d.aq.zip gs)->Sl 205 bG h' (.slice b3 n3 c3) d.holds->Sl 205 bG h' (.slice b4 n4 c4) d.waits->
  k (.agg #[.slice (some ⟨tb,0,none⟩) n1 n1,.slice (some ⟨wb,0,none⟩) n2 n2,.slice b3 n3 c3,.slice b4 n4 c4]) h'):Ct 50 [v] h k:=by
 obtain⟨A,hA⟩:=Ar.ex;obtain⟨b1,n1,c1,b2,n2,c2,b3,n3,c3,b4,n4,c4,ws,rfl,q1,q2,q3,q4,qw⟩:=q.out;have mY:n2=d.aq.length:=by rw[q2.len,<-qw,mQz]
 refine ah A (ax hQf.aK hQf.bF) Tryz.func50 rfl (by kernel_rfl) ?_;cbv;refine(WI q1).mono (fun v h1 hR=>?_);obtain⟨l1,tb,wB,rfl,o1⟩:=hR;cbv;refine bQG (q2.mono (l1.t _)) (fun h2 wb gs l2 Ai An aKK CE o2=>?_);rw[qw]at o2;cbv;refine(Dj (q3.mono ((l1.trans l2).t _))).mono (fun v h3 hR=>?_);obtain⟨l3,jJJ,eXf,rfl,o3,-⟩:=hR;cbv;refine(Dj (q4.mono (((l1.trans l2).trans l3).t _))).mono (fun v h4 hR=>?_);obtain⟨l4,jJI,jJA,rfl,o4,-⟩:=hR;have af:=hk h4 tb wb n1 n2 jJJ n3 eXf jJI n4 jJA gs (((l1.trans l2).trans l3).trans l4) wB (l1.none Ai) q1.len (o1.mono (((l2.trans l3).trans l4).t _)) mY An aKK (fun i m hm=>l1.none (CE i m hm)) (o2.mono ((l3.trans l4).t _)) (o3.mono (l4.t _)) o4;cbv;exact af
theorem aQK{ws:List fJ}{gs:List (Option Nat)}(h:gs.length=ws.length):(ws.zip gs).map (fun x=>(x.1,true))=Wf ws:=by unfold Wf;have e:(fun x:fJ×Option Nat=>(x.1,true))=(fun w:fJ=>(w,true)) ∘ Prod.fst:=rfl;rw[e,<-mXB];congr 1;rw[<-List.unzip_fst,List.unzip_zip h.symm]
theorem bXu{d:DB}{h:ad}{v:Value}(q:ik h v d){k:Value->ad->Prop}
 (hk:∀h' c tb wb ct cw (gs:List (Option Nat)),Le h h'->h c=none->h tb=none->h wb=none->c≠tb->c≠wb->cw=d.aq.length->gs.length=cw->UJ gs->(∀(i m:Nat),gs[i]? =some (some m)->h m=none)->fX 55 lk h' wb cw (d.aq.zip gs)->
  lA h' c tb wb ct cw d.az (Wf d.aq) d.holds d.waits 0->k (.pointer (some ⟨c,0,none⟩)) h'):Ct 48 [v] h k:=by
 obtain⟨A,hA⟩:=Ar.ex;obtain⟨b1,n1,c1,b2,n2,c2,b3,n3,c3,b4,n4,c4,rfl⟩:=q.form;refine ah A (ax hQg.aK hQg.bF) Tryz.func48 rfl (by kernel_rfl) ?_;cbv;refine dZs q (fun h1 tb wb n1 n2 b3 n3 c3 b4 n4 c4 gs l1 wB Ai g1 g2 g3 An aKK CE om g5 g6=>?_);have g4:fX 55 cX h1 wb n2 (Wf d.aq):=by have:=fX.map (s1:=lk) (s2:=cX) rfl (fun x=>(x.1,true)) RT om;rw[aQK (by omega)]at this;exact this
 cbv;intro n h2 hn hh;have l2:Le h1 h2:=by rw[hh];exact Le.set hn
 have ht:n≠tb:=fun e=>by
  obtain⟨c,h3,-⟩:=g2.out;rw[<-e,hn]at h3;cases h3
 have hw:n≠wb:=fun e=>by
  obtain⟨c,h3,-⟩:=g4.out;rw[<-e,hn]at h3;cases h3
 have gc:=(congrFun hh n).trans ae;have hc:lA h2 n tb wb n1 n2 d.az (Wf d.aq) d.holds d.waits 0:=
  ⟨n1,n2,b3,n3,c3,b4,n4,c4,0,gc,.inl ⟨rfl,rfl⟩,g1,g2.mono (l2.t _),by simp[Wf,g3],g4.mono (l2.t _),g5.mono (l2.t _),g6.mono (l2.t _)⟩
 have af:=hk h2 n tb wb n1 n2 gs (l1.trans l2) (l1.none hn) wB Ai ht hw g3 An aKK CE (om.mono (l2.t _)) hc;cbv;exact af
def nI(nm:ByteArray):Bool:=decide (kE ⟨nm,[⟨nA,2,false⟩],0,false⟩≠0)
def jT(d:DB)(s:Int)(nm:ByteArray):DB×Int:=
 if jG (bQ d.aq s)=true then if nI nm=true then(d,12)else match d.aq[di (bQ d.aq s)]? with
  |some w=>if decide ((w.marks.length:Int)>=10)=true then(d,4)else(⟨d.az,d.aq.set (di (bQ d.aq s)) ⟨w.s,w.log,w.marks++[⟨nm,(w.log.length:Int)⟩]⟩,d.holds,d.waits⟩,0)
  |none=>(d,2)
 else(d,2)
theorem bKh{d:DB}{h:ad}{v:Value}(q:ik h v d)(s:Int)(nm:ByteArray){D:DB×Int}(hD:jT d s nm=D){k:Value->ad->Prop}
 (hk:bJg h D.1 D.2 k):Ct 39 [v,.int .i64 s,.string nm] h k:=by
 obtain⟨A,hA⟩:=Ar.ex;have q':=q;obtain⟨b1,n1,c1,b2,n2,c2,b3,n3,c3,b4,n4,c4,ws,rfl,-,qW,-,-,iKV⟩:=q'.out;have Jv:n2=d.aq.length:=by rw[qW.len,<-iKV,mQz]
 refine ah A (ax jKJ.aK jKJ.bF) Tryz.func39 rfl (by kernel_rfl) ?_;cbv;refine bXu q (fun h1 c tb wb ct cw gs l1 hc wB Ai wF tZ Uw An aKK CE om cs=>?_);have dKv:gs.length=d.aq.length:=by rw[An,Uw]
 have dJu:(d.aq.zip gs).length=d.aq.length:=by rw[mKU];omega
 obtain⟨Z,hZ⟩:∃Z,Z=d.aq.zip gs:=⟨_,rfl⟩;rw[<-hZ]at dJu om;have jZj:∀(j:Nat) (w:fJ),d.aq[j]? =some w->∃g,Z[j]? =some (w,g)/\gs[j]? =some g:=fun j w hj=>by
  have tX:=(HH.1 hj).1;obtain⟨g,hg⟩:=aE (xs:=gs) (i:=j) (by omega);refine⟨g,?_,hg⟩;rw[hZ,mJU];exact⟨hj,hg⟩
 have lQd:Z.map (fun x=>(x.1,true))=Wf d.aq:=by rw[hZ];exact aQK dKv
 have jZk:∀(j:Nat) (x:fJ×Option Nat),Z[j]? =some x->gs[j]? =some x.2:=fun j x hj=>by
  rw[hZ,mJU]at hj;exact hj.2
 cbv;refine sO cs s (fun h2 z t l2 hz ht=>?_);rw[qO]at ht hz;have ko:=l1.trans l2;have q2:=q.mono ko;cases t with
 |false=>
  have cU:D=(d,2):=by rw[<-hD];unfold jT;rw[<-ht];rfl
  subst cU;cbv;rw[show A .not false=true by rw[hA.not];rfl];cbv;refine fi q2 (fun h3 b1 n1 c1 b2 n2 c2 b3 n3 c3 b4 n4 c4 l3 jX=>?_);have af:=hk h3 b1 n1 c1 b2 n2 c2 b3 n3 c3 b4 n4 c4 (ko.trans l3) jX;cbv;exact af
 |true=>
  have aP:di (bQ d.aq s)<d.aq.length:=by have:=lr ht.symm;simpa[bQ]using this
  obtain⟨w,hw⟩:=aE aP;have cU:(if nI nm=true then((d,12):DB×Int)else if decide ((w.marks.length:Int)>=10)=true then(d,4)else(⟨d.az,d.aq.set (di (bQ d.aq s)) ⟨w.s,w.log,w.marks++[⟨nm,(w.log.length:Int)⟩]⟩,d.holds,d.waits⟩,0))=D:=by rw[<-hD];unfold jT;rw[<-ht,hw];rfl
  clear hD;obtain⟨i,hi⟩:∃i,i=di (bQ d.aq s):=⟨_,rfl⟩;rw[<-hi]at cU hw hz;clear hi aP;have ke:=(HH.1 hw).1;cbv;rw[show A .not true=false by rw[hA.not];rfl];cbv;intro fQa h3 iQR e3;have l3:Le h2 h3:=by rw[e3];exact Le.set iQR
  have g3:=(congrFun e3 fQa).trans ae;have qc:Sl 165 bI h3 (.slice (some ⟨fQa,0,none⟩) 1 1) [⟨nA,2,false⟩]:=bA (s:=bI) g3 (x:=⟨nA,2,false⟩) rfl;cbv;refine(WU (nm:=nm) (key:=0) (only:=false) qc).mono (fun v h4 hR=>?_);obtain⟨l4,e,rfl,he⟩:=hR;have xW:=(ko.trans l3).trans l4;generalize eu:A .aI .neq e 0=u;have fu:=eu;rw[aC A]at eu;have iQX:nI nm=u:=by unfold nI;rw[<-he];exact eu
  rw[iQX]at cU;cbv;rw[fu];cases u with
  |true=>have cU:((d,12):DB×Int)=D:=cU;subst cU;cbv;refine fi (q.mono xW) (fun h5 b1 n1 c1 b2 n2 c2 b3 n3 c3 b4 n4 c4 l5 jX=>?_);have af:=hk h5 b1 n1 c1 b2 n2 c2 b3 n3 c3 b4 n4 c4 (xW.trans l5) jX;cbv;exact af
  |false=>
   obtain⟨⟨w0,wf⟩,Ek⟩:=aE (xs:=ws) (i:=i) (by have:=qW.len;omega);have iQe:w0=w:=by
    have:(ws.map (·.1))[i]? =some w0:=by rw[mQU,Ek];rfl
    rw[iKV,hw]at this;cases this;rfl
   subst iQe;obtain⟨hXZ,wl,wm⟩:=w0;have cU:(if decide ((wm.length:Int)>=10)=true then((d,4):DB×Int)else(⟨d.az,d.aq.set i ⟨hXZ,wl,wm++[⟨nm,(wl.length:Int)⟩]⟩,d.holds,d.waits⟩,0))=D:=cU;have FL:b2.isSome=true/\0<=z/\z<(n2:Int):=⟨qW.aT (by omega),hz.ix (by omega)⟩;cbv;refine⟨FL,?_⟩;cbv;refine HJ (qW.mono (xW.t _)) Ek hz.eq (fun y1 y2 y3 qm _=>?_);have tD:y2=wm.length:=qm.len;generalize eu:A .aI .geq (A .nat y2) 10=u;have fu:=eu;rw[cf A,hA.nat,tD,show Int.ofNat wm.length=(wm.length:Int)from rfl]at eu;rw[eu]at cU;have iZB:u=false->wm.length<10:=fun e=>by
    rw[e]at eu;have:=mQI eu;omega
   cbv;rw[fu];cases u with
   |true=>have cU:((d,4):DB×Int)=D:=cU;subst cU;cbv;refine fi (q.mono xW) (fun h5 b1 n1 c1 b2 n2 c2 b3 n3 c3 b4 n4 c4 l5 jX=>?_);have af:=hk h5 b1 n1 c1 b2 n2 c2 b3 n3 c3 b4 n4 c4 (xW.trans l5) jX;cbv;exact af
   |false=>
    have cU:((⟨d.az,d.aq.set i ⟨hXZ,wl,wm++[⟨nm,(wl.length:Int)⟩]⟩,d.holds,d.waits⟩,0):DB×Int)=D:=cU;have fL:wm.length<10:=iZB rfl;have rK:=(l2.trans l3).trans l4;have QL:=cs.mono rK;have jQt:=om.mono (rK.t _);refine QL.elim (fun m1 m2 x3 m3 k3 x4 m4 k4 o g0 ho f1 f2 f3 f4 f6 f7 _=>?_);have sH:m2=d.aq.length:=by rw[f3];simp[Wf]
    have cJ:(some (⟨wb,0,none⟩:Addr)).isSome=true/\0<=z/\z<(m2:Int):=⟨rfl,hz.ix (by omega)⟩;obtain⟨gm,iQc,RI⟩:=jZj i _ hw;have eKJ:Sl 55 lk h4 (.slice (some ⟨wb,0,none⟩) m2 cw) Z:=jQt.sl (sH.trans dJu.symm);cbv;rw[ai A];rw[ai A];refine aB g0 rfl rfl ?_;cbv;refine⟨cJ,?_⟩;cbv;refine eKJ.vD iQc hz.eq (o:=2) (m:=1) (by simp[lk]) (fun lKO cQM ag=>?_);obtain⟨lb,ln,mb,mn,mc,rfl,gJP,fXp⟩:=cQM;have gJP:Sl 148 dI h4 (.slice lb ln ln) wl:=gJP;have tG:ln=wl.length:=gJP.len;cbv;refine eKJ.vD iQc hz.eq (o:=1) (m:=1) (by simp[lk]) (fun Bs iXE _=>?_);obtain⟨fQt,cJK,lJG,lJE,lJF,rfl,dJV,-⟩:=iXE;have dJV:Sl 148 dI h4 (.slice fQt cJK cJK) wl:=dJV;have iQZ:A .nat cJK=(wl.length:Int):=by rw[hA.nat];have:=dJV.len;rw[<-this];rfl
    cbv;intro Ad h5 yf e5;have l5:Le h4 h5:=by rw[e5];exact Le.set yf
    have g5:=(congrFun e5 Ad).trans ae;have qx:=bA (s:=dN) g5 (x:=⟨nm,A .nat cJK⟩) rfl;rw[iQZ]at qx;cbv;refine ag _ _ l5 ?_;cbv;refine⟨⟨_,rfl,rfl⟩,?_⟩;cbv;have hJu:=jQt.mono (l5.t _);have Lk:=QL.mono l5;have aJx:=xW.trans l5;obtain⟨mk',NJ⟩:∃m:oy,m=⟨nm,(wl.length:Int)⟩:=⟨_,rfl⟩;rw[<-NJ]at qx cU;have rest:∀(h6:ad) (b6:Option Addr) (c6:Nat),bR [51,165,59,61,55,148,205,128] h5 h6->Le h h6->h6 wb=h5 wb->h6 c=h5 c->Sl 161 dN h6 (.slice b6 (mn+1) c6) (wm++[mk'])->
     (∀(j:Nat) (x:fJ×Option Nat) (cs:List Value),j≠i->Z[j]? =some x->lk.R h5 cs x->cX.R h6 cs (x.1,true))->
     ∀k',(∀h7,Le h h7->h7 c=h5 c->ik h7 (.agg #[.slice (some ⟨tb,0,none⟩) m1 ct,.slice (some ⟨wb,0,none⟩) m2 cw,.slice x3 m3 k3,.slice x4 m4 k4]) D.1->k' h7)->Rn h6 (A .off (A .mS (some ⟨wb,0,none⟩) z 3) 2) [.slice b6 (mn+1) c6] k':=fun h6 b6 c6 SN l6 cJW eZI fXn ig k' wT=>by
     refine fX.eJT (s1:=lk) (s2:=cX) (A:=A) rfl (fun x=>(x.1,true)) hJu cJW iQc hz.eq rfl (off:=2) (by simp[lk]) (x':=(⟨hXZ,wl,wm++[mk']⟩,true)) (fun h7 cs k7 t7 hR=>?_) (fun h7 cs j y k7 t7 hj hy hR=>?_) (fun h7 k7 t7 o7=>?_)
     ·obtain⟨a1,a2,a3,a4,a5,rfl,a6,-⟩:=hR;exact⟨_,_,_,_,_,_,rfl,(a6.mono (SN.sub (by decide))).mono (t7 _ (by decide)),fXn.mono (t7 _ (by decide)),fun _=>rfl⟩
     ·obtain⟨a1,a2,a3,a4,a5,a6,rfl,a7,a8,a9⟩:=ig j y cs hj hy hR;exact⟨_,_,_,_,_,_,rfl,a7.mono (t7 _ (by decide)),a8.mono (t7 _ (by decide)),a9⟩
     ·refine wT h7 (l6.dJ (by simpa using Ai) k7) ?_ ?_
      ·rw[<-eZI];cases hb:h6 c with
       |none=>rw[eZI,l5 _ _ g0]at hb;cases hb
       |some o=>exact k7 _ _ hb (by simpa using tZ)
      ·rw[<-cU];have aQh:bR [51,165,59,61,205] h5 h7:=(SN.sub (by decide)).trans (t7 _ (by decide));refine⟨_,_,_,_,_,_,_,_,_,_,_,_,_,rfl,(((f2.mono (l5.t _)).mono (aQh.sub (by decide))).sl f1),o7.sl ?_,(f6.mono (l5.t _)).mono (aQh.sub (by decide)),(f7.mono (l5.t _)).mono (aQh.sub (by decide)),?_⟩
       ·rw[mXo,mQz];exact sH.trans dJu.symm
       ·rw[lQd,mZd,IY]
    have eQk:=l5 _ _ g0;clear hZ;have fXa:∃o,h5 wb=some o:=by obtain⟨cc,Ij,-⟩:=hJu.out;exact⟨_,Ij⟩
    have HX:mn=wm.length:=by
     rcases fXp with ⟨-,e1,-,e3⟩ | ⟨nb,-,-,e3,-⟩
     ·have e3:wm=[]:=e3;rw[e1,e3];rfl
     ·exact e3
    have We:Sl 161 dN h5 (.slice mb mn mc) wm:=by
     rcases fXp with ⟨-,e1,e2,e3⟩ | ⟨nb,-,e2,e3,o⟩
     ·have e3:wm=[]:=e3;rw[e1,e2,e3];exact Sl.nil
     ·rw[e2];exact(o.mono (l5.t _)).sl e3
    by_cases Ie:mn+1<=mc
    ·rcases fXp with ⟨-,e1,e2,-⟩ | ⟨nb,e1,e2,e3,o⟩
     ·omega
     have e1:gm=some nb:=e1;subst e1 e2;have o5:fX 161 dN h5 nb mc wm:=o.mono (l5.t _);have iQO:nb≠wb:=fun e=>by
      obtain⟨c1,q1,-⟩:=o5.out;obtain⟨c2,q2,-⟩:=hJu.out;rw[e,q2]at q1;cases q1
     have iQQ:nb≠c:=fun e=>by
      obtain⟨c1,q1,-⟩:=o5.out;rw[e,eQk]at q1;cases q1
     have iQP:h nb=none:=CE i nb RI;have iXD:∀(j:Nat) (x:fJ×Option Nat) (m':Nat),j≠i->Z[j]? =some x->x.2=some m'->m'≠nb:=fun j x m' hj hx hm e=>by
      have h1:=jZk j x hx;rw[hm,e]at h1;exact hj (aKK j i nb h1 RI)
     clear aKK CE jZj jZk;refine o5.Re (by decide) (i:=mn) (by omega) qx Ie (by omega) rfl (fun h6 m hm k6 t6 o6=>?_);rw[HX,mXy,mXl (by omega),mQF]at o6;have dJc:Le h h6:=aJx.dJ (by simpa using iQP) k6;have cJW:h6 wb=h5 wb:=by obtain⟨o,ho⟩:=fXa;rw[ho];exact k6 _ _ ho (by simpa using iQO.symm)
     have eZI:h6 c=h5 c:=by rw[eQk];exact k6 _ _ eQk (by simpa using iQQ.symm)
     have ig:∀(j:Nat) (x:fJ×Option Nat) (cs:List Value),j≠i->Z[j]? =some x->lk.R h5 cs x->cX.R h6 cs (x.1,true):=fun j x cs hj hx hR=>by
      refine RT h6 cs x ?_;obtain⟨a1,a2,a3,a4,a5,rfl,a6,a7⟩:=hR;refine⟨a1,a2,a3,a4,a5,rfl,a6.mono (t6 _ (by decide)),?_⟩;rcases a7 with a7| ⟨m',f1,f2,f3,f4⟩
      ·exact .inl a7
      ·exact .inr ⟨m',f1,f2,f3,f4.kp k6 (by simpa using iXD j x m' hj hx f1) (t6 _ (by decide))⟩
     have wC:Sl 161 dN h6 (.slice (some ⟨nb,0,none⟩) (mn+1) mc) (wm++[mk']):=o6.sl (by simp[HX]);subst hm;cbv;refine rest h6 _ _ (t6 _ (by decide)) dJc cJW eZI wC ig _ (fun h7 l7 iXM JB=>?_);have eZT:=iXM.trans eQk;cbv;rw[ai A];refine aB eZT rfl rfl ?_;cbv;refine fi JB (fun h8 b1 n1 c1 b2 n2 c2 b3 n3 c3 b4 n4 c4 l8 jX=>?_);have af:=hk h8 b1 n1 c1 b2 n2 c2 b3 n3 c3 b4 n4 c4 (l7.trans l8) jX;rw[<-cU]at af;cbv;exact af
    ·refine lz We qx (by omega) rfl (by decide) (by omega) (fun nb c6 h6 gY l6 hc o6=>?_);have cJW:h6 wb=h5 wb:=by obtain⟨o,ho⟩:=fXa;rw[ho];exact l6 _ _ ho
     have eZI:h6 c=h5 c:=by rw[eQk];exact l6 _ _ eQk
     have ig:∀(j:Nat) (x:fJ×Option Nat) (cs:List Value),j≠i->Z[j]? =some x->lk.R h5 cs x->cX.R h6 cs (x.1,true):=fun j x cs hj hx hR=>RT h6 cs x (lk.mono (l6.t _) hR);have wC:Sl 161 dN h6 (.slice (some ⟨nb,0,none⟩) (mn+1) c6) (wm++[mk']):=o6.sl (by simp[HX]);cbv;refine rest h6 _ _ (l6.t _) (aJx.trans l6) cJW eZI wC ig _ (fun h7 l7 iXM JB=>?_);have eZT:=iXM.trans eQk;cbv;rw[ai A];refine aB eZT rfl rfl ?_;cbv;refine fi JB (fun h8 b1 n1 c1 b2 n2 c2 b3 n3 c3 b4 n4 c4 l8 jX=>?_);have af:=hk h8 b1 n1 c1 b2 n2 c2 b3 n3 c3 b4 n4 c4 (l7.trans l8) jX;rw[<-cU]at af;cbv;exact af
end Go.S
