import Derived.Test.YtekoaiendgjkdaaGreatGB
import Derived.Test.YtekoaiendgjkdaaGreatEC
import Derived.Test.YtekoaiendgjkdaaGreatRd
set_option linter.unusedVariables false
set_option linter.unusedSimpArgs false
set_option linter.unusedSectionVars false
set_option maxRecDepth 100000
set_option maxHeartbeats 8000000
namespace Go.S
open Go.Sx Go.Proofs
theorem _root_.Go.Sx.Rows.map{α β:Type}{s1:Sh α}{s2:Sh β}(hn:s1.n=s2.n)(f:α->β)(hR:∀h cs x,s1.R h cs x->s2.R h cs (f x)){h:ad}{c:List Value}{off:Nat}{xs:List α}(r:Sx.Rows s1 h c off xs):Sx.Rows s2 h c off (xs.map f):=by
 refine⟨by rw[List.length_map,<-hn];exact r.1,fun i x hx=>?_⟩;rw[List.getElem?_map]at hx;cases hy:xs[i]? with
 |none=>rw[hy]at hx;cases hx
 |some y=>rw[hy]at hx;simp at hx;subst hx;rw[<-hn];exact hR _ _ _ (r.2 i y hy)
theorem _root_.Go.Sx.dI.map{α β:Type}{s1:Sh α}{s2:Sh β}(hn:s1.n=s2.n)(f:α->β)(hR:∀h cs x,s1.R h cs x->s2.R h cs (f x)){e:Nat}{h:ad}{nb cap:Nat}{xs:List α}(o:dI e s1 h nb cap xs):dI e s2 h nb cap (xs.map f):=by obtain⟨c,h1,h2,h3⟩:=o.out;exact⟨⟨c,h1,Sx.Rows.map hn f hR h2,by rw[<-hn];exact h3⟩,by rw[List.length_map];exact o.le,by rw[List.length_map];exact o.bd⟩
def fU:Sh (dO×Option Nat)where
 n:=3
 R h cs t:=∃b1 n1 b2 n2 c2,cs=[.int .i64 t.1.s,.slice b1 n1 n1,.slice b2 n2 c2]/\Sl 148 gM h (.slice b1 n1 n1) t.1.log/\
  ((t.2=none/\n2=0/\c2=0/\t.1.marks=[])\/∃nb,t.2=some nb/\b2=some ⟨nb,0,none⟩/\n2=t.1.marks.length/\dI 161 gF h nb c2 t.1.marks)
 len:=by rintro h cs x ⟨_,_,_,_,_,rfl,-⟩;rfl
 one:=by rintro h cs x ⟨_,_,_,_,_,rfl,-⟩;rfl
 tys:=[148,61,161]
 mono:=by
  rintro h h' cs x hl ⟨b1,n1,b2,n2,c2,rfl,q1,q2⟩;refine⟨b1,n1,b2,n2,c2,rfl,q1.mono (hl.sub (by decide)),?_⟩;rcases q2 with q2| ⟨nb,e1,e2,e3,o⟩
  ·exact .inl q2
  ·exact .inr ⟨nb,e1,e2,e3,o.mono (hl.sub (by decide))⟩
theorem CU(h:ad)(cs:List Value)(x:dO×Option Nat)(r:fU.R h cs x):cf.R h cs (x.1,true):=by
 obtain⟨b1,n1,b2,n2,c2,rfl,q1,q2⟩:=r;refine⟨b1,n1,n1,b2,n2,c2,rfl,q1,?_,fun _=>rfl⟩;rcases q2 with ⟨-,e1,e2,e3⟩ | ⟨nb,e1,e2,e3,o⟩
 ·rw[e1,e2];show Sl 161 gF h _ x.1.marks;rw[e3];exact Sl.nil
 ·rw[e2];exact o.sl e3
theorem HN{xs:List Ns}{h:ad}{b:Option Addr}{len cap:Nat}(q:Sl 161 gF h (.slice b len cap) xs){k:Value->ad->Prop}(M0:∀b' h',len=0->Le h h'->k (.slice b' 0 0) h')
 (nO:∀nb c h',h nb=none->0<len->Le h h'->dI 161 gF h' nb c xs->k (.slice (some ⟨nb,0,none⟩) len c) h'):Ct 208 [.slice b len cap] h k:=by
 obtain⟨A,hA⟩:=Ar.ex;refine ah A (ar Qo.aA Qo.bm) Tryz.func208 rfl (by kernel_rfl) ?_;cbv;refine aQ (fun hc=>?_) (fun hc=>?_)
 ·rw[hA.xy]at hc;have hb:b=none:=by cases b<;>simp at hc |-
  subst hb;have hl:len=0:=by
   rcases Nat.eq_zero_or_pos len with e|e
   ·exact e
   ·have:=q.bu e;cases this
  have ae:=M0 none h hl (Le.refl _);cbv;exact ae
 ·cbv;intro n0 h1 kg eF;have hle:Le h h1:=by rw[eF];exact Le.set kg
  cbv;refine fi (q.mono (hle.t _)) (by simp[gF]) rfl (by decide) (fun hn=>?_) (fun nb c h2 e1 e2 e3 e4=>?_)
  ·have ae:=fun b'=>M0 b' h1 hn hle;cbv;exact ae _
  ·have ae:=nO nb c h2 (hle.none e1) e2 (hle.trans e3) e4;cbv;exact ae
theorem Oa{w:dO}{g:Bool}{h:ad}{c0 c1 c2:Value}(q:cf.R h [c0,c1,c2] (w,g)){k:Value->ad->Prop}
 (hk:∀h' b1 n1 b2 n2 c2 (m:Option Nat),Le h h'->(∀nb,m=some nb->h nb=none)->fU.R h' [.int .i64 w.s,.slice b1 n1 n1,.slice b2 n2 c2] (w,m)->k (.agg #[.int .i64 w.s,.slice b1 n1 n1,.slice b2 n2 c2]) h'):Ct 115 [.agg #[c0,c1,c2]] h k:=by
 obtain⟨A,hA⟩:=Ar.ex;obtain⟨b1,n1,k1,b2,n2,k2,he,q1,q2,-⟩:=q;cases he;have q1:Sl 148 gM h (.slice b1 n1 k1) w.log:=q1;have q2:Sl 161 gF h (.slice b2 n2 k2) w.marks:=q2;obtain⟨ws,wl,wm⟩:=w;refine ah A (ar Qr.aA Qr.bm) Tryz.func115 rfl (by kernel_rfl) ?_;cbv;refine(LA q1).mono (fun v h1 hR=>?_);obtain⟨hle,nb,fk,rfl,ho⟩:=hR;cbv;refine HN (q2.mono (hle.t _)) (fun b' h2 hn cP=>?_) (fun xd c h2 e1 e2 cP o2=>?_)
 ·have hm:wm=[]:=by have:=q2.len;exact List.eq_nil_of_length_eq_zero (by simp only at this;omega)
  have ae:=hk h2 (some ⟨nb,0,none⟩) n1 b' 0 0 none (hle.trans cP) (fun _ e=>by cases e) ⟨_,_,_,_,_,rfl,(ho.sl q1.len).mono (cP.t _),.inl ⟨rfl,rfl,rfl,hm⟩⟩;cbv;exact ae
 ·have ae:=hk h2 (some ⟨nb,0,none⟩) n1 (some ⟨xd,0,none⟩) n2 c (some xd) (hle.trans cP) (fun _ e=>by cases e;exact hle.none e1) ⟨_,_,_,_,_,rfl,(ho.sl q1.len).mono (cP.t _),.inr ⟨xd,rfl,rfl,q2.len,o2⟩⟩;cbv;exact ae
def EC(gs:List (Option Nat)):Prop:=∀(i j nb:Nat),gs[i]? =some (some nb)->gs[j]? =some (some nb)->i=j
theorem EC.push{gs:List (Option Nat)}(d:EC gs){m:Option Nat}(h:∀(i nb:Nat),gs[i]? =some (some nb)->m≠some nb):EC (gs++[m]):=fun i j nb h1 h2=>by
 rw[List.getElem?_append]at h1 h2;split at h1<;>split at h2
 ·exact d i j nb h1 h2
 ·rename_i a b;rw[List.getElem?_singleton]at h2;split at h2
  ·cases h2;exact absurd rfl (h i nb h1)
  ·cases h2
 ·rename_i a b;rw[List.getElem?_singleton]at h1;split at h1
  ·cases h1;exact absurd rfl (h j nb h2)
  ·cases h1
 ·rw[List.getElem?_singleton]at h1 h2;split at h1
  ·split at h2
   ·omega
   ·cases h2
  ·cases h1
theorem LB{xs:List (dO×Bool)}{h:ad}{b:Option Addr}{len cap:Nat}(q:Sl 55 cf h (.slice b len cap) xs){k:Value->ad->Prop}
 (hk:∀h' nb (gs:List (Option Nat)),Le h h'->h nb=none->gs.length=len->EC gs->(∀(i m:Nat),gs[i]? =some (some m)->h m=none)->dI 55 fU h' nb len ((xs.map (·.1)).zip gs)->k (.slice (some ⟨nb,0,none⟩) len len) h'):
 Ct 114 [.slice b len cap,.func (.func 115) #[] #[]] h k:=by
 obtain⟨A,hA⟩:=Ar.ex;have hlen:=q.len;obtain⟨ll,jS⟩:=q.bound;refine ah A (ar Qs.aA Qs.bm) Tryz.func114 rfl (by kernel_rfl) ?_;cbv;refine iL (s:=fU) rfl (by omega) (by decide) (fun nb h1 fk hle ho=>?_);obtain⟨I,bl⟩:∃I:Nat->Int->ad->Prop,∀n z h',I n z h'=∃(i:Nat) (gs:List (Option Nat)),aS z i/\n=len-i/\i<=len/\Le h h'/\gs.length=i/\EC gs/\(∀(j m:Nat),gs[j]? =some (some m)->h m=none/\h' m≠none/\m≠nb)/\dI 55 fU h' nb len (((xs.take i).map (·.1)).zip gs):=⟨_,fun _ _ _=>rfl⟩;cbv;refine aX.go (G:=Int) (fun z=>[(13,.v (.int .i64 z))]) (fun _=>[]) (fun n z h'=>I n z h') len 0 ⟨?_,?_,?_⟩ (by rw[bl];exact⟨0,[],⟨rfl⟩,by omega,by omega,hle,rfl,fun _ _ _ h=>by simp at h,fun _ _ h=>by simp at h,ho⟩) ?_
 ·cbv
 ·cbv
 ·cbv
 ·intro n z h' hI;rw[bl]at hI;cbv;obtain⟨i,gs,hz,hn,hi,ku,Aj,K6,Ft,pD⟩:=hI;refine aQ (fun hc=>?_) (fun hc=>?_)
  ·have aK:=hz.lt hc;clear hc;obtain⟨⟨w,g⟩,hx⟩:=aI (xs:=xs) (i:=i) (by omega);have rI:b.isSome=true/\0<=z/\z<(len:Int):=⟨q.bu (by omega),hz.ix aK⟩;have kW:(some (⟨nb,0,none⟩:Addr)).isSome=true/\0<=z/\z<(len:Int):=⟨rfl,hz.ix aK⟩;have hlz:(((xs.take i).map (·.1)).zip gs).length=i:=by simp;omega
   have fA:=hz.eq;cbv;refine⟨rI,?_⟩;cbv;refine(q.mono (ku.t _)).load hx hz.eq (fun cs aC=>?_);have hv:cf.R h' cs (w,g):=aC;obtain⟨b1,n1,k1,b2,n2,k2,rfl,-⟩:=aC;cbv;refine Oa hv (fun h2 b1 n1 b2 n2 c2 m cP KV hr=>?_);cbv;refine⟨kW,?_⟩;cbv;refine(pD.mono (cP.t _)).store (by decide) (i:=i) (by omega) (by omega) (by omega) fA rfl hr (fun h3 CQ ht3 AN=>?_);rw[if_neg (by omega)]at AN;have xD:Le h h3:=(ku.trans cP).df (by simpa using fk) CQ;have hp:I (len-(i+1)) (A .bA .add .i64 z 1) h3:=by
    rw[bl];refine⟨i+1,gs++[m],hz.succ (A:=A) (by omega),rfl,by omega,xD,by simp[Aj],K6.push (fun j mV hj e=>?_),fun j m' hj=>?_,?_⟩
    ·exact(Ft j mV hj).2.1 (KV mV e)
    ·rw[List.getElem?_append]at hj;split at hj
     ·obtain⟨a1,a2,a3⟩:=Ft j m' hj;refine⟨a1,?_,a3⟩;cases hb:h' m' with
      |none=>exact absurd hb a2
      |some o=>rw[CQ _ _ (cP _ _ hb) (by simpa using a3)];simp
     ·rw[List.getElem?_singleton]at hj;split at hj
      ·cases hj;have h2n:=KV m' rfl;obtain⟨_,_,_,_,_,-,-,hq⟩:=hr;rcases hq with ⟨e,-⟩ | ⟨xd,e,-,-,o⟩
       ·cases e
       ·cases e;obtain⟨cc,vX,-⟩:=o.out;have bW:m'≠nb:=fun e=>by
         obtain⟨cc2,hcc2,-⟩:=pD.out;rw[e,hcc2]at h2n;cases h2n
        refine⟨ku.none h2n,?_,bW⟩;rw[CQ _ _ vX (by simpa using bW)];simp
      ·cases hj
    ·have e2:(xs.take (i+1)).map (·.1)=(xs.take i).map (·.1)++[w]:=by rw[List.take_add_one,hx];simp
     rw[e2,List.zip_append (by simp;omega)];exact AN
   cbv;refine⟨len-(i+1),_,by omega,⟨?_,?_,?_⟩,hp⟩
   ·cbv
   ·cbv
   ·cbv
  ·have iR:=hz.ge hc;have kh:i=len:=by omega
   subst kh;rw[hlen,List.take_length,<-hlen]at pD;have ae:=hk h' nb gs ku fk Aj K6 (fun j m hj=>(Ft j m hj).1) pD;cbv;exact ae
theorem S8{d:DB}{h:ad}{v:Value}(q:gj h v d){k:Value->ad->Prop}
 (hk:∀h' tb wb n1 n2 b3 n3 c3 b4 n4 c4 (gs:List (Option Nat)),Le h h'->h tb=none->h wb=none->n1=d.aE.length->dI 51 cY h' tb n1 d.aE->n2=d.au.length->gs.length=n2->EC gs->(∀(i m:Nat),gs[i]? =some (some m)->h m=none)->dI 55 fU h' wb n2 (d.au.zip gs)->Sl 205 bL h' (.slice b3 n3 c3) d.holds->Sl 205 bL h' (.slice b4 n4 c4) d.waits->
  k (.agg #[.slice (some ⟨tb,0,none⟩) n1 n1,.slice (some ⟨wb,0,none⟩) n2 n2,.slice b3 n3 c3,.slice b4 n4 c4]) h'):Ct 50 [v] h k:=by
 obtain⟨A,hA⟩:=Ar.ex;obtain⟨b1,n1,c1,b2,n2,c2,b3,n3,c3,b4,n4,c4,ws,rfl,q1,q2,q3,q4,qw⟩:=q.out;have nN:n2=d.au.length:=by rw[q2.len,<-qw,List.length_map]
 refine ah A (ar T50.aA T50.bm) Tryz.func50 rfl (by kernel_rfl) ?_;cbv;refine(FF q1).mono (fun v h1 hR=>?_);obtain⟨l1,tb,su,rfl,o1⟩:=hR;cbv;refine LB (q2.mono (l1.t _)) (fun h2 wb gs l2 vM Aj K6 Ft o2=>?_);rw[qw]at o2;cbv;refine(se (q3.mono ((l1.trans l2).t _))).mono (fun v h3 hR=>?_);obtain⟨l3,b3',Wz,rfl,o3,-⟩:=hR;cbv;refine(se (q4.mono (((l1.trans l2).trans l3).t _))).mono (fun v h4 hR=>?_);obtain⟨l4,b4',c4',rfl,o4,-⟩:=hR;have ae:=hk h4 tb wb n1 n2 b3' n3 Wz b4' n4 c4' gs (((l1.trans l2).trans l3).trans l4) su (l1.none vM) q1.len (o1.mono (((l2.trans l3).trans l4).t _)) nN Aj K6 (fun i m hm=>l1.none (Ft i m hm)) (o2.mono ((l3.trans l4).t _)) (o3.mono (l4.t _)) o4;cbv;exact ae
theorem ID{ws:List dO}{gs:List (Option Nat)}(h:gs.length=ws.length):(ws.zip gs).map (fun x=>(x.1,true))=Wf ws:=by unfold Wf;have e:(fun x:dO×Option Nat=>(x.1,true))=(fun w:dO=>(w,true)) ∘ Prod.fst:=rfl;rw[e,<-List.map_map];congr 1;rw[<-List.unzip_fst,List.unzip_zip h.symm]
theorem Ma{d:DB}{h:ad}{v:Value}(q:gj h v d){k:Value->ad->Prop}
 (hk:∀h' c tb wb ct cw (gs:List (Option Nat)),Le h h'->h c=none->h tb=none->h wb=none->c≠tb->c≠wb->cw=d.au.length->gs.length=cw->EC gs->(∀(i m:Nat),gs[i]? =some (some m)->h m=none)->dI 55 fU h' wb cw (d.au.zip gs)->
  jh h' c tb wb ct cw d.aE (Wf d.au) d.holds d.waits 0->k (.pointer (some ⟨c,0,none⟩)) h'):Ct 48 [v] h k:=by
 obtain⟨A,hA⟩:=Ar.ex;obtain⟨b1,n1,c1,b2,n2,c2,b3,n3,c3,b4,n4,c4,rfl⟩:=q.form;refine ah A (ar T48.aA T48.bm) Tryz.func48 rfl (by kernel_rfl) ?_;cbv;refine S8 q (fun h1 tb wb n1 n2 b3 n3 c3 b4 n4 c4 gs l1 su vM g1 g2 g3 Aj K6 Ft om g5 g6=>?_);have g4:dI 55 cf h1 wb n2 (Wf d.au):=by have:=dI.map (s1:=fU) (s2:=cf) rfl (fun x=>(x.1,true)) CU om;rw[ID (by omega)]at this;exact this
 cbv;intro n h2 hn hh;have l2:Le h1 h2:=by rw[hh];exact Le.set hn
 have ht:n≠tb:=fun e=>by
  obtain⟨c,h3,-⟩:=g2.out;rw[<-e,hn]at h3;cases h3
 have hw:n≠wb:=fun e=>by
  obtain⟨c,h3,-⟩:=g4.out;rw[<-e,hn]at h3;cases h3
 have gc:=(congrFun hh n).trans af;have hc:jh h2 n tb wb n1 n2 d.aE (Wf d.au) d.holds d.waits 0:=
  ⟨n1,n2,b3,n3,c3,b4,n4,c4,0,gc,.inl ⟨rfl,rfl⟩,g1,g2.mono (l2.t _),by simp[Wf,g3],g4.mono (l2.t _),g5.mono (l2.t _),g6.mono (l2.t _)⟩
 have ae:=hk h2 n tb wb n1 n2 gs (l1.trans l2) (l1.none hn) su vM ht hw g3 Aj K6 Ft (om.mono (l2.t _)) hc;cbv;exact ae
def uG(nm:ByteArray):Bool:=decide (gJ ⟨nm,[⟨nA,2,false⟩],0,false⟩≠0)
def tC(d:DB)(s:Int)(nm:ByteArray):DB×Int:=
 if lK (cA d.au s)=true then if uG nm=true then(d,12)else match d.au[dr (cA d.au s)]? with
  |some w=>if decide ((w.marks.length:Int)>=10)=true then(d,4)else(⟨d.aE,d.au.set (dr (cA d.au s)) ⟨w.s,w.log,w.marks++[⟨nm,(w.log.length:Int)⟩]⟩,d.holds,d.waits⟩,0)
  |none=>(d,2)
 else(d,2)
theorem NZ{d:DB}{h:ad}{v:Value}(q:gj h v d)(s:Int)(nm:ByteArray){D:DB×Int}(hD:tC d s nm=D){k:Value->ad->Prop}
 (hk:W4 h D.1 D.2 k):Ct 39 [v,.int .i64 s,.string nm] h k:=by
 obtain⟨A,hA⟩:=Ar.ex;have q':=q;obtain⟨b1,n1,c1,b2,n2,c2,b3,n3,c3,b4,n4,c4,ws,rfl,-,qW,-,-,qwm⟩:=q'.out;have QX:n2=d.au.length:=by rw[qW.len,<-qwm,List.length_map]
 refine ah A (ar T39.aA T39.bm) Tryz.func39 rfl (by kernel_rfl) ?_;cbv;refine Ma q (fun h1 c tb wb ct cw gs l1 hc su vM tR rH Lz Aj K6 Ft om cs=>?_);have hgl2:gs.length=d.au.length:=by rw[Aj,Lz]
 have Uq:(d.au.zip gs).length=d.au.length:=by rw[List.length_zip];omega
 obtain⟨Z,hZ⟩:∃Z,Z=d.au.zip gs:=⟨_,rfl⟩;rw[<-hZ]at Uq om;have hZi:∀(j:Nat) (w:dO),d.au[j]? =some w->∃g,Z[j]? =some (w,g)/\gs[j]? =some g:=fun j w hj=>by
  have sw:=(List.getElem?_eq_some_iff.1 hj).1;obtain⟨g,hg⟩:=aI (xs:=gs) (i:=j) (by omega);refine⟨g,?_,hg⟩;rw[hZ,List.getElem?_zip_eq_some];exact⟨hj,hg⟩
 have hZw:Z.map (fun x=>(x.1,true))=Wf d.au:=by rw[hZ];exact ID hgl2
 have hZg:∀(j:Nat) (x:dO×Option Nat),Z[j]? =some x->gs[j]? =some x.2:=fun j x hj=>by
  rw[hZ,List.getElem?_zip_eq_some]at hj;exact hj.2
 cbv;refine oY cs s (fun h2 z t l2 hz ht=>?_);rw[mN]at ht hz;have gh:=l1.trans l2;have q2:=q.mono gh;cases t with
 |false=>
  have iZ:D=(d,2):=by rw[<-hD];unfold tC;rw[<-ht];rfl
  subst iZ;cbv;rw[show A .not false=true by rw[hA.not];rfl];cbv;refine gK q2 (fun h3 b1 n1 c1 b2 n2 c2 b3 n3 c3 b4 n4 c4 l3 kV=>?_);have ae:=hk h3 b1 n1 c1 b2 n2 c2 b3 n3 c3 b4 n4 c4 (gh.trans l3) kV;cbv;exact ae
 |true=>
  have aK:dr (cA d.au s)<d.au.length:=by have:=nz ht.symm;simpa[cA]using this
  obtain⟨w,hw⟩:=aI aK;have iZ:(if uG nm=true then((d,12):DB×Int)else if decide ((w.marks.length:Int)>=10)=true then(d,4)else(⟨d.aE,d.au.set (dr (cA d.au s)) ⟨w.s,w.log,w.marks++[⟨nm,(w.log.length:Int)⟩]⟩,d.holds,d.waits⟩,0))=D:=by rw[<-hD];unfold tC;rw[<-ht,hw];rfl
  clear hD;obtain⟨i,hi⟩:∃i,i=dr (cA d.au s):=⟨_,rfl⟩;rw[<-hi]at iZ hw hz;clear hi aK;have kh:=(List.getElem?_eq_some_iff.1 hw).1;cbv;rw[show A .not true=false by rw[hA.not];rfl];cbv;intro YD h3 hnb3 e3;have l3:Le h2 h3:=by rw[e3];exact Le.set hnb3
  have g3:=(congrFun e3 YD).trans af;have qc:Sl 165 bt h3 (.slice (some ⟨YD,0,none⟩) 1 1) [⟨nA,2,false⟩]:=bU (s:=bt) g3 (x:=⟨nA,2,false⟩) rfl;cbv;refine(FM (nm:=nm) (key:=0) (only:=false) qc).mono (fun v h4 hR=>?_);obtain⟨l4,e,rfl,he⟩:=hR;have oF:=(gh.trans l3).trans l4;generalize eu:A .aG .neq e 0=u;have fu:=eu;rw[aB A]at eu;have hmb:uG nm=u:=by unfold uG;rw[<-he];exact eu
  rw[hmb]at iZ;cbv;rw[fu];cases u with
  |true=>have iZ:((d,12):DB×Int)=D:=iZ;subst iZ;cbv;refine gK (q.mono oF) (fun h5 b1 n1 c1 b2 n2 c2 b3 n3 c3 b4 n4 c4 l5 kV=>?_);have ae:=hk h5 b1 n1 c1 b2 n2 c2 b3 n3 c3 b4 n4 c4 (oF.trans l5) kV;cbv;exact ae
  |false=>
   obtain⟨⟨w0,wf⟩,sV⟩:=aI (xs:=ws) (i:=i) (by have:=qW.len;omega);have hw0e:w0=w:=by
    have:(ws.map (·.1))[i]? =some w0:=by rw[List.getElem?_map,sV];rfl
    rw[qwm,hw]at this;cases this;rfl
   subst hw0e;obtain⟨ws',wl,wm⟩:=w0;have iZ:(if decide ((wm.length:Int)>=10)=true then((d,4):DB×Int)else(⟨d.aE,d.au.set i ⟨ws',wl,wm++[⟨nm,(wl.length:Int)⟩]⟩,d.holds,d.waits⟩,0))=D:=iZ;have BW:b2.isSome=true/\0<=z/\z<(n2:Int):=⟨qW.bu (by omega),hz.ix (by omega)⟩;cbv;refine⟨BW,?_⟩;cbv;refine BC (qW.mono (oF.t _)) sV hz.eq (fun y1 y2 y3 qm _=>?_);have KE:y2=wm.length:=qm.len;generalize eu:A .aG .geq (A .nat y2) 10=u;have fu:=eu;rw[bS A,hA.nat,KE,show Int.ofNat wm.length=(wm.length:Int)from rfl]at eu;rw[eu]at iZ;have h10f:u=false->wm.length<10:=fun e=>by
    rw[e]at eu;have:=of_decide_eq_false eu;omega
   cbv;rw[fu];cases u with
   |true=>have iZ:((d,4):DB×Int)=D:=iZ;subst iZ;cbv;refine gK (q.mono oF) (fun h5 b1 n1 c1 b2 n2 c2 b3 n3 c3 b4 n4 c4 l5 kV=>?_);have ae:=hk h5 b1 n1 c1 b2 n2 c2 b3 n3 c3 b4 n4 c4 (oF.trans l5) kV;cbv;exact ae
   |false=>
    have iZ:((⟨d.aE,d.au.set i ⟨ws',wl,wm++[⟨nm,(wl.length:Int)⟩]⟩,d.holds,d.waits⟩,0):DB×Int)=D:=iZ;have kx:wm.length<10:=h10f rfl;have tK:=(l2.trans l3).trans l4;have cs4:=cs.mono tK;have om4:=om.mono (tK.t _);refine cs4.elim (fun m1 m2 x3 m3 k3 x4 m4 k4 o g0 ho f1 f2 f3 f4 f6 f7 _=>?_);have tN:m2=d.au.length:=by rw[f3];simp[Wf]
    have cU:(some (⟨wb,0,none⟩:Addr)).isSome=true/\0<=z/\z<(m2:Int):=⟨rfl,hz.ix (by omega)⟩;obtain⟨gm,hwz,hgm⟩:=hZi i _ hw;have Yv:Sl 55 fU h4 (.slice (some ⟨wb,0,none⟩) m2 cw) Z:=om4.sl (tN.trans Uq.symm);cbv;rw[ai A];rw[ai A];refine av g0 rfl rfl ?_;cbv;refine⟨cU,?_⟩;cbv;refine Yv.oD hwz hz.eq (o:=2) (m:=1) (by simp[fU]) (fun cs1 hcs1 ag=>?_);obtain⟨lb,ln,mb,mn,mc,rfl,hql,hqm⟩:=hcs1;have hql:Sl 148 gM h4 (.slice lb ln ln) wl:=hql;have Ag:ln=wl.length:=hql.len;cbv;refine Yv.oD hwz hz.eq (o:=1) (m:=1) (by simp[fU]) (fun IB hcs2 _=>?_);obtain⟨lb',ln',mb',mn',mc',rfl,UM,-⟩:=hcs2;have UM:Sl 148 gM h4 (.slice lb' ln' ln') wl:=UM;have hln':A .nat ln'=(wl.length:Int):=by rw[hA.nat];have:=UM.len;rw[<-this];rfl
    cbv;intro tG h5 oL e5;have l5:Le h4 h5:=by rw[e5];exact Le.set oL
    have g5:=(congrFun e5 tG).trans af;have qx:=bU (s:=gF) g5 (x:=⟨nm,A .nat ln'⟩) rfl;rw[hln']at qx;cbv;refine ag _ _ l5 ?_;cbv;refine⟨⟨_,rfl,rfl⟩,?_⟩;cbv;have om5:=om4.mono (l5.t _);have FH:=cs4.mono l5;have Ka:=oF.trans l5;obtain⟨mk',hmk⟩:∃m:Ns,m=⟨nm,(wl.length:Int)⟩:=⟨_,rfl⟩;rw[<-hmk]at qx iZ;have rest:∀(h6:ad) (b6:Option Addr) (c6:Nat),cF [51,165,59,61,55,148,205,128] h5 h6->Le h h6->h6 wb=h5 wb->h6 c=h5 c->Sl 161 gF h6 (.slice b6 (mn+1) c6) (wm++[mk'])->
     (∀(j:Nat) (x:dO×Option Nat) (cs:List Value),j≠i->Z[j]? =some x->fU.R h5 cs x->cf.R h6 cs (x.1,true))->
     ∀k',(∀h7,Le h h7->h7 c=h5 c->gj h7 (.agg #[.slice (some ⟨tb,0,none⟩) m1 ct,.slice (some ⟨wb,0,none⟩) m2 cw,.slice x3 m3 k3,.slice x4 m4 k4]) D.1->k' h7)->CI h6 (A .off (A .ja (some ⟨wb,0,none⟩) z 3) 2) [.slice b6 (mn+1) c6] k':=fun h6 b6 c6 DD l6 QY Xz hs6 fO k' Fq=>by
     refine dI.X9 (s1:=fU) (s2:=cf) (A:=A) rfl (fun x=>(x.1,true)) om5 QY hwz hz.eq rfl (off:=2) (by simp[fU]) (x':=(⟨ws',wl,wm++[mk']⟩,true)) (fun h7 cs k7 t7 hR=>?_) (fun h7 cs j y k7 t7 hj hy hR=>?_) (fun h7 k7 t7 o7=>?_)
     ·obtain⟨a1,a2,a3,a4,a5,rfl,a6,-⟩:=hR;exact⟨_,_,_,_,_,_,rfl,(a6.mono (DD.sub (by decide))).mono (t7 _ (by decide)),hs6.mono (t7 _ (by decide)),fun _=>rfl⟩
     ·obtain⟨a1,a2,a3,a4,a5,a6,rfl,a7,a8,a9⟩:=fO j y cs hj hy hR;exact⟨_,_,_,_,_,_,rfl,a7.mono (t7 _ (by decide)),a8.mono (t7 _ (by decide)),a9⟩
     ·refine Fq h7 (l6.df (by simpa using vM) k7) ?_ ?_
      ·rw[<-Xz];cases hb:h6 c with
       |none=>rw[Xz,l5 _ _ g0]at hb;cases hb
       |some o=>exact k7 _ _ hb (by simpa using rH)
      ·rw[<-iZ];have Xe:cF [51,165,59,61,205] h5 h7:=(DD.sub (by decide)).trans (t7 _ (by decide));refine⟨_,_,_,_,_,_,_,_,_,_,_,_,_,rfl,(((f2.mono (l5.t _)).mono (Xe.sub (by decide))).sl f1),o7.sl ?_,(f6.mono (l5.t _)).mono (Xe.sub (by decide)),(f7.mono (l5.t _)).mono (Xe.sub (by decide)),?_⟩
       ·rw[List.length_set,List.length_map];exact tN.trans Uq.symm
       ·rw[hZw,List.map_set,AE]
    have VQ:=l5 _ _ g0;clear hZ;have Ze:∃o,h5 wb=some o:=by obtain⟨cc,vX,-⟩:=om5.out;exact⟨_,vX⟩
    have KV:mn=wm.length:=by
     rcases hqm with ⟨-,e1,-,e3⟩ | ⟨nb,-,-,e3,-⟩
     ·have e3:wm=[]:=e3;rw[e1,e3];rfl
     ·exact e3
    have Ra:Sl 161 gF h5 (.slice mb mn mc) wm:=by
     rcases hqm with ⟨-,e1,e2,e3⟩ | ⟨nb,-,e2,e3,o⟩
     ·have e3:wm=[]:=e3;rw[e1,e2,e3];exact Sl.nil
     ·rw[e2];exact(o.mono (l5.t _)).sl e3
    by_cases vU:mn+1<=mc
    ·rcases hqm with ⟨-,e1,e2,-⟩ | ⟨nb,e1,e2,e3,o⟩
     ·omega
     have e1:gm=some nb:=e1;subst e1 e2;have o5:dI 161 gF h5 nb mc wm:=o.mono (l5.t _);have hnbw:nb≠wb:=fun e=>by
      obtain⟨c1,q1,-⟩:=o5.out;obtain⟨c2,q2,-⟩:=om5.out;rw[e,q2]at q1;cases q1
     have hnbc:nb≠c:=fun e=>by
      obtain⟨c1,q1,-⟩:=o5.out;rw[e,VQ]at q1;cases q1
     have hnbn:h nb=none:=Ft i nb hgm;have hdis:∀(j:Nat) (x:dO×Option Nat) (m':Nat),j≠i->Z[j]? =some x->x.2=some m'->m'≠nb:=fun j x m' hj hx hm e=>by
      have h1:=hZg j x hx;rw[hm,e]at h1;exact hj (K6 j i nb h1 hgm)
     clear K6 Ft hZi hZg;refine o5.CE (by decide) (i:=mn) (by omega) qx vU (by omega) rfl (fun h6 m hm k6 t6 o6=>?_);rw[KV,List.take_length,List.drop_eq_nil_of_le (by omega),List.append_nil]at o6;have l06:Le h h6:=Ka.df (by simpa using hnbn) k6;have QY:h6 wb=h5 wb:=by obtain⟨o,ho⟩:=Ze;rw[ho];exact k6 _ _ ho (by simpa using hnbw.symm)
     have Xz:h6 c=h5 c:=by rw[VQ];exact k6 _ _ VQ (by simpa using hnbc.symm)
     have fO:∀(j:Nat) (x:dO×Option Nat) (cs:List Value),j≠i->Z[j]? =some x->fU.R h5 cs x->cf.R h6 cs (x.1,true):=fun j x cs hj hx hR=>by
      refine CU h6 cs x ?_;obtain⟨a1,a2,a3,a4,a5,rfl,a6,a7⟩:=hR;refine⟨a1,a2,a3,a4,a5,rfl,a6.mono (t6 _ (by decide)),?_⟩;rcases a7 with a7| ⟨m',f1,f2,f3,f4⟩
      ·exact .inl a7
      ·exact .inr ⟨m',f1,f2,f3,f4.kp k6 (by simpa using hdis j x m' hj hx f1) (t6 _ (by decide))⟩
     have nU:Sl 161 gF h6 (.slice (some ⟨nb,0,none⟩) (mn+1) mc) (wm++[mk']):=o6.sl (by simp[KV]);subst hm;cbv;refine rest h6 _ _ (t6 _ (by decide)) l06 QY Xz nU fO _ (fun h7 l7 hc7 Hq=>?_);have XH:=hc7.trans VQ;cbv;rw[ai A];refine av XH rfl rfl ?_;cbv;refine gK Hq (fun h8 b1 n1 c1 b2 n2 c2 b3 n3 c3 b4 n4 c4 l8 kV=>?_);have ae:=hk h8 b1 n1 c1 b2 n2 c2 b3 n3 c3 b4 n4 c4 (l7.trans l8) kV;rw[<-iZ]at ae;cbv;exact ae
    ·refine lM Ra qx (by omega) rfl (by decide) (by omega) (fun nb c6 h6 fk l6 hc o6=>?_);have QY:h6 wb=h5 wb:=by obtain⟨o,ho⟩:=Ze;rw[ho];exact l6 _ _ ho
     have Xz:h6 c=h5 c:=by rw[VQ];exact l6 _ _ VQ
     have fO:∀(j:Nat) (x:dO×Option Nat) (cs:List Value),j≠i->Z[j]? =some x->fU.R h5 cs x->cf.R h6 cs (x.1,true):=fun j x cs hj hx hR=>CU h6 cs x (fU.mono (l6.t _) hR);have nU:Sl 161 gF h6 (.slice (some ⟨nb,0,none⟩) (mn+1) c6) (wm++[mk']):=o6.sl (by simp[KV]);cbv;refine rest h6 _ _ (l6.t _) (Ka.trans l6) QY Xz nU fO _ (fun h7 l7 hc7 Hq=>?_);have XH:=hc7.trans VQ;cbv;rw[ai A];refine av XH rfl rfl ?_;cbv;refine gK Hq (fun h8 b1 n1 c1 b2 n2 c2 b3 n3 c3 b4 n4 c4 l8 kV=>?_);have ae:=hk h8 b1 n1 c1 b2 n2 c2 b3 n3 c3 b4 n4 c4 (l7.trans l8) kV;rw[<-iZ]at ae;cbv;exact ae
end Go.S
