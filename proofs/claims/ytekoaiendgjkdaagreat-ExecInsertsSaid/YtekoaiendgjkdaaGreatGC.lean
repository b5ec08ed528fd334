import Derived.Test.YtekoaiendgjkdaaGreatGB
import Derived.Test.YtekoaiendgjkdaaGreatEC
import Derived.Test.YtekoaiendgjkdaaGreatRd
set_option linter.unusedVariables false
set_option linter.unusedSimpArgs false
set_option linter.unusedSectionVars false
set_option maxRecDepth 100000
set_option maxHeartbeats 8000000
namespace Go.S
open Go.Sx Go.Proofs
theorem _root_.Go.Sx.Rows.map{α β:Type}{s1:Sh α}{s2:Sh β}(hn:s1.n=s2.n)(f:α->β)(hR:∀h cs x,s1.R h cs x->s2.R h cs (f x)){h:ad}{c:List Value}{off:Nat}{xs:List α}(r:Sx.Rows s1 h c off xs):Sx.Rows s2 h c off (xs.map f):=by
 refine⟨by rw[List.length_map,<-hn];exact r.1,fun i x hx=>?_⟩;rw[List.getElem?_map]at hx;cases hy:xs[i]? with
 |none=>rw[hy]at hx;cases hx
 |some y=>rw[hy]at hx;simp at hx;subst hx;rw[<-hn];exact hR _ _ _ (r.2 i y hy)
theorem _root_.Go.Sx.dn.map{α β:Type}{s1:Sh α}{s2:Sh β}(hn:s1.n=s2.n)(f:α->β)(hR:∀h cs x,s1.R h cs x->s2.R h cs (f x)){e:Nat}{h:ad}{nb cap:Nat}{xs:List α}(o:dn e s1 h nb cap xs):dn e s2 h nb cap (xs.map f):=by obtain⟨c,h1,h2,h3⟩:=o.out;exact⟨⟨c,h1,Sx.Rows.map hn f hR h2,by rw[<-hn];exact h3⟩,by rw[List.length_map];exact o.le,by rw[List.length_map];exact o.bd⟩
def eW:Sh (dr×Option Nat)where
 n:=3
 R h cs t:=∃b1 n1 b2 n2 c2,cs=[.int .i64 t.1.s,.slice b1 n1 n1,.slice b2 n2 c2]/\Sl 148 fE h (.slice b1 n1 n1) t.1.log/\
  ((t.2=none/\n2=0/\c2=0/\t.1.marks=[])\/∃nb,t.2=some nb/\b2=some ⟨nb,0,none⟩/\n2=t.1.marks.length/\dn 161 fv h nb c2 t.1.marks)
 len:=by rintro h cs x ⟨_,_,_,_,_,rfl,-⟩;rfl
 one:=by rintro h cs x ⟨_,_,_,_,_,rfl,-⟩;rfl
 tys:=[148,61,161]
 mono:=by
  rintro h h' cs x hl ⟨b1,n1,b2,n2,c2,rfl,q1,q2⟩;refine⟨b1,n1,b2,n2,c2,rfl,q1.mono (hl.sub (by decide)),?_⟩;rcases q2 with q2| ⟨nb,e1,e2,e3,o⟩
  ·exact .inl q2
  ·exact .inr ⟨nb,e1,e2,e3,o.mono (hl.sub (by decide))⟩
theorem Az(h:ad)(cs:List Value)(x:dr×Option Nat)(r:eW.R h cs x):bO.R h cs (x.1,true):=by
 obtain⟨b1,n1,b2,n2,c2,rfl,q1,q2⟩:=r;refine⟨b1,n1,n1,b2,n2,c2,rfl,q1,?_,fun _=>rfl⟩;rcases q2 with ⟨-,e1,e2,e3⟩ | ⟨nb,e1,e2,e3,o⟩
 ·rw[e1,e2];show Sl 161 fv h _ x.1.marks;rw[e3];exact Sl.nil
 ·rw[e2];exact o.sl e3
theorem Es{xs:List Jz}{h:ad}{b:Option Addr}{len cap:Nat}(q:Sl 161 fv h (.slice b len cap) xs){k:Value->ad->Prop}(Jk:∀b' h',len=0->Le h h'->k (.slice b' 0 0) h')
 (mD:∀nb c h',h nb=none->0<len->Le h h'->dn 161 fv h' nb c xs->k (.slice (some ⟨nb,0,none⟩) len c) h'):Ct 208 [.slice b len cap] h k:=by
 obtain⟨A,hA⟩:=Ar.ex;refine af A (ar MB.aw MB.aZ) Tryz.func208 rfl (by kernel_rfl) ?_;cbv;refine aL (fun hc=>?_) (fun hc=>?_)
 ·rw[hA.vf]at hc;have hb:b=none:=by cases b<;>simp at hc |-
  subst hb;have hl:len=0:=by
   rcases Nat.eq_zero_or_pos len with e|e
   ·exact e
   ·have:=q.bF e;cases this
  have ae:=Jk none h hl (Le.refl _);cbv;exact ae
 ·cbv;intro n0 h1 jz dO;have hle:Le h h1:=by rw[dO];exact Le.set jz
  cbv;refine eH (q.mono (hle.t _)) (by simp[fv]) rfl (by decide) (fun hn=>?_) (fun nb c h2 e1 e2 e3 e4=>?_)
  ·have ae:=fun b'=>Jk b' h1 hn hle;cbv;exact ae _
  ·have ae:=mD nb c h2 (hle.none e1) e2 (hle.trans e3) e4;cbv;exact ae
theorem Ke{w:dr}{g:Bool}{h:ad}{c0 c1 c2:Value}(q:bO.R h [c0,c1,c2] (w,g)){k:Value->ad->Prop}
 (hk:∀h' b1 n1 b2 n2 c2 (m:Option Nat),Le h h'->(∀nb,m=some nb->h nb=none)->eW.R h' [.int .i64 w.s,.slice b1 n1 n1,.slice b2 n2 c2] (w,m)->k (.agg #[.int .i64 w.s,.slice b1 n1 n1,.slice b2 n2 c2]) h'):Ct 115 [.agg #[c0,c1,c2]] h k:=by
 obtain⟨A,hA⟩:=Ar.ex;obtain⟨b1,n1,k1,b2,n2,k2,he,q1,q2,-⟩:=q;cases he;have q1:Sl 148 fE h (.slice b1 n1 k1) w.log:=q1;have q2:Sl 161 fv h (.slice b2 n2 k2) w.marks:=q2;obtain⟨ws,wl,wm⟩:=w;refine af A (ar ME.aw ME.aZ) Tryz.func115 rfl (by kernel_rfl) ?_;cbv;refine(H6 q1).mono (fun v h1 hR=>?_);obtain⟨hle,nb,eJ,rfl,ho⟩:=hR;cbv;refine Es (q2.mono (hle.t _)) (fun b' h2 hn cB=>?_) (fun xy c h2 e1 e2 cB o2=>?_)
 ·have hm:wm=[]:=by have:=q2.len;exact List.eq_nil_of_length_eq_zero (by simp only at this;omega)
  have ae:=hk h2 (some ⟨nb,0,none⟩) n1 b' 0 0 none (hle.trans cB) (fun _ e=>by cases e) ⟨_,_,_,_,_,rfl,(ho.sl q1.len).mono (cB.t _),.inl ⟨rfl,rfl,rfl,hm⟩⟩;cbv;exact ae
 ·have ae:=hk h2 (some ⟨nb,0,none⟩) n1 (some ⟨xy,0,none⟩) n2 c (some xy) (hle.trans cB) (fun _ e=>by cases e;exact hle.none e1) ⟨_,_,_,_,_,rfl,(ho.sl q1.len).mono (cB.t _),.inr ⟨xy,rfl,rfl,q2.len,o2⟩⟩;cbv;exact ae
def BN(gs:List (Option Nat)):Prop:=∀(i j nb:Nat),gs[i]? =some (some nb)->gs[j]? =some (some nb)->i=j
theorem BN.push{gs:List (Option Nat)}(d:BN gs){m:Option Nat}(h:∀(i nb:Nat),gs[i]? =some (some nb)->m≠some nb):BN (gs++[m]):=fun i j nb h1 h2=>by
 rw[List.getElem?_append]at h1 h2;split at h1<;>split at h2
 ·exact d i j nb h1 h2
 ·rename_i a b;rw[List.getElem?_singleton]at h2;split at h2
  ·cases h2;exact absurd rfl (h i nb h1)
  ·cases h2
 ·rename_i a b;rw[List.getElem?_singleton]at h1;split at h1
  ·cases h1;exact absurd rfl (h j nb h2)
  ·cases h1
 ·rw[List.getElem?_singleton]at h1 h2;split at h1
  ·split at h2
   ·omega
   ·cases h2
  ·cases h1
theorem H7{xs:List (dr×Bool)}{h:ad}{b:Option Addr}{len cap:Nat}(q:Sl 55 bO h (.slice b len cap) xs){k:Value->ad->Prop}
 (hk:∀h' nb (gs:List (Option Nat)),Le h h'->h nb=none->gs.length=len->BN gs->(∀(i m:Nat),gs[i]? =some (some m)->h m=none)->dn 55 eW h' nb len ((xs.map (·.1)).zip gs)->k (.slice (some ⟨nb,0,none⟩) len len) h'):
 Ct 114 [.slice b len cap,.func (.func 115) #[] #[]] h k:=by
 obtain⟨A,hA⟩:=Ar.ex;have hlen:=q.len;obtain⟨ke,jt⟩:=q.bound;refine af A (ar MF.aw MF.aZ) Tryz.func114 rfl (by kernel_rfl) ?_;cbv;refine gV (s:=eW) rfl (by omega) (by decide) (fun nb h1 eJ hle ho=>?_);obtain⟨I,bm⟩:∃I:Nat->Int->ad->Prop,∀n z h',I n z h'=∃(i:Nat) (gs:List (Option Nat)),aO z i/\n=len-i/\i<=len/\Le h h'/\gs.length=i/\BN gs/\(∀(j m:Nat),gs[j]? =some (some m)->h m=none/\h' m≠none/\m≠nb)/\dn 55 eW h' nb len (((xs.take i).map (·.1)).zip gs):=⟨_,fun _ _ _=>rfl⟩;cbv;refine aX.go (G:=Int) (fun z=>[(13,.v (.int .i64 z))]) (fun _=>[]) (fun n z h'=>I n z h') len 0 ⟨?_,?_,?_⟩ (by rw[bm];exact⟨0,[],⟨rfl⟩,by omega,by omega,hle,rfl,fun _ _ _ h=>by simp at h,fun _ _ h=>by simp at h,ho⟩) ?_
 ·cbv
 ·cbv
 ·cbv
 ·intro n z h' hI;rw[bm]at hI;cbv;obtain⟨i,gs,hz,hn,hi,jF,xP,HF,Cu,nZ⟩:=hI;refine aL (fun hc=>?_) (fun hc=>?_)
  ·have aG:=hz.lt hc;clear hc;obtain⟨⟨w,g⟩,hx⟩:=aE (xs:=xs) (i:=i) (by omega);have vm:b.isSome=true/\0<=z/\z<(len:Int):=⟨q.bF (by omega),hz.ix aG⟩;have oV:(some (⟨nb,0,none⟩:Addr)).isSome=true/\0<=z/\z<(len:Int):=⟨rfl,hz.ix aG⟩;have hlz:(((xs.take i).map (·.1)).zip gs).length=i:=by simp;omega
   have ir:=hz.eq;cbv;refine⟨vm,?_⟩;cbv;refine(q.mono (jF.t _)).load hx hz.eq (fun cs aF=>?_);have hv:bO.R h' cs (w,g):=aF;obtain⟨b1,n1,k1,b2,n2,k2,rfl,-⟩:=aF;cbv;refine Ke hv (fun h2 b1 n1 b2 n2 c2 m cB K5 hr=>?_);cbv;refine⟨oV,?_⟩;cbv;refine(nZ.mono (cB.t _)).store (by decide) (i:=i) (by omega) (by omega) (by omega) ir rfl hr (fun h3 Aw ht3 yj=>?_);rw[if_neg (by omega)]at yj;have yp:Le h h3:=(jF.trans cB).cO (by simpa using eJ) Aw;have hp:I (len-(i+1)) (A .bu .add .i64 z 1) h3:=by
    rw[bm];refine⟨i+1,gs++[m],hz.succ (A:=A) (by omega),rfl,by omega,yp,by simp[xP],HF.push (fun j lO hj e=>?_),fun j m' hj=>?_,?_⟩
    ·exact(Cu j lO hj).2.1 (K5 lO e)
    ·rw[List.getElem?_append]at hj;split at hj
     ·obtain⟨a1,a2,a3⟩:=Cu j m' hj;refine⟨a1,?_,a3⟩;cases hb:h' m' with
      |none=>exact absurd hb a2
      |some o=>rw[Aw _ _ (cB _ _ hb) (by simpa using a3)];simp
     ·rw[List.getElem?_singleton]at hj;split at hj
      ·cases hj;have h2n:=K5 m' rfl;obtain⟨_,_,_,_,_,-,-,hq⟩:=hr;rcases hq with ⟨e,-⟩ | ⟨xy,e,-,-,o⟩
       ·cases e
       ·cases e;obtain⟨cc,vo,-⟩:=o.out;have bU:m'≠nb:=fun e=>by
         obtain⟨cc2,hcc2,-⟩:=nZ.out;rw[e,hcc2]at h2n;cases h2n
        refine⟨jF.none h2n,?_,bU⟩;rw[Aw _ _ vo (by simpa using bU)];simp
      ·cases hj
    ·have e2:(xs.take (i+1)).map (·.1)=(xs.take i).map (·.1)++[w]:=by rw[List.take_add_one,hx];simp
     rw[e2,List.zip_append (by simp;omega)];exact yj
   cbv;refine⟨len-(i+1),_,by omega,⟨?_,?_,?_⟩,hp⟩
   ·cbv
   ·cbv
   ·cbv
  ·have iu:=hz.ge hc;have jG:i=len:=by omega
   subst jG;rw[hlen,List.take_length,<-hlen]at nZ;have ae:=hk h' nb gs jF eJ xP HF (fun j m hj=>(Cu j m hj).1) nZ;cbv;exact ae
theorem OK{d:DB}{h:ad}{v:Value}(q:gA h v d){k:Value->ad->Prop}
 (hk:∀h' tb wb n1 n2 b3 n3 c3 b4 n4 c4 (gs:List (Option Nat)),Le h h'->h tb=none->h wb=none->n1=d.aB.length->dn 51 cJ h' tb n1 d.aB->n2=d.aq.length->gs.length=n2->BN gs->(∀(i m:Nat),gs[i]? =some (some m)->h m=none)->dn 55 eW h' wb n2 (d.aq.zip gs)->Sl 205 bA h' (.slice b3 n3 c3) d.holds->Sl 205 bA h' (.slice b4 n4 c4) d.waits->
  k (.agg #[.slice (some ⟨tb,0,none⟩) n1 n1,.slice (some ⟨wb,0,none⟩) n2 n2,.slice b3 n3 c3,.slice b4 n4 c4]) h'):Ct 50 [v] h k:=by
 obtain⟨A,hA⟩:=Ar.ex;obtain⟨b1,n1,c1,b2,n2,c2,b3,n3,c3,b4,n4,c4,ws,rfl,q1,q2,q3,q4,qw⟩:=q.out;have mK:n2=d.aq.length:=by rw[q2.len,<-qw,List.length_map]
 refine af A (ar Zl.aw Zl.aZ) Tryz.func50 rfl (by kernel_rfl) ?_;cbv;refine(CK q1).mono (fun v h1 hR=>?_);obtain⟨l1,tb,qG,rfl,o1⟩:=hR;cbv;refine H7 (q2.mono (l1.t _)) (fun h2 wb gs l2 tQ xP HF Cu o2=>?_);rw[qw]at o2;cbv;refine(qz (q3.mono ((l1.trans l2).t _))).mono (fun v h3 hR=>?_);obtain⟨l3,b3',Q9,rfl,o3,-⟩:=hR;cbv;refine(qz (q4.mono (((l1.trans l2).trans l3).t _))).mono (fun v h4 hR=>?_);obtain⟨l4,b4',c4',rfl,o4,-⟩:=hR;have ae:=hk h4 tb wb n1 n2 b3' n3 Q9 b4' n4 c4' gs (((l1.trans l2).trans l3).trans l4) qG (l1.none tQ) q1.len (o1.mono (((l2.trans l3).trans l4).t _)) mK xP HF (fun i m hm=>l1.none (Cu i m hm)) (o2.mono ((l3.trans l4).t _)) (o3.mono (l4.t _)) o4;cbv;exact ae
theorem E6{ws:List dr}{gs:List (Option Nat)}(h:gs.length=ws.length):(ws.zip gs).map (fun x=>(x.1,true))=Wf ws:=by unfold Wf;have e:(fun x:dr×Option Nat=>(x.1,true))=(fun w:dr=>(w,true)) ∘ Prod.fst:=rfl;rw[e,<-List.map_map];congr 1;rw[<-List.unzip_fst,List.unzip_zip h.symm]
theorem IF{d:DB}{h:ad}{v:Value}(q:gA h v d){k:Value->ad->Prop}
 (hk:∀h' c tb wb ct cw (gs:List (Option Nat)),Le h h'->h c=none->h tb=none->h wb=none->c≠tb->c≠wb->cw=d.aq.length->gs.length=cw->BN gs->(∀(i m:Nat),gs[i]? =some (some m)->h m=none)->dn 55 eW h' wb cw (d.aq.zip gs)->
  iG h' c tb wb ct cw d.aB (Wf d.aq) d.holds d.waits 0->k (.pointer (some ⟨c,0,none⟩)) h'):Ct 48 [v] h k:=by
 obtain⟨A,hA⟩:=Ar.ex;obtain⟨b1,n1,c1,b2,n2,c2,b3,n3,c3,b4,n4,c4,rfl⟩:=q.form;refine af A (ar Zm.aw Zm.aZ) Tryz.func48 rfl (by kernel_rfl) ?_;cbv;refine OK q (fun h1 tb wb n1 n2 b3 n3 c3 b4 n4 c4 gs l1 qG tQ g1 g2 g3 xP HF Cu om g5 g6=>?_);have g4:dn 55 bO h1 wb n2 (Wf d.aq):=by have:=dn.map (s1:=eW) (s2:=bO) rfl (fun x=>(x.1,true)) Az om;rw[E6 (by omega)]at this;exact this
 cbv;intro n h2 hn hh;have l2:Le h1 h2:=by rw[hh];exact Le.set hn
 have ht:n≠tb:=fun e=>by
  obtain⟨c,h3,-⟩:=g2.out;rw[<-e,hn]at h3;cases h3
 have hw:n≠wb:=fun e=>by
  obtain⟨c,h3,-⟩:=g4.out;rw[<-e,hn]at h3;cases h3
 have gc:=(congrFun hh n).trans ah;have hc:iG h2 n tb wb n1 n2 d.aB (Wf d.aq) d.holds d.waits 0:=
  ⟨n1,n2,b3,n3,c3,b4,n4,c4,0,gc,.inl ⟨rfl,rfl⟩,g1,g2.mono (l2.t _),by simp[Wf,g3],g4.mono (l2.t _),g5.mono (l2.t _),g6.mono (l2.t _)⟩
 have ae:=hk h2 n tb wb n1 n2 gs (l1.trans l2) (l1.none hn) qG tQ ht hw g3 xP HF Cu (om.mono (l2.t _)) hc;cbv;exact ae
def sC(nm:ByteArray):Bool:=decide (fx ⟨nm,[⟨nA,2,false⟩],0,false⟩≠0)
def rr(d:DB)(s:Int)(nm:ByteArray):DB×Int:=
 if kE (cm d.aq s)=true then if sC nm=true then(d,12)else match d.aq[dm (cm d.aq s)]? with
  |some w=>if decide ((w.marks.length:Int)>=10)=true then(d,4)else(⟨d.aB,d.aq.set (dm (cm d.aq s)) ⟨w.s,w.log,w.marks++[⟨nm,(w.log.length:Int)⟩]⟩,d.holds,d.waits⟩,0)
  |none=>(d,2)
 else(d,2)
theorem J5{d:DB}{h:ad}{v:Value}(q:gA h v d)(s:Int)(nm:ByteArray){D:DB×Int}(hD:rr d s nm=D){k:Value->ad->Prop}
 (hk:Rq h D.1 D.2 k):Ct 39 [v,.int .i64 s,.string nm] h k:=by
 obtain⟨A,hA⟩:=Ar.ex;have q':=q;obtain⟨b1,n1,c1,b2,n2,c2,b3,n3,c3,b4,n4,c4,ws,rfl,-,qW,-,-,qwm⟩:=q'.out;have M9:n2=d.aq.length:=by rw[qW.len,<-qwm,List.length_map]
 refine af A (ar T39.aw T39.aZ) Tryz.func39 rfl (by kernel_rfl) ?_;cbv;refine IF q (fun h1 c tb wb ct cw gs l1 hc qG tQ rI pQ H5 xP HF Cu om cs=>?_);have hgl2:gs.length=d.aq.length:=by rw[xP,H5]
 have Pm:(d.aq.zip gs).length=d.aq.length:=by rw[List.length_zip];omega
 obtain⟨Z,hZ⟩:∃Z,Z=d.aq.zip gs:=⟨_,rfl⟩;rw[<-hZ]at Pm om;have hZi:∀(j:Nat) (w:dr),d.aq[j]? =some w->∃g,Z[j]? =some (w,g)/\gs[j]? =some g:=fun j w hj=>by
  have re:=(List.getElem?_eq_some_iff.1 hj).1;obtain⟨g,hg⟩:=aE (xs:=gs) (i:=j) (by omega);refine⟨g,?_,hg⟩;rw[hZ,List.getElem?_zip_eq_some];exact⟨hj,hg⟩
 have hZw:Z.map (fun x=>(x.1,true))=Wf d.aq:=by rw[hZ];exact E6 hgl2
 have hZg:∀(j:Nat) (x:dr×Option Nat),Z[j]? =some x->gs[j]? =some x.2:=fun j x hj=>by
  rw[hZ,List.getElem?_zip_eq_some]at hj;exact hj.2
 cbv;refine nE cs s (fun h2 z t l2 hz ht=>?_);rw[lH]at ht hz;have fO:=l1.trans l2;have q2:=q.mono fO;cases t with
 |false=>
  have iy:D=(d,2):=by rw[<-hD];unfold rr;rw[<-ht];rfl
  subst iy;cbv;rw[show A .not false=true by rw[hA.not];rfl];cbv;refine fB q2 (fun h3 b1 n1 c1 b2 n2 c2 b3 n3 c3 b4 n4 c4 l3 jY=>?_);have ae:=hk h3 b1 n1 c1 b2 n2 c2 b3 n3 c3 b4 n4 c4 (fO.trans l3) jY;cbv;exact ae
 |true=>
  have aG:dm (cm d.aq s)<d.aq.length:=by have:=me ht.symm;simpa[cm]using this
  obtain⟨w,hw⟩:=aE aG;have iy:(if sC nm=true then((d,12):DB×Int)else if decide ((w.marks.length:Int)>=10)=true then(d,4)else(⟨d.aB,d.aq.set (dm (cm d.aq s)) ⟨w.s,w.log,w.marks++[⟨nm,(w.log.length:Int)⟩]⟩,d.holds,d.waits⟩,0))=D:=by rw[<-hD];unfold rr;rw[<-ht,hw];rfl
  clear hD;obtain⟨i,hi⟩:∃i,i=dm (cm d.aq s):=⟨_,rfl⟩;rw[<-hi]at iy hw hz;clear hi aG;have jG:=(List.getElem?_eq_some_iff.1 hw).1;cbv;rw[show A .not true=false by rw[hA.not];rfl];cbv;intro nb3 h3 hnb3 e3;have l3:Le h2 h3:=by rw[e3];exact Le.set hnb3
  have g3:=(congrFun e3 nb3).trans ah;have qc:Sl 165 bp h3 (.slice (some ⟨nb3,0,none⟩) 1 1) [⟨nA,2,false⟩]:=bX (s:=bp) g3 (x:=⟨nA,2,false⟩) rfl;cbv;refine(CR (nm:=nm) (key:=0) (only:=false) qc).mono (fun v h4 hR=>?_);obtain⟨l4,e,rfl,he⟩:=hR;have mZ:=(fO.trans l3).trans l4;generalize eu:A .aD .neq e 0=u;have fu:=eu;rw[aC A]at eu;have hmb:sC nm=u:=by unfold sC;rw[<-he];exact eu
  rw[hmb]at iy;cbv;rw[fu];cases u with
  |true=>have iy:((d,12):DB×Int)=D:=iy;subst iy;cbv;refine fB (q.mono mZ) (fun h5 b1 n1 c1 b2 n2 c2 b3 n3 c3 b4 n4 c4 l5 jY=>?_);have ae:=hk h5 b1 n1 c1 b2 n2 c2 b3 n3 c3 b4 n4 c4 (mZ.trans l5) jY;cbv;exact ae
  |false=>
   obtain⟨⟨w0,wf⟩,qY⟩:=aE (xs:=ws) (i:=i) (by have:=qW.len;omega);have hw0e:w0=w:=by
    have:(ws.map (·.1))[i]? =some w0:=by rw[List.getElem?_map,qY];rfl
    rw[qwm,hw]at this;cases this;rfl
   subst hw0e;obtain⟨ws',wl,wm⟩:=w0;have iy:(if decide ((wm.length:Int)>=10)=true then((d,4):DB×Int)else(⟨d.aB,d.aq.set i ⟨ws',wl,wm++[⟨nm,(wl.length:Int)⟩]⟩,d.holds,d.waits⟩,0))=D:=iy;have zF:b2.isSome=true/\0<=z/\z<(n2:Int):=⟨qW.bF (by omega),hz.ix (by omega)⟩;cbv;refine⟨zF,?_⟩;cbv;refine za (qW.mono (mZ.t _)) qY hz.eq (fun y1 y2 y3 qm _=>?_);have Hh:y2=wm.length:=qm.len;generalize eu:A .aD .geq (A .nat y2) 10=u;have fu:=eu;rw[bQ A,hA.nat,Hh,show Int.ofNat wm.length=(wm.length:Int)from rfl]at eu;rw[eu]at iy;have h10f:u=false->wm.length<10:=fun e=>by
    rw[e]at eu;have:=of_decide_eq_false eu;omega
   cbv;rw[fu];cases u with
   |true=>have iy:((d,4):DB×Int)=D:=iy;subst iy;cbv;refine fB (q.mono mZ) (fun h5 b1 n1 c1 b2 n2 c2 b3 n3 c3 b4 n4 c4 l5 jY=>?_);have ae:=hk h5 b1 n1 c1 b2 n2 c2 b3 n3 c3 b4 n4 c4 (mZ.trans l5) jY;cbv;exact ae
   |false=>
    have iy:((⟨d.aB,d.aq.set i ⟨ws',wl,wm++[⟨nm,(wl.length:Int)⟩]⟩,d.holds,d.waits⟩,0):DB×Int)=D:=iy;have lz:wm.length<10:=h10f rfl;have rC:=(l2.trans l3).trans l4;have Vi:=cs.mono rC;have om4:=om.mono (rC.t _);refine Vi.elim (fun m1 m2 x3 m3 k3 x4 m4 k4 o g0 ho f1 f2 f3 f4 f6 f7 _=>?_);have vj:m2=d.aq.length:=by rw[f3];simp[Wf]
    have cT:(some (⟨wb,0,none⟩:Addr)).isSome=true/\0<=z/\z<(m2:Int):=⟨rfl,hz.ix (by omega)⟩;obtain⟨gm,hwz,hgm⟩:=hZi i _ hw;have SP:Sl 55 eW h4 (.slice (some ⟨wb,0,none⟩) m2 cw) Z:=om4.sl (vj.trans Pm.symm);cbv;rw[aj A];rw[aj A];refine ay g0 rfl rfl ?_;cbv;refine⟨cT,?_⟩;cbv;refine SP.xD hwz hz.eq (o:=2) (m:=1) (by simp[eW]) (fun cs1 hcs1 ag=>?_);obtain⟨lb,ln,mb,mn,mc,rfl,Yz,hqm⟩:=hcs1;have Yz:Sl 148 fE h4 (.slice lb ln ln) wl:=Yz;have ym:ln=wl.length:=Yz.len;cbv;refine SP.xD hwz hz.eq (o:=1) (m:=1) (by simp[eW]) (fun E2 hcs2 _=>?_);obtain⟨lb',Ym,mb',mn',mc',rfl,PF,-⟩:=hcs2;have PF:Sl 148 fE h4 (.slice lb' Ym Ym) wl:=PF;have hln':A .nat Ym=(wl.length:Int):=by rw[hA.nat];have:=PF.len;rw[<-this];rfl
    cbv;intro tJ h5 ng e5;have l5:Le h4 h5:=by rw[e5];exact Le.set ng
    have g5:=(congrFun e5 tJ).trans ah;have qx:=bX (s:=fv) g5 (x:=⟨nm,A .nat Ym⟩) rfl;rw[hln']at qx;cbv;refine ag _ _ l5 ?_;cbv;refine⟨⟨_,rfl,rfl⟩,?_⟩;cbv;have om5:=om4.mono (l5.t _);have CM:=Vi.mono l5;have GM:=mZ.trans l5;obtain⟨mk',YD⟩:∃m:Jz,m=⟨nm,(wl.length:Int)⟩:=⟨_,rfl⟩;rw[<-YD]at qx iy;have rest:∀(h6:ad) (b6:Option Addr) (c6:Nat),cG [51,165,59,61,55,148,205,128] h5 h6->Le h h6->h6 wb=h5 wb->h6 c=h5 c->Sl 161 fv h6 (.slice b6 (mn+1) c6) (wm++[mk'])->
     (∀(j:Nat) (x:dr×Option Nat) (cs:List Value),j≠i->Z[j]? =some x->eW.R h5 cs x->bO.R h6 cs (x.1,true))->
     ∀k',(∀h7,Le h h7->h7 c=h5 c->gA h7 (.agg #[.slice (some ⟨tb,0,none⟩) m1 ct,.slice (some ⟨wb,0,none⟩) m2 cw,.slice x3 m3 k3,.slice x4 m4 k4]) D.1->k' h7)->An h6 (A .off (A .jj (some ⟨wb,0,none⟩) z 3) 2) [.slice b6 (mn+1) c6] k':=fun h6 b6 c6 Kr l6 Tu R1 hs6 j7 k' ER=>by
     refine dn.Su (s1:=eW) (s2:=bO) (A:=A) rfl (fun x=>(x.1,true)) om5 Tu hwz hz.eq rfl (off:=2) (by simp[eW]) (x':=(⟨ws',wl,wm++[mk']⟩,true)) (fun h7 cs k7 t7 hR=>?_) (fun h7 cs j y k7 t7 hj hy hR=>?_) (fun h7 k7 t7 o7=>?_)
     ·obtain⟨a1,a2,a3,a4,a5,rfl,a6,-⟩:=hR;exact⟨_,_,_,_,_,_,rfl,(a6.mono (Kr.sub (by decide))).mono (t7 _ (by decide)),hs6.mono (t7 _ (by decide)),fun _=>rfl⟩
     ·obtain⟨a1,a2,a3,a4,a5,a6,rfl,a7,a8,a9⟩:=j7 j y cs hj hy hR;exact⟨_,_,_,_,_,_,rfl,a7.mono (t7 _ (by decide)),a8.mono (t7 _ (by decide)),a9⟩
     ·refine ER h7 (l6.cO (by simpa using tQ) k7) ?_ ?_
      ·rw[<-R1];cases hb:h6 c with
       |none=>rw[R1,l5 _ _ g0]at hb;cases hb
       |some o=>exact k7 _ _ hb (by simpa using pQ)
      ·rw[<-iy];have RB:cG [51,165,59,61,205] h5 h7:=(Kr.sub (by decide)).trans (t7 _ (by decide));refine⟨_,_,_,_,_,_,_,_,_,_,_,_,_,rfl,(((f2.mono (l5.t _)).mono (RB.sub (by decide))).sl f1),o7.sl ?_,(f6.mono (l5.t _)).mono (RB.sub (by decide)),(f7.mono (l5.t _)).mono (RB.sub (by decide)),?_⟩
       ·rw[List.length_set,List.length_map];exact vj.trans Pm.symm
       ·rw[hZw,List.map_set,yh]
    have Qv:=l5 _ _ g0;clear hZ;have Tt:∃o,h5 wb=some o:=by obtain⟨cc,vo,-⟩:=om5.out;exact⟨_,vo⟩
    have K5:mn=wm.length:=by
     rcases hqm with ⟨-,e1,-,e3⟩ | ⟨nb,-,-,e3,-⟩
     ·have e3:wm=[]:=e3;rw[e1,e3];rfl
     ·exact e3
    have hq5:Sl 161 fv h5 (.slice mb mn mc) wm:=by
     rcases hqm with ⟨-,e1,e2,e3⟩ | ⟨nb,-,e2,e3,o⟩
     ·have e3:wm=[]:=e3;rw[e1,e2,e3];exact Sl.nil
     ·rw[e2];exact(o.mono (l5.t _)).sl e3
    by_cases uc:mn+1<=mc
    ·rcases hqm with ⟨-,e1,e2,-⟩ | ⟨nb,e1,e2,e3,o⟩
     ·omega
     have e1:gm=some nb:=e1;subst e1 e2;have o5:dn 161 fv h5 nb mc wm:=o.mono (l5.t _);have hnbw:nb≠wb:=fun e=>by
      obtain⟨c1,q1,-⟩:=o5.out;obtain⟨c2,q2,-⟩:=om5.out;rw[e,q2]at q1;cases q1
     have hnbc:nb≠c:=fun e=>by
      obtain⟨c1,q1,-⟩:=o5.out;rw[e,Qv]at q1;cases q1
     have hnbn:h nb=none:=Cu i nb hgm;have hdis:∀(j:Nat) (x:dr×Option Nat) (m':Nat),j≠i->Z[j]? =some x->x.2=some m'->m'≠nb:=fun j x m' hj hx hm e=>by
      have h1:=hZg j x hx;rw[hm,e]at h1;exact hj (HF j i nb h1 hgm)
     clear HF Cu hZi hZg;refine o5.Aj (by decide) (i:=mn) (by omega) qx uc (by omega) rfl (fun h6 m hm k6 t6 o6=>?_);rw[K5,List.take_length,List.drop_eq_nil_of_le (by omega),List.append_nil]at o6;have Yq:Le h h6:=GM.cO (by simpa using hnbn) k6;have Tu:h6 wb=h5 wb:=by obtain⟨o,ho⟩:=Tt;rw[ho];exact k6 _ _ ho (by simpa using hnbw.symm)
     have R1:h6 c=h5 c:=by rw[Qv];exact k6 _ _ Qv (by simpa using hnbc.symm)
     have j7:∀(j:Nat) (x:dr×Option Nat) (cs:List Value),j≠i->Z[j]? =some x->eW.R h5 cs x->bO.R h6 cs (x.1,true):=fun j x cs hj hx hR=>by
      refine Az h6 cs x ?_;obtain⟨a1,a2,a3,a4,a5,rfl,a6,a7⟩:=hR;refine⟨a1,a2,a3,a4,a5,rfl,a6.mono (t6 _ (by decide)),?_⟩;rcases a7 with a7| ⟨m',f1,f2,f3,f4⟩
      ·exact .inl a7
      ·exact .inr ⟨m',f1,f2,f3,f4.kp k6 (by simpa using hdis j x m' hj hx f1) (t6 _ (by decide))⟩
     have mJ:Sl 161 fv h6 (.slice (some ⟨nb,0,none⟩) (mn+1) mc) (wm++[mk']):=o6.sl (by simp[K5]);subst hm;cbv;refine rest h6 _ _ (t6 _ (by decide)) Yq Tu R1 mJ j7 _ (fun h7 l7 hc7 D8=>?_);have R7:=hc7.trans Qv;cbv;rw[aj A];refine ay R7 rfl rfl ?_;cbv;refine fB D8 (fun h8 b1 n1 c1 b2 n2 c2 b3 n3 c3 b4 n4 c4 l8 jY=>?_);have ae:=hk h8 b1 n1 c1 b2 n2 c2 b3 n3 c3 b4 n4 c4 (l7.trans l8) jY;rw[<-iy]at ae;cbv;exact ae
    ·refine kJ hq5 qx (by omega) rfl (by decide) (by omega) (fun nb c6 h6 eJ l6 hc o6=>?_);have Tu:h6 wb=h5 wb:=by obtain⟨o,ho⟩:=Tt;rw[ho];exact l6 _ _ ho
     have R1:h6 c=h5 c:=by rw[Qv];exact l6 _ _ Qv
     have j7:∀(j:Nat) (x:dr×Option Nat) (cs:List Value),j≠i->Z[j]? =some x->eW.R h5 cs x->bO.R h6 cs (x.1,true):=fun j x cs hj hx hR=>Az h6 cs x (eW.mono (l6.t _) hR);have mJ:Sl 161 fv h6 (.slice (some ⟨nb,0,none⟩) (mn+1) c6) (wm++[mk']):=o6.sl (by simp[K5]);cbv;refine rest h6 _ _ (l6.t _) (GM.trans l6) Tu R1 mJ j7 _ (fun h7 l7 hc7 D8=>?_);have R7:=hc7.trans Qv;cbv;rw[aj A];refine ay R7 rfl rfl ?_;cbv;refine fB D8 (fun h8 b1 n1 c1 b2 n2 c2 b3 n3 c3 b4 n4 c4 l8 jY=>?_);have ae:=hk h8 b1 n1 c1 b2 n2 c2 b3 n3 c3 b4 n4 c4 (l7.trans l8) jY;rw[<-iy]at ae;cbv;exact ae
end Go.S
