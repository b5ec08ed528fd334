import Derived.Test.YtekoaiendgjkdaaGreatGB
import Derived.Test.YtekoaiendgjkdaaGreatEC
import Derived.Test.YtekoaiendgjkdaaGreatRd
set_option linter.unusedVariables false
set_option linter.unusedSimpArgs false
set_option linter.unusedSectionVars false
set_option maxRecDepth 100000
set_option maxHeartbeats 8000000
namespace Go.S
open Go.Sx Go.Proofs
theorem _root_.Go.Sx.Rows.map{α β:Type}{s1:Sh α}{s2:Sh β}(hn:s1.n=s2.n)(f:α->β)(hR:∀h cs x,s1.R h cs x->s2.R h cs (f x)){h:ad}{c:List Value}{off:Nat}{xs:List α}(r:Sx.Rows s1 h c off xs):Sx.Rows s2 h c off (xs.map f):=by
 refine⟨by rw[List.length_map,<-hn];exact r.1,fun i x hx=>?_⟩;rw[List.getElem?_map]at hx;cases hy:xs[i]? with
 |none=>rw[hy]at hx;cases hx
 |some y=>rw[hy]at hx;simp at hx;subst hx;rw[<-hn];exact hR _ _ _ (r.2 i y hy)
theorem _root_.Go.Sx.dq.map{α β:Type}{s1:Sh α}{s2:Sh β}(hn:s1.n=s2.n)(f:α->β)(hR:∀h cs x,s1.R h cs x->s2.R h cs (f x)){e:Nat}{h:ad}{nb cap:Nat}{xs:List α}(o:dq e s1 h nb cap xs):dq e s2 h nb cap (xs.map f):=by obtain⟨c,h1,h2,h3⟩:=o.out;exact⟨⟨c,h1,Sx.Rows.map hn f hR h2,by rw[<-hn];exact h3⟩,by rw[List.length_map];exact o.le,by rw[List.length_map];exact o.bd⟩
def fD:Sh (dw×Option Nat)where
 n:=3
 R h cs t:=∃b1 n1 b2 n2 c2,cs=[.int .i64 t.1.s,.slice b1 n1 n1,.slice b2 n2 c2]/\Sl 148 fO h (.slice b1 n1 n1) t.1.log/\
  ((t.2=none/\n2=0/\c2=0/\t.1.marks=[])\/∃nb,t.2=some nb/\b2=some ⟨nb,0,none⟩/\n2=t.1.marks.length/\dq 161 fN h nb c2 t.1.marks)
 len:=by rintro h cs x ⟨_,_,_,_,_,rfl,-⟩;rfl
 one:=by rintro h cs x ⟨_,_,_,_,_,rfl,-⟩;rfl
 tys:=[148,61,161]
 mono:=by
  rintro h h' cs x hl ⟨b1,n1,b2,n2,c2,rfl,q1,q2⟩;refine⟨b1,n1,b2,n2,c2,rfl,q1.mono (hl.sub (by decide)),?_⟩;rcases q2 with q2| ⟨nb,e1,e2,e3,o⟩
  ·exact .inl q2
  ·exact .inr ⟨nb,e1,e2,e3,o.mono (hl.sub (by decide))⟩
theorem Bz(h:ad)(cs:List Value)(x:dw×Option Nat)(r:fD.R h cs x):bQ.R h cs (x.1,true):=by
 obtain⟨b1,n1,b2,n2,c2,rfl,q1,q2⟩:=r;refine⟨b1,n1,n1,b2,n2,c2,rfl,q1,?_,fun _=>rfl⟩;rcases q2 with ⟨-,e1,e2,e3⟩ | ⟨nb,e1,e2,e3,o⟩
 ·rw[e1,e2];show Sl 161 fN h _ x.1.marks;rw[e3];exact Sl.nil
 ·rw[e2];exact o.sl e3
theorem FM{xs:List Ll}{h:ad}{b:Option Addr}{len cap:Nat}(q:Sl 161 fN h (.slice b len cap) xs){k:Value->ad->Prop}(Gt:∀b' h',len=0->Le h h'->k (.slice b' 0 0) h')
 (pd:∀nb c h',h nb=none->0<len->Le h h'->dq 161 fN h' nb c xs->k (.slice (some ⟨nb,0,none⟩) len c) h'):Ct 208 [.slice b len cap] h k:=by
 obtain⟨A,hA⟩:=Ar.ex;refine ah A (aq Oj.ax Oj.bm) Tryz.func208 rfl (by kernel_rfl) ?_;cbv;refine aN (fun hc=>?_) (fun hc=>?_)
 ·rw[hA.wF]at hc;have hb:b=none:=by cases b<;>simp at hc |-
  subst hb;have hl:len=0:=by
   rcases Nat.eq_zero_or_pos len with e|e
   ·exact e
   ·have:=q.bF e;cases this
  have af:=Gt none h hl (Le.refl _);cbv;exact af
 ·cbv;intro n0 h1 jU dU;have hle:Le h h1:=by rw[dU];exact Le.set jU
  cbv;refine eJ (q.mono (hle.t _)) (by simp[fN]) rfl (by decide) (fun hn=>?_) (fun nb c h2 e1 e2 e3 e4=>?_)
  ·have af:=fun b'=>Gt b' h1 hn hle;cbv;exact af _
  ·have af:=pd nb c h2 (hle.none e1) e2 (hle.trans e3) e4;cbv;exact af
theorem Mc{w:dw}{g:Bool}{h:ad}{c0 c1 c2:Value}(q:bQ.R h [c0,c1,c2] (w,g)){k:Value->ad->Prop}
 (hk:∀h' b1 n1 b2 n2 c2 (m:Option Nat),Le h h'->(∀nb,m=some nb->h nb=none)->fD.R h' [.int .i64 w.s,.slice b1 n1 n1,.slice b2 n2 c2] (w,m)->k (.agg #[.int .i64 w.s,.slice b1 n1 n1,.slice b2 n2 c2]) h'):Ct 115 [.agg #[c0,c1,c2]] h k:=by
 obtain⟨A,hA⟩:=Ar.ex;obtain⟨b1,n1,k1,b2,n2,k2,he,q1,q2,-⟩:=q;cases he;have q1:Sl 148 fO h (.slice b1 n1 k1) w.log:=q1;have q2:Sl 161 fN h (.slice b2 n2 k2) w.marks:=q2;obtain⟨ws,wl,wm⟩:=w;refine ah A (aq Oo.ax Oo.bm) Tryz.func115 rfl (by kernel_rfl) ?_;cbv;refine(JL q1).mono (fun v h1 hR=>?_);obtain⟨hle,nb,eK,rfl,ho⟩:=hR;cbv;refine FM (q2.mono (hle.t _)) (fun b' h2 hn cB=>?_) (fun yz c h2 e1 e2 cB o2=>?_)
 ·have hm:wm=[]:=by have:=q2.len;exact List.eq_nil_of_length_eq_zero (by simp only at this;omega)
  have af:=hk h2 (some ⟨nb,0,none⟩) n1 b' 0 0 none (hle.trans cB) (fun _ e=>by cases e) ⟨_,_,_,_,_,rfl,(ho.sl q1.len).mono (cB.t _),.inl ⟨rfl,rfl,rfl,hm⟩⟩;cbv;exact af
 ·have af:=hk h2 (some ⟨nb,0,none⟩) n1 (some ⟨yz,0,none⟩) n2 c (some yz) (hle.trans cB) (fun _ e=>by cases e;exact hle.none e1) ⟨_,_,_,_,_,rfl,(ho.sl q1.len).mono (cB.t _),.inr ⟨yz,rfl,rfl,q2.len,o2⟩⟩;cbv;exact af
def CZ(gs:List (Option Nat)):Prop:=∀(i j nb:Nat),gs[i]? =some (some nb)->gs[j]? =some (some nb)->i=j
theorem CZ.push{gs:List (Option Nat)}(d:CZ gs){m:Option Nat}(h:∀(i nb:Nat),gs[i]? =some (some nb)->m≠some nb):CZ (gs++[m]):=fun i j nb h1 h2=>by
 rw[List.getElem?_append]at h1 h2;split at h1<;>split at h2
 ·exact d i j nb h1 h2
 ·rename_i a b;rw[List.getElem?_singleton]at h2;split at h2
  ·cases h2;exact absurd rfl (h i nb h1)
  ·cases h2
 ·rename_i a b;rw[List.getElem?_singleton]at h1;split at h1
  ·cases h1;exact absurd rfl (h j nb h2)
  ·cases h1
 ·rw[List.getElem?_singleton]at h1 h2;split at h1
  ·split at h2
   ·omega
   ·cases h2
  ·cases h1
theorem JM{xs:List (dw×Bool)}{h:ad}{b:Option Addr}{len cap:Nat}(q:Sl 55 bQ h (.slice b len cap) xs){k:Value->ad->Prop}
 (hk:∀h' nb (gs:List (Option Nat)),Le h h'->h nb=none->gs.length=len->CZ gs->(∀(i m:Nat),gs[i]? =some (some m)->h m=none)->dq 55 fD h' nb len ((xs.map (·.1)).zip gs)->k (.slice (some ⟨nb,0,none⟩) len len) h'):
 Ct 114 [.slice b len cap,.func (.func 115) #[] #[]] h k:=by
 obtain⟨A,hA⟩:=Ar.ex;have hlen:=q.len;obtain⟨ju,iu⟩:=q.bound;refine ah A (aq Oq.ax Oq.bm) Tryz.func114 rfl (by kernel_rfl) ?_;cbv;refine ig (s:=fD) rfl (by omega) (by decide) (fun nb h1 eK hle ho=>?_);obtain⟨I,bh⟩:∃I:Nat->Int->ad->Prop,∀n z h',I n z h'=∃(i:Nat) (gs:List (Option Nat)),aP z i/\n=len-i/\i<=len/\Le h h'/\gs.length=i/\CZ gs/\(∀(j m:Nat),gs[j]? =some (some m)->h m=none/\h' m≠none/\m≠nb)/\dq 55 fD h' nb len (((xs.take i).map (·.1)).zip gs):=⟨_,fun _ _ _=>rfl⟩;cbv;refine aZ.go (G:=Int) (fun z=>[(13,.v (.int .i64 z))]) (fun _=>[]) (fun n z h'=>I n z h') len 0 ⟨?_,?_,?_⟩ (by rw[bh];exact⟨0,[],⟨rfl⟩,by omega,by omega,hle,rfl,fun _ _ _ h=>by simp at h,fun _ _ h=>by simp at h,ho⟩) ?_
 ·cbv
 ·cbv
 ·cbv
 ·intro n z h' hI;rw[bh]at hI;cbv;obtain⟨i,gs,hz,hn,hi,j6,yT,Jg,DN,oT⟩:=hI;refine aN (fun hc=>?_) (fun hc=>?_)
  ·have aI:=hz.lt hc;clear hc;obtain⟨⟨w,g⟩,hx⟩:=aD (xs:=xs) (i:=i) (by omega);have Az:b.isSome=true/\0<=z/\z<(len:Int):=⟨q.bF (by omega),hz.ix aI⟩;have mI:(some (⟨nb,0,none⟩:Addr)).isSome=true/\0<=z/\z<(len:Int):=⟨rfl,hz.ix aI⟩;have hlz:(((xs.take i).map (·.1)).zip gs).length=i:=by simp;omega
   have eX:=hz.eq;cbv;refine⟨Az,?_⟩;cbv;refine(q.mono (j6.t _)).load hx hz.eq (fun cs aJ=>?_);have hv:bQ.R h' cs (w,g):=aJ;obtain⟨b1,n1,k1,b2,n2,k2,rfl,-⟩:=aJ;cbv;refine Mc hv (fun h2 b1 n1 b2 n2 c2 m cB MU hr=>?_);cbv;refine⟨mI,?_⟩;cbv;refine(oT.mono (cB.t _)).store (by decide) (i:=i) (by omega) (by omega) (by omega) eX rfl hr (fun h3 Fj ht3 zx=>?_);rw[if_neg (by omega)]at zx;have zy:Le h h3:=(j6.trans cB).cm (by simpa using eK) Fj;have hp:I (len-(i+1)) (A .bA .add .i64 z 1) h3:=by
    rw[bh];refine⟨i+1,gs++[m],hz.succ (A:=A) (by omega),rfl,by omega,zy,by simp[yT],Jg.push (fun j mA hj e=>?_),fun j m' hj=>?_,?_⟩
    ·exact(DN j mA hj).2.1 (MU mA e)
    ·rw[List.getElem?_append]at hj;split at hj
     ·obtain⟨a1,a2,a3⟩:=DN j m' hj;refine⟨a1,?_,a3⟩;cases hb:h' m' with
      |none=>exact absurd hb a2
      |some o=>rw[Fj _ _ (cB _ _ hb) (by simpa using a3)];simp
     ·rw[List.getElem?_singleton]at hj;split at hj
      ·cases hj;have h2n:=MU m' rfl;obtain⟨_,_,_,_,_,-,-,hq⟩:=hr;rcases hq with ⟨e,-⟩ | ⟨yz,e,-,-,o⟩
       ·cases e
       ·cases e;obtain⟨cc,AA,-⟩:=o.out;have bG:m'≠nb:=fun e=>by
         obtain⟨cc2,hcc2,-⟩:=oT.out;rw[e,hcc2]at h2n;cases h2n
        refine⟨j6.none h2n,?_,bG⟩;rw[Fj _ _ AA (by simpa using bG)];simp
      ·cases hj
    ·have e2:(xs.take (i+1)).map (·.1)=(xs.take i).map (·.1)++[w]:=by rw[List.take_add_one,hx];simp
     rw[e2,List.zip_append (by simp;omega)];exact zx
   cbv;refine⟨len-(i+1),_,by omega,⟨?_,?_,?_⟩,hp⟩
   ·cbv
   ·cbv
   ·cbv
  ·have iW:=hz.ge hc;have jV:i=len:=by omega
   subst jV;rw[hlen,List.take_length,<-hlen]at oT;have af:=hk h' nb gs j6 eK yT Jg (fun j m hj=>(DN j m hj).1) oT;cbv;exact af
theorem Qw{d:DB}{h:ad}{v:Value}(q:fP h v d){k:Value->ad->Prop}
 (hk:∀h' tb wb n1 n2 b3 n3 c3 b4 n4 c4 (gs:List (Option Nat)),Le h h'->h tb=none->h wb=none->n1=d.aK.length->dq 51 cL h' tb n1 d.aK->n2=d.au.length->gs.length=n2->CZ gs->(∀(i m:Nat),gs[i]? =some (some m)->h m=none)->dq 55 fD h' wb n2 (d.au.zip gs)->Sl 205 bD h' (.slice b3 n3 c3) d.holds->Sl 205 bD h' (.slice b4 n4 c4) d.waits->
  k (.agg #[.slice (some ⟨tb,0,none⟩) n1 n1,.slice (some ⟨wb,0,none⟩) n2 n2,.slice b3 n3 c3,.slice b4 n4 c4]) h'):Ct 50 [v] h k:=by
 obtain⟨A,hA⟩:=Ar.ex;obtain⟨b1,n1,c1,b2,n2,c2,b3,n3,c3,b4,n4,c4,ws,rfl,q1,q2,q3,q4,qw⟩:=q.out;have ng:n2=d.au.length:=by rw[q2.len,<-qw,List.length_map]
 refine ah A (aq T50.ax T50.bm) Tryz.func50 rfl (by kernel_rfl) ?_;cbv;refine(D2 q1).mono (fun v h1 hR=>?_);obtain⟨l1,tb,pJ,rfl,o1⟩:=hR;cbv;refine JM (q2.mono (l1.t _)) (fun h2 wb gs l2 sY yT Jg DN o2=>?_);rw[qw]at o2;cbv;refine(rD (q3.mono ((l1.trans l2).t _))).mono (fun v h3 hR=>?_);obtain⟨l3,b3',Th,rfl,o3,-⟩:=hR;cbv;refine(rD (q4.mono (((l1.trans l2).trans l3).t _))).mono (fun v h4 hR=>?_);obtain⟨l4,b4',c4',rfl,o4,-⟩:=hR;have af:=hk h4 tb wb n1 n2 b3' n3 Th b4' n4 c4' gs (((l1.trans l2).trans l3).trans l4) pJ (l1.none sY) q1.len (o1.mono (((l2.trans l3).trans l4).t _)) ng yT Jg (fun i m hm=>l1.none (DN i m hm)) (o2.mono ((l3.trans l4).t _)) (o3.mono (l4.t _)) o4;cbv;exact af
theorem GL{ws:List dw}{gs:List (Option Nat)}(h:gs.length=ws.length):(ws.zip gs).map (fun x=>(x.1,true))=Wf ws:=by unfold Wf;have e:(fun x:dw×Option Nat=>(x.1,true))=(fun w:dw=>(w,true)) ∘ Prod.fst:=rfl;rw[e,<-List.map_map];congr 1;rw[<-List.unzip_fst,List.unzip_zip h.symm]
theorem Ke{d:DB}{h:ad}{v:Value}(q:fP h v d){k:Value->ad->Prop}
 (hk:∀h' c tb wb ct cw (gs:List (Option Nat)),Le h h'->h c=none->h tb=none->h wb=none->c≠tb->c≠wb->cw=d.au.length->gs.length=cw->CZ gs->(∀(i m:Nat),gs[i]? =some (some m)->h m=none)->dq 55 fD h' wb cw (d.au.zip gs)->
  iG h' c tb wb ct cw d.aK (Wf d.au) d.holds d.waits 0->k (.pointer (some ⟨c,0,none⟩)) h'):Ct 48 [v] h k:=by
 obtain⟨A,hA⟩:=Ar.ex;obtain⟨b1,n1,c1,b2,n2,c2,b3,n3,c3,b4,n4,c4,rfl⟩:=q.form;refine ah A (aq T48.ax T48.bm) Tryz.func48 rfl (by kernel_rfl) ?_;cbv;refine Qw q (fun h1 tb wb n1 n2 b3 n3 c3 b4 n4 c4 gs l1 pJ sY g1 g2 g3 yT Jg DN om g5 g6=>?_);have g4:dq 55 bQ h1 wb n2 (Wf d.au):=by have:=dq.map (s1:=fD) (s2:=bQ) rfl (fun x=>(x.1,true)) Bz om;rw[GL (by omega)]at this;exact this
 cbv;intro n h2 hn hh;have l2:Le h1 h2:=by rw[hh];exact Le.set hn
 have ht:n≠tb:=fun e=>by
  obtain⟨c,h3,-⟩:=g2.out;rw[<-e,hn]at h3;cases h3
 have hw:n≠wb:=fun e=>by
  obtain⟨c,h3,-⟩:=g4.out;rw[<-e,hn]at h3;cases h3
 have gc:=(congrFun hh n).trans ae;have hc:iG h2 n tb wb n1 n2 d.aK (Wf d.au) d.holds d.waits 0:=
  ⟨n1,n2,b3,n3,c3,b4,n4,c4,0,gc,.inl ⟨rfl,rfl⟩,g1,g2.mono (l2.t _),by simp[Wf,g3],g4.mono (l2.t _),g5.mono (l2.t _),g6.mono (l2.t _)⟩
 have af:=hk h2 n tb wb n1 n2 gs (l1.trans l2) (l1.none hn) pJ sY ht hw g3 yT Jg DN (om.mono (l2.t _)) hc;cbv;exact af
def tZ(nm:ByteArray):Bool:=decide (fR ⟨nm,[⟨nA,2,false⟩],0,false⟩≠0)
def sP(d:DB)(s:Int)(nm:ByteArray):DB×Int:=
 if lq (cu d.au s)=true then if tZ nm=true then(d,12)else match d.au[dC (cu d.au s)]? with
  |some w=>if decide ((w.marks.length:Int)>=10)=true then(d,4)else(⟨d.aK,d.au.set (dC (cu d.au s)) ⟨w.s,w.log,w.marks++[⟨nm,(w.log.length:Int)⟩]⟩,d.holds,d.waits⟩,0)
  |none=>(d,2)
 else(d,2)
theorem LW{d:DB}{h:ad}{v:Value}(q:fP h v d)(s:Int)(nm:ByteArray){D:DB×Int}(hD:sP d s nm=D){k:Value->ad->Prop}
 (hk:PM h D.1 D.2 k):Ct 39 [v,.int .i64 s,.string nm] h k:=by
 obtain⟨A,hA⟩:=Ar.ex;have q':=q;obtain⟨b1,n1,c1,b2,n2,c2,b3,n3,c3,b4,n4,c4,ws,rfl,-,qW,-,-,qwm⟩:=q'.out;have OV:n2=d.au.length:=by rw[qW.len,<-qwm,List.length_map]
 refine ah A (aq T39.ax T39.bm) Tryz.func39 rfl (by kernel_rfl) ?_;cbv;refine Ke q (fun h1 c tb wb ct cw gs l1 hc pJ sY rf pf GI yT Jg DN om cs=>?_);have hgl2:gs.length=d.au.length:=by rw[yT,GI]
 have Rb:(d.au.zip gs).length=d.au.length:=by rw[List.length_zip];omega
 obtain⟨Z,hZ⟩:∃Z,Z=d.au.zip gs:=⟨_,rfl⟩;rw[<-hZ]at Rb om;have hZi:∀(j:Nat) (w:dw),d.au[j]? =some w->∃g,Z[j]? =some (w,g)/\gs[j]? =some g:=fun j w hj=>by
  have rO:=(List.getElem?_eq_some_iff.1 hj).1;obtain⟨g,hg⟩:=aD (xs:=gs) (i:=j) (by omega);refine⟨g,?_,hg⟩;rw[hZ,List.getElem?_zip_eq_some];exact⟨hj,hg⟩
 have hZw:Z.map (fun x=>(x.1,true))=Wf d.au:=by rw[hZ];exact GL hgl2
 have hZg:∀(j:Nat) (x:dw×Option Nat),Z[j]? =some x->gs[j]? =some x.2:=fun j x hj=>by
  rw[hZ,List.getElem?_zip_eq_some]at hj;exact hj.2
 cbv;refine oz cs s (fun h2 z t l2 hz ht=>?_);rw[kX]at ht hz;have fH:=l1.trans l2;have q2:=q.mono fH;cases t with
 |false=>
  have eY:D=(d,2):=by rw[<-hD];unfold sP;rw[<-ht];rfl
  subst eY;cbv;rw[show A .not false=true by rw[hA.not];rfl];cbv;refine ef q2 (fun h3 b1 n1 c1 b2 n2 c2 b3 n3 c3 b4 n4 c4 l3 iJ=>?_);have af:=hk h3 b1 n1 c1 b2 n2 c2 b3 n3 c3 b4 n4 c4 (fH.trans l3) iJ;cbv;exact af
 |true=>
  have aI:dC (cu d.au s)<d.au.length:=by have:=kJ ht.symm;simpa[cu]using this
  obtain⟨w,hw⟩:=aD aI;have eY:(if tZ nm=true then((d,12):DB×Int)else if decide ((w.marks.length:Int)>=10)=true then(d,4)else(⟨d.aK,d.au.set (dC (cu d.au s)) ⟨w.s,w.log,w.marks++[⟨nm,(w.log.length:Int)⟩]⟩,d.holds,d.waits⟩,0))=D:=by rw[<-hD];unfold sP;rw[<-ht,hw];rfl
  clear hD;obtain⟨i,hi⟩:∃i,i=dC (cu d.au s):=⟨_,rfl⟩;rw[<-hi]at eY hw hz;clear hi aI;have jV:=(List.getElem?_eq_some_iff.1 hw).1;cbv;rw[show A .not true=false by rw[hA.not];rfl];cbv;intro nb3 h3 hnb3 e3;have l3:Le h2 h3:=by rw[e3];exact Le.set hnb3
  have g3:=(congrFun e3 nb3).trans ae;have qc:Sl 165 aT h3 (.slice (some ⟨nb3,0,none⟩) 1 1) [⟨nA,2,false⟩]:=bp (s:=aT) g3 (x:=⟨nA,2,false⟩) rfl;cbv;refine(D8 (nm:=nm) (key:=0) (only:=false) qc).mono (fun v h4 hR=>?_);obtain⟨l4,e,rfl,he⟩:=hR;have nN:=(fH.trans l3).trans l4;generalize eu:A .aF .neq e 0=u;have fu:=eu;rw[ay A]at eu;have hmb:tZ nm=u:=by unfold tZ;rw[<-he];exact eu
  rw[hmb]at eY;cbv;rw[fu];cases u with
  |true=>have eY:((d,12):DB×Int)=D:=eY;subst eY;cbv;refine ef (q.mono nN) (fun h5 b1 n1 c1 b2 n2 c2 b3 n3 c3 b4 n4 c4 l5 iJ=>?_);have af:=hk h5 b1 n1 c1 b2 n2 c2 b3 n3 c3 b4 n4 c4 (nN.trans l5) iJ;cbv;exact af
  |false=>
   obtain⟨⟨w0,wf⟩,wo⟩:=aD (xs:=ws) (i:=i) (by have:=qW.len;omega);have hw0e:w0=w:=by
    have:(ws.map (·.1))[i]? =some w0:=by rw[List.getElem?_map,wo];rfl
    rw[qwm,hw]at this;cases this;rfl
   subst hw0e;obtain⟨ws',wl,wm⟩:=w0;have eY:(if decide ((wm.length:Int)>=10)=true then((d,4):DB×Int)else(⟨d.aK,d.au.set i ⟨ws',wl,wm++[⟨nm,(wl.length:Int)⟩]⟩,d.holds,d.waits⟩,0))=D:=eY;have hck0:b2.isSome=true/\0<=z/\z<(n2:Int):=⟨qW.bF (by omega),hz.ix (by omega)⟩;cbv;refine⟨hck0,?_⟩;cbv;refine Ai (qW.mono (nN.t _)) wo hz.eq (fun y1 y2 y3 qm _=>?_);have Bn:y2=wm.length:=qm.len;generalize eu:A .aF .geq (A .nat y2) 10=u;have fu:=eu;rw[bO A,hA.nat,Bn,show Int.ofNat wm.length=(wm.length:Int)from rfl]at eu;rw[eu]at eY;have h10f:u=false->wm.length<10:=fun e=>by
    rw[e]at eu;have:=of_decide_eq_false eu;omega
   cbv;rw[fu];cases u with
   |true=>have eY:((d,4):DB×Int)=D:=eY;subst eY;cbv;refine ef (q.mono nN) (fun h5 b1 n1 c1 b2 n2 c2 b3 n3 c3 b4 n4 c4 l5 iJ=>?_);have af:=hk h5 b1 n1 c1 b2 n2 c2 b3 n3 c3 b4 n4 c4 (nN.trans l5) iJ;cbv;exact af
   |false=>
    have eY:((⟨d.aK,d.au.set i ⟨ws',wl,wm++[⟨nm,(wl.length:Int)⟩]⟩,d.holds,d.waits⟩,0):DB×Int)=D:=eY;have fh:wm.length<10:=h10f rfl;have sX:=(l2.trans l3).trans l4;have PD:=cs.mono sX;have om4:=om.mono (sX.t _);refine PD.elim (fun m1 m2 x3 m3 k3 x4 m4 k4 o g0 ho f1 f2 f3 f4 f6 f7 _=>?_);have tK:m2=d.au.length:=by rw[f3];simp[Wf]
    have cy:(some (⟨wb,0,none⟩:Addr)).isSome=true/\0<=z/\z<(m2:Int):=⟨rfl,hz.ix (by omega)⟩;obtain⟨gm,hwz,hgm⟩:=hZi i _ hw;have Vq:Sl 55 fD h4 (.slice (some ⟨wb,0,none⟩) m2 cw) Z:=om4.sl (tK.trans Rb.symm);cbv;rw[ai A];rw[ai A];refine ar g0 rfl rfl ?_;cbv;refine⟨cy,?_⟩;cbv;refine Vq.yE hwz hz.eq (o:=2) (m:=1) (by simp[fD]) (fun cs1 hcs1 ag=>?_);obtain⟨lb,ln,mb,mn,mc,rfl,hql,hqm⟩:=hcs1;have hql:Sl 148 fO h4 (.slice lb ln ln) wl:=hql;have xI:ln=wl.length:=hql.len;cbv;refine Vq.yE hwz hz.eq (o:=1) (m:=1) (by simp[fD]) (fun AX hcs2 _=>?_);obtain⟨lb',ln',mb',mn',mc',rfl,Rx,-⟩:=hcs2;have Rx:Sl 148 fO h4 (.slice lb' ln' ln') wl:=Rx;have hln':A .nat ln'=(wl.length:Int):=by rw[hA.nat];have:=Rx.len;rw[<-this];rfl
    cbv;intro sU h5 nR e5;have l5:Le h4 h5:=by rw[e5];exact Le.set nR
    have g5:=(congrFun e5 sU).trans ae;have qx:=bp (s:=fN) g5 (x:=⟨nm,A .nat ln'⟩) rfl;rw[hln']at qx;cbv;refine ag _ _ l5 ?_;cbv;refine⟨⟨_,rfl,rfl⟩,?_⟩;cbv;have om5:=om4.mono (l5.t _);have Bw:=PD.mono l5;have Iu:=nN.trans l5;obtain⟨mk',hmk⟩:∃m:Ll,m=⟨nm,(wl.length:Int)⟩:=⟨_,rfl⟩;rw[<-hmk]at qx eY;have rest:∀(h6:ad) (b6:Option Addr) (c6:Nat),bE [51,165,59,61,55,148,205,128] h5 h6->Le h h6->h6 wb=h5 wb->h6 c=h5 c->Sl 161 fN h6 (.slice b6 (mn+1) c6) (wm++[mk'])->
     (∀(j:Nat) (x:dw×Option Nat) (cs:List Value),j≠i->Z[j]? =some x->fD.R h5 cs x->bQ.R h6 cs (x.1,true))->
     ∀k',(∀h7,Le h h7->h7 c=h5 c->fP h7 (.agg #[.slice (some ⟨tb,0,none⟩) m1 ct,.slice (some ⟨wb,0,none⟩) m2 cw,.slice x3 m3 k3,.slice x4 m4 k4]) D.1->k' h7)->Bg h6 (A .off (A .jF (some ⟨wb,0,none⟩) z 3) 2) [.slice b6 (mn+1) c6] k':=fun h6 b6 c6 B4 l6 V5 Ul hs6 jj k' Gu=>by
     refine dq.UR (s1:=fD) (s2:=bQ) (A:=A) rfl (fun x=>(x.1,true)) om5 V5 hwz hz.eq rfl (off:=2) (by simp[fD]) (x':=(⟨ws',wl,wm++[mk']⟩,true)) (fun h7 cs k7 t7 hR=>?_) (fun h7 cs j y k7 t7 hj hy hR=>?_) (fun h7 k7 t7 o7=>?_)
     ·obtain⟨a1,a2,a3,a4,a5,rfl,a6,-⟩:=hR;exact⟨_,_,_,_,_,_,rfl,(a6.mono (B4.sub (by decide))).mono (t7 _ (by decide)),hs6.mono (t7 _ (by decide)),fun _=>rfl⟩
     ·obtain⟨a1,a2,a3,a4,a5,a6,rfl,a7,a8,a9⟩:=jj j y cs hj hy hR;exact⟨_,_,_,_,_,_,rfl,a7.mono (t7 _ (by decide)),a8.mono (t7 _ (by decide)),a9⟩
     ·refine Gu h7 (l6.cm (by simpa using sY) k7) ?_ ?_
      ·rw[<-Ul];cases hb:h6 c with
       |none=>rw[Ul,l5 _ _ g0]at hb;cases hb
       |some o=>exact k7 _ _ hb (by simpa using pf)
      ·rw[<-eY];have Gl:bE [51,165,59,61,205] h5 h7:=(B4.sub (by decide)).trans (t7 _ (by decide));refine⟨_,_,_,_,_,_,_,_,_,_,_,_,_,rfl,(((f2.mono (l5.t _)).mono (Gl.sub (by decide))).sl f1),o7.sl ?_,(f6.mono (l5.t _)).mono (Gl.sub (by decide)),(f7.mono (l5.t _)).mono (Gl.sub (by decide)),?_⟩
       ·rw[List.length_set,List.length_map];exact tK.trans Rb.symm
       ·rw[hZw,List.map_set,zq]
    have Sw:=l5 _ _ g0;clear hZ;have V4:∃o,h5 wb=some o:=by obtain⟨cc,AA,-⟩:=om5.out;exact⟨_,AA⟩
    have MU:mn=wm.length:=by
     rcases hqm with ⟨-,e1,-,e3⟩ | ⟨nb,-,-,e3,-⟩
     ·have e3:wm=[]:=e3;rw[e1,e3];rfl
     ·exact e3
    have hq5:Sl 161 fN h5 (.slice mb mn mc) wm:=by
     rcases hqm with ⟨-,e1,e2,e3⟩ | ⟨nb,-,e2,e3,o⟩
     ·have e3:wm=[]:=e3;rw[e1,e2,e3];exact Sl.nil
     ·rw[e2];exact(o.mono (l5.t _)).sl e3
    by_cases vp:mn+1<=mc
    ·rcases hqm with ⟨-,e1,e2,-⟩ | ⟨nb,e1,e2,e3,o⟩
     ·omega
     have e1:gm=some nb:=e1;subst e1 e2;have o5:dq 161 fN h5 nb mc wm:=o.mono (l5.t _);have hnbw:nb≠wb:=fun e=>by
      obtain⟨c1,q1,-⟩:=o5.out;obtain⟨c2,q2,-⟩:=om5.out;rw[e,q2]at q1;cases q1
     have hnbc:nb≠c:=fun e=>by
      obtain⟨c1,q1,-⟩:=o5.out;rw[e,Sw]at q1;cases q1
     have hnbn:h nb=none:=DN i nb hgm;have hdis:∀(j:Nat) (x:dw×Option Nat) (m':Nat),j≠i->Z[j]? =some x->x.2=some m'->m'≠nb:=fun j x m' hj hx hm e=>by
      have h1:=hZg j x hx;rw[hm,e]at h1;exact hj (Jg j i nb h1 hgm)
     clear Jg DN hZi hZg;refine o5.Bc (by decide) (i:=mn) (by omega) qx vp (by omega) rfl (fun h6 m hm k6 t6 o6=>?_);rw[MU,List.take_length,List.drop_eq_nil_of_le (by omega),List.append_nil]at o6;have l06:Le h h6:=Iu.cm (by simpa using hnbn) k6;have V5:h6 wb=h5 wb:=by obtain⟨o,ho⟩:=V4;rw[ho];exact k6 _ _ ho (by simpa using hnbw.symm)
     have Ul:h6 c=h5 c:=by rw[Sw];exact k6 _ _ Sw (by simpa using hnbc.symm)
     have jj:∀(j:Nat) (x:dw×Option Nat) (cs:List Value),j≠i->Z[j]? =some x->fD.R h5 cs x->bQ.R h6 cs (x.1,true):=fun j x cs hj hx hR=>by
      refine Bz h6 cs x ?_;obtain⟨a1,a2,a3,a4,a5,rfl,a6,a7⟩:=hR;refine⟨a1,a2,a3,a4,a5,rfl,a6.mono (t6 _ (by decide)),?_⟩;rcases a7 with a7| ⟨m',f1,f2,f3,f4⟩
      ·exact .inl a7
      ·exact .inr ⟨m',f1,f2,f3,f4.kp k6 (by simpa using hdis j x m' hj hx f1) (t6 _ (by decide))⟩
     have oK:Sl 161 fN h6 (.slice (some ⟨nb,0,none⟩) (mn+1) mc) (wm++[mk']):=o6.sl (by simp[MU]);subst hm;cbv;refine rest h6 _ _ (t6 _ (by decide)) l06 V5 Ul oK jj _ (fun h7 l7 hc7 Cy=>?_);have Us:=hc7.trans Sw;cbv;rw[ai A];refine ar Us rfl rfl ?_;cbv;refine ef Cy (fun h8 b1 n1 c1 b2 n2 c2 b3 n3 c3 b4 n4 c4 l8 iJ=>?_);have af:=hk h8 b1 n1 c1 b2 n2 c2 b3 n3 c3 b4 n4 c4 (l7.trans l8) iJ;rw[<-eY]at af;cbv;exact af
    ·refine jA hq5 qx (by omega) rfl (by decide) (by omega) (fun nb c6 h6 eK l6 hc o6=>?_);have V5:h6 wb=h5 wb:=by obtain⟨o,ho⟩:=V4;rw[ho];exact l6 _ _ ho
     have Ul:h6 c=h5 c:=by rw[Sw];exact l6 _ _ Sw
     have jj:∀(j:Nat) (x:dw×Option Nat) (cs:List Value),j≠i->Z[j]? =some x->fD.R h5 cs x->bQ.R h6 cs (x.1,true):=fun j x cs hj hx hR=>Bz h6 cs x (fD.mono (l6.t _) hR);have oK:Sl 161 fN h6 (.slice (some ⟨nb,0,none⟩) (mn+1) c6) (wm++[mk']):=o6.sl (by simp[MU]);cbv;refine rest h6 _ _ (l6.t _) (Iu.trans l6) V5 Ul oK jj _ (fun h7 l7 hc7 Cy=>?_);have Us:=hc7.trans Sw;cbv;rw[ai A];refine ar Us rfl rfl ?_;cbv;refine ef Cy (fun h8 b1 n1 c1 b2 n2 c2 b3 n3 c3 b4 n4 c4 l8 iJ=>?_);have af:=hk h8 b1 n1 c1 b2 n2 c2 b3 n3 c3 b4 n4 c4 (l7.trans l8) iJ;rw[<-eY]at af;cbv;exact af
end Go.S
