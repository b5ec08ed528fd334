import Derived.Test.YtekoaiendgjkdaaGreatQE
import Derived.Test.YtekoaiendgjkdaaGreatDB
import Derived.Test.YtekoaiendgjkdaaGreatEB
import Derived.Test.YtekoaiendgjkdaaGreatQD
import Derived.Test.YtekoaiendgjkdaaGreatQC
set_option linter.unusedVariables false
set_option linter.unusedSimpArgs false
set_option linter.unusedSectionVars false
set_option maxRecDepth 100000
set_option maxHeartbeats 8000000
namespace Go.S
open Go.Sx Go.Proofs
theorem Kz{L:List Int}{h:ad}{b:Option Addr}{n c:Nat}(q:Sl 3 dR h (.slice b n c) L)(x:Int):
 Ct 248 [.slice b n c,.int .i64 x] h (fun v h'=>h'=h/\∃z,v=.int .i64 z/\decide (0<=z)=decide (x∈L)):=by
 obtain⟨A,hA⟩:=Ar.ex;have hlen:=q.len;have vZ:=q.bound;refine ah A (ar T248.aA T248.bm) Tryz.func248 rfl (by kernel_rfl) ?_;cbv;refine aX.go (G:=Int) (fun g=>[(8,.v (.int .i64 g))]) (fun _=>[])
  (fun k g h'=>∃i:Nat,aS g i/\k=n-i/\i<=n/\h'=h/\x∉L.take i) n 0 ⟨?_,?_,?_⟩ ⟨0,⟨rfl⟩,by omega,by omega,rfl,by simp⟩ ?_
 ·cbv
 ·cbv
 ·cbv
 ·intro k z h' hI;cbv;obtain⟨i,hz,hk,hi,rfl,Ik⟩:=hI;refine aQ (fun hc=>?_) (fun hc=>?_)
  ·have aK:=hz.lt hc;clear hc;cbv;obtain⟨y,hy⟩:=aI (xs:=L) (i:=i) (by omega);refine⟨⟨q.bu (by omega),hz.ix aK⟩,?_⟩;cbv;refine q.load hy hz.eq (fun cs aC=>?_);have aC:cs=[.int .i64 y]:=aC;subst aC;have q1:A .aG .eql x y=decide (x=y):=aw A ..;cbv;rw[q1];cases e1:decide (x=y)with
   |true=>cbv;refine⟨_,rfl,?_⟩;have Ic:=of_decide_eq_true e1;rw[decide_eq_true (show 0<=z by have:=hz.eq;omega),decide_eq_true (Ic ▸ List.mem_of_getElem? hy)]
   |false=>
    have dD:=hz.succ (A:=A) (by omega);have hni2:x∉L.take (i+1):=fun hm=>by
     rw[List.take_add_one,hy]at hm;rcases List.mem_append.1 hm with h1|h1
     ·exact Ik h1
     ·exact of_decide_eq_false e1 (by simpa using h1)
    cbv;refine⟨n-(i+1),A .bA .add .i64 z 1,by omega,⟨?_,?_,?_⟩,i+1,dD,rfl,by omega,rfl,hni2⟩
    ·cbv
    ·cbv
    ·cbv
  ·have iR:=hz.ge hc;clear hc;cbv;refine⟨_,rfl,?_⟩;rw[List.take_of_length_le (by omega)]at Ik;rw[decide_eq_false Ik];rfl
theorem Cm{L:List Int}{h:ad}{b:Option Addr}{n c:Nat}(q:Sl 3 dR h (.slice b n c) L)(x:Int){k:Value->ad->Prop}(hk:∀t,t=decide (x∈L)->k (.bool t) h):
 Ct 167 [.slice b n c,.int .i64 x] h k:=by
 obtain⟨A,hA⟩:=Ar.ex;refine ah A (ar T167.aA T167.bm) Tryz.func167 rfl (by kernel_rfl) ?_;cbv;refine(Kz q x).mono (fun v h1 hR=>?_);obtain⟨e1,z,hv,hz⟩:=hR;subst e1 hv;have ae:=hk _ (show A .aG .geq z 0=_ by rw[bS A];exact hz);clear hk;cbv;exact ae
theorem rP{s:ByteArray}:∀ {cols:List bT} {k:Nat},(∀x∈cols,decide (x.name=s)=false)->fK cols s k=none
 | [],_,_=>by rw[fK]
 |c::r,k,h=>by
  rw[fK,if_neg (of_decide_eq_false (h c List.mem_cons_self))];exact rP fun x hx=>h x (List.mem_cons_of_mem _ hx)
theorem rO{s:ByteArray}:∀ {cols:List bT} {k i:Nat} {x:bT},cols[i]? =some x->decide (x.name=s)=true->(∀j,j<i->∀y,cols[j]? =some y->decide (y.name=s)=false)->fK cols s k=some (k+i)
 | [],_,_,_,h,_,_=>by simp at h
 |c::r,k,0,x,h,hx,_=>by
  have:c=x:=by simpa using h
  rw[fK,if_pos (by rw[this];exact of_decide_eq_true hx)];rfl
 |c::r,k,i+1,x,h,hx,hl=>by
  rw[fK,if_neg (of_decide_eq_false (hl 0 (by omega) c rfl)),rO (i:=i) (by simpa using h) hx (fun j hj y hy=>hl (j+1) (by omega) y (by simpa using hy))];congr 1;omega
theorem Ls{cols:List bT}{s:ByteArray}{z:Int}(h:pG cols (fun x=>decide (x.name=s)) z):nJ cols s=(max z 0,decide (z>=0)):=by
 unfold nJ;rcases h.out with ⟨e,h1⟩ | ⟨i,x,hz,h2,h3,h4⟩
 ·rw[rP h1,e];rfl
 ·rw[rO h2 h3 h4];have:=hz.eq;show(((0+i:Nat):Int),true)=_;rw[decide_eq_true (by omega),Int.max_eq_left (by omega),this];congr 1;omega
theorem findC{cols:List bT}{h:ad}{b:Option Addr}{n c:Nat}(q:Sl 165 bt h (.slice b n c) cols){nm s:ByteArray}{key:Int}{only:Bool}{k:Value->ad->Prop}(hk:∀h' z t,Le h h'->(z,t)=nJ cols s->k (.tuple #[.int .i64 z,.bool t]) h'):
 Ct 91 [.agg #[.string nm,.slice b n c,.int .i64 key,.bool only],.string s] h k:=
 (Lu q).mono (fun v h' hR=>by
  obtain⟨l,z,t,z',hv,hi,e1,e2⟩:=hR;rw[hv];exact hk h' z t l (by rw[Ls hi,e1,e2]))
theorem Lt{cols:List bT}{s:ByteArray}{z:Int}(h:nJ cols s=(z,true)):0<=z/\z<cols.length:=by
 have key:∀(cols:List bT) (k i:Nat),fK cols s k=some i->k<=i/\i<k+cols.length:=fun cols=>by
  induction cols with
  |nil=>intro k i h;rw[fK]at h;cases h
  |cons c r ih=>
   intro k i h;rw[fK]at h;split at h
   ·cases h;simp only[List.length_cons];omega
   ·have:=ih _ _ h;simp only[List.length_cons];omega
 unfold nJ at h;cases hf:fK cols s 0 with
 |none=>rw[hf]at h;cases h
 |some i=>rw[hf]at h;have:=key cols 0 i hf;cases h;omega
structure Qv(B h:ad)(ob:Nat)(l:List Int):Prop where
 out:∃b n c,h ob=some (.cells #[.slice b n c] 240 (0,0))/\cX 3 dR B h (.slice b n c) l
 le:Le B h
 no:B ob=none
theorem mU(cols:List bT)(nm:ByteArray)(r:List ByteArray)(l:List Int):gS cols (nm::r) l=match nJ cols nm with
 | (k,is)=>if is=false then(l,2)else if k∈l then(l,7)else gS cols r (l++[k]):=rfl
theorem VU{B h:ad}{ob:Nat}{l:List Int}(qo:Qv B h ob l)(hl:l.length<=2^30){tb:Nat}{T:cE}{b1:Option Addr}{n1 c1:Nat}{b2:Option Addr}{n2 c2:Nat}(gt:B tb=some (.cells #[.string T.S.name,.slice b1 n1 c1,.int .i64 T.S.key,.bool T.S.only,.slice b2 n2 c2] 51 (0,0)))(qc:Sl 165 bt B (.slice b1 n1 c1) T.S.cols)(nm:ByteArray){kk:Int}{is:Bool}(hf:nJ T.S.cols nm=(kk,is))
 {k:Value->ad->Prop} (hk:∀h' l',Qv B h' ob l'->l'=(if is=false then l else if kk∈l then l else l++[kk])->k (.int .i64 (if is=false then 2 else if kk∈l then 7 else 0)) h'):
 Ct 166 [.string nm,.pointer (some ⟨tb,0,none⟩),.pointer (some ⟨ob,0,none⟩)] h k:=by
 obtain⟨A,hA⟩:=Ar.ex;have l0:=qo.le;have gB:=qo.no;obtain⟨b,n,c,go,qb⟩:=qo.out;have BY:=qb.sl.len;have gt0:=l0 _ _ gt;refine ah A (ar T166.aA T166.bm) Tryz.func166 rfl (by kernel_rfl) ?_;cbv;repeat (first| (rw[ai A,ai A];refine av gt0 rfl rfl ?_;cbv) | (rw[ai A];refine av gt0 rfl rfl ?_;cbv) | (refine av gt0 rfl rfl ?_;cbv) | (refine⟨⟨_,rfl,rfl⟩,?_⟩;cbv))
 refine findC (qc.mono (l0.t _)) (fun h1 z t l1 hz=>?_);rw[hf]at hz;obtain⟨rfl,rfl⟩:z=kk/\t=is:=by cases hz;exact⟨rfl,rfl⟩
 clear hf;have SS:Qv B h1 ob l:=⟨⟨b,n,c,l1 _ _ go,qb.mono (l1.t _)⟩,l0.trans l1,gB⟩;have uh:A .not t= !t:=by rw[hA.not]
 cases t with
 |false=>have ae:=hk h1 l SS rfl;rw[if_pos rfl]at ae;clear hk;cbv;rw[uh];cbv;exact ae
 |true=>
  simp only[Bool.true_eq_false,if_false]at hk;cbv;rw[uh];cbv;have Ee:=l1 _ _ go;repeat (first| (rw[ai A,ai A];refine av Ee rfl rfl ?_;cbv) | (rw[ai A];refine av Ee rfl rfl ?_;cbv) | (refine av Ee rfl rfl ?_;cbv) | (refine⟨⟨_,rfl,rfl⟩,?_⟩;cbv))
  refine Cm (qb.sl.mono (l1.t _)) z (fun t ht=>?_);by_cases hm:z∈l
  ·have ht:t=true:=by rw[ht];exact decide_eq_true hm
   subst ht;have ae:=hk h1 l SS (by rw[if_pos hm]);rw[if_pos hm]at ae;clear hk;cbv;exact ae
  ·have ht:t=false:=by rw[ht];exact decide_eq_false hm
   subst ht;simp only[if_neg hm]at hk;cbv;repeat (first| (rw[ai A,ai A];refine av Ee rfl rfl ?_;cbv) | (rw[ai A];refine av Ee rfl rfl ?_;cbv) | (refine av Ee rfl rfl ?_;cbv) | (refine⟨⟨_,rfl,rfl⟩,?_⟩;cbv))
   intro n2 h2 g2 e2;have l2:Le h1 h2:=by rw[e2];exact Le.set g2
   have v2:Sl 3 dR h2 (.slice (some ⟨n2,0,none⟩) 1 1) [z]:=bU (s:=dR) ((congrFun e2 n2).trans af) rfl;have go2:=l2 _ _ Ee;clear e2;cbv;refine(qb.mono ((l1.trans l2).t _)).append v2 (by decide) rfl (by decide) (by omega) (l0.trans (l1.trans l2)) (fun m3 b3 c3 h3 XK l3 t3 k3 nP=>?_);have Iw:h3 ob=some (.cells #[.slice b n c] 240 (0,0)):=t3 [240] (by decide) _ _ _ _ (List.mem_singleton.2 rfl) go2;clear t3 k3 v2;cbv;refine jz Iw (by simp) (fun h4 e4=>?_);have ae:=hk h4 (l++[z]) ⟨⟨b3,m3,c3,by rw[e4];exact af,nP.mono (by rw[e4];exact cF.set Iw (by decide))⟩,fun b' o' nj=>by rw[e4,aP (fun e=>by rw[e,gB]at nj;cases nj)];exact l3 _ _ nj,gB⟩ rfl;clear hk e4;cbv;exact ae
theorem vy{cols:List bT}:∀ {names:List ByteArray} {l:List Int},(∀k∈l,0<=k/\k<cols.length)->∀k∈(gS cols names l).1,0<=k/\k<cols.length
 | [],l,h=>h
 |nm::r,l,h=>by
  rw[mU];cases hf:nJ cols nm with
  |mk k is=>
   show ∀x∈(if is=false then(l,2)else if k∈l then(l,7)else gS cols r (l++[k]):List Int×Int).1,_;split
   ·exact h
   ·split
    ·exact h
    ·rename_i h1 h2;have h1:is=true:=by cases is<;>simp at h1 |-
     subst h1;refine vy fun x hx=>?_;rcases List.mem_append.1 hx with hx|hx
     ·exact h x hx
     ·rw[List.mem_singleton.1 hx];exact Lt hf
theorem tD{cols:List bT}:∀ {names:List ByteArray} {l:List Int},(gS cols names l).1.length<=l.length+names.length
 | [],l=>Nat.le_refl _
 |nm::r,l=>by
  rw[mU];cases hf:nJ cols nm with
  |mk k is=>
   show(if is=false then(l,2)else if k∈l then(l,7)else gS cols r (l++[k]):List Int×Int).1.length<=_;split
   ·show l.length<=_;omega
   ·split
    ·show l.length<=_;omega
    ·have:=tD (cols:=cols) (names:=r) (l:=l++[k]);simp only[List.length_append,List.length_cons,List.length_nil]at this |-;omega
theorem BE(cols tz:List bT)(x:List Nd)(k:Int)(r:List (List Nd×Int)):gZ cols tz ((x,k)::r)=if fI x cols (px tz k)≠0 then fI x cols (px tz k)else gZ cols tz r:=rfl
theorem KA(a b:Nat):((min a b:Nat):Int)=min (a:Int) (b:Int):=by omega
theorem VT{h:ad}{pb:Nat}{d:DB}{s:Int}{st:az}(q:dS h pb d s st)(hx:eG st){T:cE}(hT:R4 T){b1:Option Addr}{n1 c1:Nat}{b2:Option Addr}{n2 c2:Nat}(EX:Sl 165 bt h (.slice b1 n1 c1) T.S.cols)
 {k:Value->ad->Prop} (hk:∀h',Le h h'->k (.int .i64 (jL T st)) h'):Ct 86 [.pointer (some ⟨pb,0,none⟩),.agg #[.string T.S.name,.slice b1 n1 c1,.int .i64 T.S.key,.bool T.S.only,.slice b2 n2 c2]] h k:=by
 obtain⟨A,hA⟩:=Ar.ex;have hcF:∀c∈aJ T,Nm c.name:=fun c xF=>by
  obtain⟨c0,h1,h2⟩:=List.mem_map.1 xF;rw[<-h2];exact sd hT.nm (hT.uN c0 h1)
 have hP:jL T st=match gS T.S.cols st.names []with
  | (pl,e)=>if e≠0 then e else if gZ (aJ T) T.S.cols (st.exprs.zip pl)≠0 then gZ (aJ T) T.S.cols (st.exprs.zip pl)else aF st.bM (aJ T):=rfl
 generalize jL T st=D at *;refine q.elim (fun WM Tp WC WJ To WA WI Tn Wy WH Tm Wx Nr MK Nn Nq MJ Nl Np MI Nk Ml E2 FP No MH Nj xJ xu xI g qd q1 q2 q3 q4 q5 q6=>?_);clear q1 q2 q5 qd;refine ah A (ar T86.aA T86.bm) Tryz.func86 rfl (by kernel_rfl) ?_;cbv;intro tb h1 f1 e1;have l1:Le h h1:=by rw[e1];exact Le.set f1
 have VJ:h1 tb=some (.cells #[.string T.S.name,.slice b1 n1 c1,.int .i64 T.S.key,.bool T.S.only,.slice b2 n2 c2] 51 (0,0)):=by rw[e1];exact af
 clear e1;cbv;repeat (first| (rw[ai A,ai A];refine av VJ rfl rfl ?_;cbv) | (rw[ai A];refine av VJ rfl rfl ?_;cbv) | (refine av VJ rfl rfl ?_;cbv) | (refine⟨⟨_,rfl,rfl⟩,?_⟩;cbv))
 refine mH hT.nm.nm (fun c hh=>(hT.uN c hh).nm) (EX.mono (l1.t _)) T.S.key T.S.only b2 n2 c2 (fun h2 cb cn cc l2 qb=>?_);rw[<-tY]at qb;cbv;intro ob h3 f3 e3;have l3:Le h2 h3:=by rw[e3];exact Le.set f3
 have Iw:h3 ob=some (.cells #[.slice none 0 0] 240 (0,0)):=by rw[e3];exact af
 have lB:Le h2 (Sx.de h3 ob):=fun b o hb=>by
  rw[Sx.eQ (fun e=>by rw[e,f3]at hb;cases hb)];exact l3 _ _ hb
 clear e3;obtain⟨B,hB⟩:∃B,B=Sx.de h3 ob:=⟨_,rfl⟩;rw[<-hB]at lB;have XC:Le B h3:=by rw[hB];exact Sx.fJ h3 ob
 have VB:B ob=none:=by rw[hB];exact Sx.dX h3 ob
 have ko:=l1.trans l2;have zP:Le h B:=ko.trans lB;have g3:=(zP.trans XC) _ _ g;have gtB:=lB _ _ (l2 _ _ VJ);have um:=q3.len;have rC:=hx.nlen;obtain⟨P,RA⟩:∃P,gS T.S.cols st.names []=P:=⟨_,rfl⟩;rw[RA]at hP;have mC:=vy (cols:=T.S.cols) (names:=st.names) (l:=[]) (fun k hk=>by cases hk);have MT:=tD (cols:=T.S.cols) (names:=st.names) (l:=[]);rw[RA]at mC MT;obtain⟨I,bl⟩:∃I:Nat->ad->Prop,∀i h',I i h'=∃l,Qv B h' ob l/\l.length<=i/\gS T.S.cols (st.names.drop i) l=P:=⟨_,fun _ _=>rfl⟩;have hJ:I 0 h3:=by rw[bl];exact⟨[],⟨⟨none,0,0,Iw,cX.nil⟩,XC,VB⟩,Nat.le_refl _,RA⟩
 clear hB RA;cbv;repeat (first| (rw[ai A,ai A];refine av g3 rfl rfl ?_;cbv) | (rw[ai A];refine av g3 rfl rfl ?_;cbv) | (refine av g3 rfl rfl ?_;cbv) | (refine⟨⟨_,rfl,rfl⟩,?_⟩;cbv))
 refine Hz um I hJ (fun i h' hI=>?_) (fun i nm h' hi G8 hI _=>?_) (fun h' hI=>?_)
 ·rw[bl]at hI;obtain⟨l,qo,-⟩:=hI;exact q3.mono ((zP.trans qo.le).t _)
 ·rw[bl]at hI;obtain⟨l,qo,qJ,he⟩:=hI;have hd:st.names.drop i=nm::st.names.drop (i+1):=by obtain⟨h1,h2⟩:=List.getElem?_eq_some_iff.1 G8;rw[List.drop_eq_getElem_cons h1,h2]
  rw[hd,mU]at he;cases hf:nJ T.S.cols nm with
  |mk kk is=>
   rw[hf]at he;replace he:(if is=false then(l,2)else if kk∈l then(l,7)else gS T.S.cols (st.names.drop (i+1)) (l++[kk]))=P:=he;refine VU qo (by omega) gtB (EX.mono (zP.t _)) nm hf (fun h4 l' Dp D6=>⟨_,rfl,fun h0=>?_,fun h0=>?_⟩)
   ·by_cases Hm:is=false
    ·rw[if_pos Hm]at h0;cases h0
    ·rw[if_neg Hm]at h0 he D6;by_cases hm:kk∈l
     ·rw[if_pos hm]at h0;cases h0
     ·rw[if_neg hm]at he D6;rw[bl];refine⟨l',Dp,?_,by rw[D6];exact he⟩;rw[D6,List.length_append,List.length_singleton];omega
   ·have hPP:P.2=(if is=false then 2 else if kk∈l then 7 else 0):=by
     by_cases Hm:is=false
     ·rw[if_pos Hm]at he |-;rw[<-he]
     ·rw[if_neg Hm]at he h0 |-;by_cases hm:kk∈l
      ·rw[if_pos hm]at he |-;rw[<-he]
      ·rw[if_neg hm]at h0;exact absurd rfl h0
    rw[<-hPP]at h0 |-;obtain⟨pl,pe⟩:=P;replace h0:pe≠0:=h0;replace hP:D=if pe≠0 then pe else if gZ (aJ T) T.S.cols (st.exprs.zip pl)≠0 then gZ (aJ T) T.S.cols (st.exprs.zip pl)else aF st.bM (aJ T):=hP
    rw[if_pos h0]at hP;subst hP;have ae:=hk h4 (zP.trans Dp.le);have fe:A .aG .neq D 0=true:=by rw[aB A];exact decide_eq_true h0
    clear hk bl hJ;cbv;rw[fe];cbv;exact ae
 ·rw[bl]at hI;obtain⟨pl,qo,qJ,he⟩:=hI;rw[List.drop_of_length_le (by omega)]at he;replace he:(pl,0)=P:=he;subst he;replace hP:D=if gZ (aJ T) T.S.cols (st.exprs.zip pl)≠0 then gZ (aJ T) T.S.cols (st.exprs.zip pl)else aF st.bM (aJ T):=hP
  replace mC:∀k∈pl,0<=k/\k<T.S.cols.length:=mC;replace mC:∀k∈pl,∃j,aS k j/\j<T.S.cols.length:=fun k hk=>⟨k.toNat,⟨by have:=mC k hk;omega⟩,by have:=mC k hk;omega⟩;obtain⟨ib,ip,ic,gi,qi⟩:=qo.out;have qi:=qi.sl;have hip:=qi.len;have Xg:=zP.trans qo.le;have g':=Xg _ _ g;have gt':=qo.le _ _ gtB;have q4':=q4.mono (Xg.t _);have xq:=q6.mono (Xg.t _);have qcl':=EX.mono (Xg.t _);have QG:=qb.sl.mono ((lB.trans qo.le).t _);have O3:=q4.len;have Ld:=EX.len;have hexl:=hx.len;have hexo:=hx.exprs;have hebd:=q4.bound;have HA:A .aG .neq 0 0=false:=by rw[aB A];rfl
  obtain⟨m,hm⟩:∃m,A .lq (A .nat E2) (A .nat ip)=m:=⟨_,rfl⟩;have KU:aS m (min E2 ip):=⟨by rw[<-hm,hA.lq,hA.nat];exact(KA E2 ip).symm⟩;obtain⟨M,hMe⟩:∃M,M=min E2 ip:=⟨_,rfl⟩;rw[<-hMe]at KU;have cU:0<=m/\m<=(FP:Int):=by have:=KU.eq;omega
  have ZT:=dM (A:=A) KU;obtain⟨ni,hEB⟩:∃ni,A .cut Ml 0 (A .nat FP) 1=ni:=⟨_,rfl⟩;have nS:Sl 42 fB h' (.slice ni M FP) (st.exprs.take M):=by rw[<-hEB];exact Sl.ET (q4'.tA (A:=A) (z:=A .nat FP) (i:=M) (by omega) rfl rfl) (by omega)
  obtain⟨K,hK⟩:∃K,gZ (aJ T) T.S.cols (st.exprs.zip pl)=K:=⟨_,rfl⟩;rw[hK]at hP;have G5:(st.exprs.zip pl).length=M:=by rw[List.length_zip,hMe,<-O3,<-hip]
  obtain⟨J,eR⟩:∃J:Nat->Int->ad->Prop,∀mm z h2,J mm z h2=∃i,aS z i/\i<=M/\mm=M-i/\Le h' h2/\gZ (aJ T) T.S.cols ((st.exprs.zip pl).drop i)=K:=⟨_,fun _ _ _=>rfl⟩;have XA:J M 0 h':=by rw[eR];exact⟨0,⟨rfl⟩,Nat.zero_le _,rfl,Le.refl _,hK⟩
  clear bl hJ hK;cbv;rw[HA];cbv;repeat (first| (rw[ai A,ai A];refine av g' rfl rfl ?_;cbv) | (rw[ai A];refine av g' rfl rfl ?_;cbv) | (refine av g' rfl rfl ?_;cbv) | (rw[ai A,ai A];refine av gi rfl rfl ?_;cbv) | (rw[ai A];refine av gi rfl rfl ?_;cbv) | (refine av gi rfl rfl ?_;cbv) | (refine⟨⟨_,rfl,rfl⟩,?_⟩;cbv))
  rw[hm];refine⟨cU,?_⟩;cbv;rw[ZT,hEB];refine aX.go (G:=Int) (fun z=>[(39,.v (.int .i64 z))]) (fun _=>[]) (fun mm z h2=>J mm z h2) M 0 ⟨?_,?_,?_⟩ XA ?_
  ·cbv
  ·cbv
  ·cbv
  ·intro mm z h4 hI;rw[eR]at hI;cbv;obtain⟨i,hz,hi,D4,l4,hK⟩:=hI;have f1:A .aG .lss z (A .nat M)=decide (i<M):=hz.gy (aS.nat M);rw[f1];by_cases aK:i<M
   ·obtain⟨⟨x,kk⟩,Fh⟩:=aI (xs:=st.exprs.zip pl) (i:=i) (by omega);obtain⟨Ux,Uw⟩:=List.getElem?_zip_eq_some.1 Fh;replace Ux:st.exprs[i]? =some x:=Ux;replace Uw:pl[i]? =some kk:=Uw;have hxt:(st.exprs.take M)[i]? =some x:=by rw[List.getElem?_take,if_pos aK];exact Ux
    obtain⟨pc,hjk,sw⟩:=mC kk (List.mem_of_getElem? Uw);obtain⟨tc,htc⟩:=aI (xs:=T.S.cols) (i:=pc) (by omega);have KY:=hjk.eq;have kW:0<=z/\z<(M:Int):=hz.ix aK;have ur:0<=z/\z<(ip:Int):=hz.ix (by omega);have Ea:0<=kk/\kk<(n1:Int):=hjk.ix (by omega);have fA:=hz.eq;have dD:=hz.succ (A:=A) (by omega);have j0:M-(i+1)<mm:=by omega
    have Lf:px T.S.cols kk=tc.kind:=by
     have:kk.toNat=pc:=by rw[KY];exact Int.toNat_natCast pc
     unfold px;rw[this,htc]
    have AP:(st.exprs.zip pl).drop i=(x,kk)::(st.exprs.zip pl).drop (i+1):=by obtain⟨h1,h2⟩:=List.getElem?_eq_some_iff.1 Fh;rw[List.drop_eq_getElem_cons h1,h2]
    rw[AP,BE,Lf]at hK;have jt:∀h5,Le h' h5->gZ (aJ T) T.S.cols ((st.exprs.zip pl).drop (i+1))=K->J (M-(i+1)) (A .bA .add .i64 z 1) h5:=fun h5 l5 K2=>by
     rw[eR];exact⟨i+1,dD,aK,rfl,l5,K2⟩
    have hxo:=hexo x (List.mem_of_getElem? Ux);have qE4:=nS.mono (l4.t _);have qi4:=qi.mono (l4.t _);have qc4:=qcl'.mono (l4.t _);have gi4:=l4 _ _ gi;have Hv:=l4 _ _ gt';have fh:=qE4.bu (by omega:0<M);have Ij:=qi4.bu (by omega:0<ip);have hs3:=qc4.bu (by omega:0<n1);clear eR XA dD;rw[decide_eq_true aK];cbv;refine⟨⟨fh,kW⟩,?_⟩;cbv;refine iO qE4 hxt fA (fun xb xn xc qx=>?_);cbv;repeat (first| (rw[ai A,ai A];refine av Hv rfl rfl ?_;cbv) | (rw[ai A];refine av Hv rfl rfl ?_;cbv) | (refine av Hv rfl rfl ?_;cbv) | (rw[ai A,ai A];refine av gi4 rfl rfl ?_;cbv) | (rw[ai A];refine av gi4 rfl rfl ?_;cbv) | (refine av gi4 rfl rfl ?_;cbv) | (refine⟨⟨_,rfl,rfl⟩,?_⟩;cbv))
    refine⟨⟨Ij,ur⟩,?_⟩;cbv;refine qi4.load Uw fA (fun cs aC=>?_);have aC:cs=[.int .i64 kk]:=aC;subst aC;cbv;refine⟨⟨hs3,Ea⟩,?_⟩;cbv;refine qc4.eE htc KY (o:=1) (m:=1) (by decide) (fun cs aC=>?_);obtain⟨uN,Cr,FK⟩:=tc;have aC:cs=[.string uN,.int .i64 Cr,.bool FK]:=aC;subst aC;replace hK:(if fI x (aJ T) Cr≠0 then fI x (aJ T) Cr else gZ (aJ T) T.S.cols ((st.exprs.zip pl).drop (i+1)))=K:=hK;cbv;refine zW hxo hcF Cr qx (QG.mono (l4.t _)) (fun h5 e l5 he=>?_);rw[<-he]at hK;have fe:A .aG .neq e 0=decide (e≠0):=aB A ..;cbv;rw[fe];by_cases h0:e≠0
    ·rw[if_pos h0]at hK;rw[<-hK,if_pos h0]at hP;subst hP;have ae:=hk h5 (Xg.trans (l4.trans l5));clear hk jt;rw[decide_eq_true h0];cbv;exact ae
    ·rw[if_neg h0]at hK;have ae:=jt h5 (l4.trans l5) hK;clear hk jt;rw[decide_eq_false h0];cbv;refine⟨M-(i+1),A .bA .add .i64 z 1,j0,⟨?_,?_,?_⟩,ae⟩
     ·cbv
     ·cbv
     ·cbv
   ·rw[List.drop_of_length_le (by omega)]at hK;replace hK:0=K:=hK;rw[<-hK,if_neg (fun g=>g rfl)]at hP;have g4:=l4 _ _ g';clear eR XA;rw[decide_eq_false aK];cbv;repeat (first| (rw[ai A,ai A];refine av g4 rfl rfl ?_;cbv) | (rw[ai A];refine av g4 rfl rfl ?_;cbv) | (refine av g4 rfl rfl ?_;cbv) | (refine⟨⟨_,rfl,rfl⟩,?_⟩;cbv))
    refine ns hx.bM hcF (xq.mono (l4.t _)) (QG.mono (l4.t _)) (fun h5 e l5 he=>?_);rw[<-hP]at he;subst he;have ae:=hk h5 (Xg.trans (l4.trans l5));clear hk;cbv;exact ae
theorem setsE_cons(cols:List bT)(v:dg)(nm:ByteArray)(l:List (dg×ByteArray))(r:Row):QB cols ((v,nm)::l) r=QB cols l (r.set (nJ cols nm).1.toNat v):=rfl
theorem setsE_in{cols:List bT}:∀ {l:List (dg×ByteArray)} {r:Row},(∀p∈l,lj p.1)->fM r->fM (QB cols l r)
 | [],r,_,h=>h
 | (v,nm)::l,r,hl,h=>by
  rw[setsE_cons];refine setsE_in (fun p hp=>hl p (List.mem_cons_of_mem _ hp)) fun x hx=>?_;rcases List.mem_or_eq_of_mem_set hx with hx|hx
  ·exact h x hx
  ·rw[hx];exact hl _ List.mem_cons_self
theorem valuesP_len{xs:List (List Nd)}{cols:List bT}{r l:Row}{e:Int}(h:bG xs cols r=(l,e)):l.length=xs.length\/l=[]:=by
 have key:∀ {xs:List (List Nd)} {m l:Row} {e:Int},oa cols r xs m=(l,e)->l.length=m.length+xs.length\/l=[]:=by
  intro xs;induction xs with
  |nil=>intro m l e h;cases h;exact .inl rfl
  |cons x xs ih=>
   intro m l e h;rw[uR]at h;generalize eA x cols r=p at h;obtain⟨v,f⟩:=p;have h:(if f≠0 then([],f)else oa cols r xs (m++[v]))=(l,e):=h;by_cases hf:f≠0
   ·rw[if_pos hf]at h;cases h;exact .inr rfl
   ·rw[if_neg hf]at h;rcases ih h with g|g
    ·left;simp at g |-;omega
    ·exact .inr g
 have:=key (m:=[]) h;simpa using this
theorem upd11{h:ad}{pb:Nat}{d:DB}{s:Int}{st:az}(q:dS h pb d s st)(hx:eG st)(BS:st.kind=4){wb kb tb:Nat}(gw:h wb=some (.cells #[.pointer (some ⟨pb,0,none⟩)] 99 (0,0)))
 {T:cE} (hT:R4 T) {cb:Option Addr} {cn cc:Nat} (gk:h kb=some (.cells #[.slice cb cn cc] 38 (0,0))) (vl:Sl 165 bt h (.slice cb cn cc) (aJ T)) {b1:Option Addr} {n1 c1:Nat} {b2:Option Addr} {n2 c2:Nat} (gt:h tb=some (.cells #[.string T.S.name,.slice b1 n1 c1,.int .i64 T.S.key,.bool T.S.only,.slice b2 n2 c2] 51 (0,0))) (EX:Sl 165 bt h (.slice b1 n1 c1) T.S.cols)
 {r:Row} (hr:r∈T.rows) {rb:Option Addr} {rn rc:Nat} (qr:Sl 61 bq h (.slice rb rn rc) r):
 Ct 89 [.slice rb rn rc,.pointer (some ⟨wb,0,none⟩),.pointer (some ⟨kb,0,none⟩),.pointer (some ⟨tb,0,none⟩)] h (fun v me=>∃b n c,v=.tuple #[.slice b n c,.int .i64 (Ef T st r).2]/\Le h me/\Sl 61 bq me (.slice b n c) (Ef T st r).1):=by
 obtain⟨A,hA⟩:=Ar.ex;have hcF:∀c∈aJ T,Nm c.name:=fun c xF=>by
  obtain⟨c0,h1,h2⟩:=List.mem_map.1 xF;rw[<-h2];exact sd hT.nm (hT.uN c0 h1)
 have Hd:r.length=2:=by obtain⟨_,_,e,-⟩:=(hT.row r hr).1;rw[e];rfl
 have Ld:T.S.cols.length=2:=by
  rcases hT.cols with h| ⟨-,h⟩
  ·rw[h];rfl
  ·rw[h]at hr;cases hr
 have hfi:∀nm z t,(z,t)=nJ T.S.cols nm->∃j,aS z j/\j<2:=fun nm z t h=>by
  cases t with
  |true=>have:=Lt h.symm;exact⟨z.toNat,⟨by omega⟩,by omega⟩
  |false=>
   unfold nJ at h;cases hf:fK T.S.cols nm 0 with
   |none=>rw[hf]at h;cases h;exact⟨0,⟨rfl⟩,by decide⟩
   |some i=>rw[hf]at h;cases h
 have hP:Ef T st r=match bG st.exprs (aJ T) r with
  | (l,e)=>(QB T.S.cols (l.zip st.names) r,e):=rfl
 generalize Ef T st r=D at *;have hrin:=(hT.row r hr).2;have yE:=hx.names BS;have rC:=hx.nlen;refine q.elim (fun WM Tp WC WJ To WA WI Tn Wy WH Tm Wx Nr MK Nn Nq MJ Nl Np MI Nk Ml E2 FP No MH Nj xJ xu xI g qd q1 q2 q3 q4 q5 q6=>?_);clear q1 q2 q5 q6 qd;have um:=q3.len;refine ah A (ar T89.aA T89.bm) Tryz.func89 rfl (by kernel_rfl) ?_;cbv;repeat (first| (rw[ai A,ai A];refine av gw rfl rfl ?_;cbv) | (rw[ai A];refine av gw rfl rfl ?_;cbv) | (refine av gw rfl rfl ?_;cbv) | (rw[ai A,ai A];refine av gk rfl rfl ?_;cbv) | (rw[ai A];refine av gk rfl rfl ?_;cbv) | (refine av gk rfl rfl ?_;cbv) | (rw[ai A,ai A];refine av g rfl rfl ?_;cbv) | (rw[ai A];refine av g rfl rfl ?_;cbv) | (refine av g rfl rfl ?_;cbv) | (refine⟨⟨_,rfl,rfl⟩,?_⟩;cbv))
 refine EF hx.exprs hcF hrin hx.len q4 vl qr (fun h1 lb ln lc l e l1 Xo qv hvi=>?_);have hvl:=valuesP_len Xo.symm;rw[<-Xo]at hP;replace hP:D=(QB T.S.cols (l.zip st.names) r,e):=hP;have qv:=qv.sl;have qJ:=qv.len;have Ag:l.length<=st.names.length:=by
  rcases hvl with h|h
  ·omega
  ·rw[h];exact Nat.zero_le _
 cbv;refine(py (qr.mono (l1.t _))).mono (fun v h2 hR=>?_);obtain⟨l2,b',c',hv,qb⟩:=hR;subst hv;rcases qb.out with ⟨b0,h1,h2⟩ | ⟨nb,cap,ge,gn,oo⟩
 ·rw[h2]at Hd;cases Hd
 have hrn:rn=2:=by rw[qr.len];exact Hd
 obtain⟨rfl,O8⟩:b'=some ⟨nb,0,none⟩/\cap=c':=by cases ge;exact⟨rfl,rfl⟩
 subst O8;have ko:=l1.trans l2;obtain⟨Fr,hF⟩:∃Fr,QB T.S.cols (l.zip st.names) r=Fr:=⟨_,rfl⟩;rw[hF]at hP;have gn0:h nb=none:=l1.none gn;have hnx2:(l.zip st.names).length=ln:=by rw[List.length_zip,qJ];omega
 obtain⟨I,bl⟩:∃I:Nat->Int->ad->Prop,∀m z h',I m z h'=∃i R,aS z i/\i<=ln/\m=ln-i/\Kp [nb] h2 h'/\dI 61 bq h' nb cap R/\R.length=2/\QB T.S.cols ((l.zip st.names).drop i) R=Fr:=⟨_,fun _ _ _=>rfl⟩;have hJ:I ln 0 h2:=by rw[bl];exact⟨0,r,⟨rfl⟩,Nat.zero_le _,rfl,Kp.refl _ _,oo,Hd,hF⟩
 have qv2:=qv.mono (l2.t _);have hlb:=qv.bound;have keyLe:∀h',Kp [nb] h2 h'->Le h h':=fun h' k2=>ko.df (fun b hb=>by rw[List.mem_singleton.1 hb];exact gn0) k2;have keyL1:∀h',Kp [nb] h2 h'->Le h1 h':=fun h' k2=>l2.df (fun b hb=>by rw[List.mem_singleton.1 hb];exact gn) k2;clear oo qb ge hF Xo hvl;cbv;refine aX.go (G:=Int) (fun z=>[(29,.v (.int .i64 z))]) (fun _=>[]) (fun m z h'=>I m z h') ln 0 ⟨?_,?_,?_⟩ hJ ?_
 ·cbv
 ·cbv
 ·cbv
 ·intro m z h3 hI;rw[bl]at hI;cbv;obtain⟨i,R,hz,hi,hm,k3,oo,hRl,hF⟩:=hI;have f1:A .aG .lss z (A .nat ln)=decide (i<ln):=hz.gy (aS.nat ln);rw[f1];by_cases aK:i<ln
  ·obtain⟨⟨v,nm⟩,hvn⟩:=aI (xs:=l.zip st.names) (i:=i) (by omega);obtain⟨Ux,Uw⟩:=List.getElem?_zip_eq_some.1 hvn;replace Ux:l[i]? =some v:=Ux;replace Uw:st.names[i]? =some nm:=Uw;have cU:0<=z/\z<(ln:Int):=hz.ix aK;have kW:0<=z/\z<(MI:Int):=hz.ix (by omega);have fA:=hz.eq;have dD:=hz.succ (A:=A) (by omega);have j0:ln-(i+1)<m:=by omega
   have AP:(l.zip st.names).drop i=(v,nm)::(l.zip st.names).drop (i+1):=by obtain⟨h1,h2⟩:=List.getElem?_eq_some_iff.1 hvn;rw[List.drop_eq_getElem_cons h1,h2]
   rw[AP,setsE_cons]at hF;have leh:=keyLe h3 k3;have qv3:=qv.mono ((keyL1 h3 k3).t _);have q33:=q3.mono (leh.t _);have g3:=leh _ _ g;have AQ:=leh _ _ gw;have gt3:=leh _ _ gt;have fh:=qv3.bu (by omega:0<ln);have Ij:=q33.bu (by omega:0<MI);have hfi:=hfi nm;have di:∀h4 j,Kp [nb] h3 h4->dI 61 bq h4 nb cap (R.set j v)->(nJ T.S.cols nm).1.toNat=j->I (ln-(i+1)) (A .bA .add .i64 z 1) h4:=fun h4 j k4 o4 hj=>by
    rw[bl];exact⟨i+1,R.set j v,dD,aK,rfl,k3.trans k4,o4,by rw[List.length_set];exact hRl,by rw[<-hj];exact hF⟩
   clear bl hJ dD keyLe keyL1;rw[decide_eq_true aK];cbv;refine⟨⟨fh,cU⟩,?_⟩;cbv;refine qv3.load Ux fA (fun cs aC=>?_);replace aC:cs=[.int .i64 v.k,.int .i64 v.n,.string v.s]:=aC;subst aC;cbv;repeat (first| (rw[ai A,ai A];refine av gt3 rfl rfl ?_;cbv) | (rw[ai A];refine av gt3 rfl rfl ?_;cbv) | (refine av gt3 rfl rfl ?_;cbv) | (rw[ai A,ai A];refine av AQ rfl rfl ?_;cbv) | (rw[ai A];refine av AQ rfl rfl ?_;cbv) | (refine av AQ rfl rfl ?_;cbv) | (rw[ai A,ai A];refine av g3 rfl rfl ?_;cbv) | (rw[ai A];refine av g3 rfl rfl ?_;cbv) | (refine av g3 rfl rfl ?_;cbv) | (refine⟨⟨_,rfl,rfl⟩,?_⟩;cbv))
   refine⟨⟨Ij,kW⟩,?_⟩;cbv;refine q33.load Uw fA (fun cs aC=>?_);replace aC:cs=[.string nm]:=aC;subst aC;cbv;refine findC (EX.mono (leh.t _)) (fun h4 zf t l4 hzf=>?_);obtain⟨j,Xl,K3⟩:=hfi zf t hzf;have hjj:(nJ T.S.cols nm).1.toNat=j:=by rw[<-hzf,Xl.eq];exact Int.toNat_natCast j
   have ur:0<=zf/\zf<(rn:Int):=Xl.ix (by omega);have hzje:=Xl.eq;cbv;refine⟨⟨rfl,ur⟩,?_⟩;cbv;refine(oo.mono (l4.t _)).setAt (by decide) (i:=j) (by omega) hzje rfl (x:=v) rfl (fun h5 k5 t5 o5=>?_);have ae:=di h5 j ((l4.kp _).trans k5) o5 hjj;clear di;cbv;refine⟨ln-(i+1),A .bA .add .i64 z 1,j0,⟨?_,?_,?_⟩,ae⟩
   ·cbv
   ·cbv
   ·cbv
  ·rw[List.drop_of_length_le (by omega)]at hF;replace hF:R=Fr:=hF;subst hF;subst hP;have leh:=keyLe h3 k3;have sfin:Sl 61 bq h3 (.slice (some ⟨nb,0,none⟩) rn cap) R:=oo.sl (by omega);clear bl hJ;rw[decide_eq_false aK];cbv;exact⟨_,_,_,rfl,leh,sfin⟩
theorem chosenP_mem2{w:List Nd}{cols:List bT}{f:Row->Row×Int}:∀ {rows:List Row} {xs ys:List Row},∀x∈(lJ w cols f rows (xs,ys)).1.2,x∈ys\/∃r∈rows,x=(f r).1
 | [],xs,ys,x,h=>.inl h
 |r::rs,xs,ys,x,h=>by
  rw[chosenP_cons]at h;have hs:∀x∈(chStep w cols f r xs ys).1.2,x∈ys\/∃r'∈r::rs,x=(f r').1:=fun x hx=>by
   unfold chStep at hx;generalize dL w cols r=H at hx;obtain⟨is,e⟩:=H;have hx:x∈(if e≠0 then((xs,ys),e)else if is=false then((xs,ys),0)else((xs++[r],ys++[(f r).1]),(f r).2):(List Row×List Row)×Int).1.2:=hx;split at hx
   ·exact .inl hx
   ·split at hx
    ·exact .inl hx
    ·rcases List.mem_append.1 hx with hx|hx
     ·exact .inl hx
     ·rcases List.mem_cons.1 hx with hx|hx
      ·exact .inr ⟨r,List.mem_cons_self,hx⟩
      ·cases hx
  by_cases c:(chStep w cols f r xs ys).2≠0
  ·rw[if_pos c]at h;exact hs x h
  ·rw[if_neg c]at h;generalize chStep w cols f r xs ys=E at *;obtain⟨⟨a,b⟩,e⟩:=E;rcases chosenP_mem2 x h with h| ⟨r',h1,h2⟩
   ·exact hs x h
   ·exact .inr ⟨r',List.mem_cons_of_mem _ h1,h2⟩
theorem takesEJ{s:Int}{nm:ByteArray}(hs:-2^63<=s/\s<2^63):∀ {rows:List Row} {n:Nat} {d:DB},(∀r∈rows,lN r)->EJ n d->EJ (n+rows.length) (sH s nm rows d).1
 | [],n,d,_,h=>h
 |x::r,n,d,hr,h=>by
  have h1:=h.take nm hs (hr x List.mem_cons_self);show EJ _ (wE (fun d r=>X2 d s nm (SL d nm r)) (x::r) d).1;rw[Er];generalize X2 d s nm (SL d nm x)=H at *;obtain⟨d1,e⟩:=H;show EJ _ (if e≠0 then(d1,e)else sH s nm r d1).1;by_cases h0:e≠0
  ·rw[if_pos h0];exact EJ.le h1 (by simp only[List.length_cons];omega)
  ·rw[if_neg h0];exact(takesEJ hs (fun y hy=>hr y (List.mem_cons_of_mem _ hy)) h1).le (by simp only[List.length_cons];omega)
theorem putsC{h:ad}{pb:Nat}{d:DB}{s:Int}{st:az}(q:dS h pb d s st){n:Nat}(ej:EJ n d){rows:List Row}(hr:∀r∈rows,fM r)(um:n+rows.length+2<2^18)(iQ:-2^63<=s/\s<2^63){rb:Option Addr}{rn rc:Nat}(qr:Sl 59 aL h (.slice rb rn rc) rows)
 {D:DB×Int} (hD:Jz s st.table rows d=D) {k:Value->ad->Prop} (hk:∀h',Kp [pb] h h'->dS h' pb D.1 s st->k (.int .i64 D.2) h'):
 Ct 92 [.slice rb rn rc,.func (.func 94) #[.pointer (some ⟨pb,0,none⟩)] #[]] h k:=by
 have hn:=qr.len;obtain⟨I,bl⟩:∃I:Nat->ad->Prop,∀i h',I i h'=∃d',dS h' pb d' s st/\EJ (n+i) d'/\Kp [pb] h h'/\Jz s st.table (rows.drop i) d'=D:=⟨_,fun _ _=>rfl⟩;have hJ:I 0 h:=by rw[bl];exact⟨d,q,ej,Kp.refl _ _,hD⟩
 refine firstPut hn I hJ (fun i h' hI=>?_) (fun i x h' b1 n1 c1 hi hx hI hv=>?_) (fun h' hI=>?_)
 ·rw[bl]at hI;obtain⟨d',q',ej',kp,-⟩:=hI;exact qr.mono (q.kp kp (by decide))
 ·rw[bl]at hI;obtain⟨d',q',ej',kp,he⟩:=hI;have hd:rows.drop i=x::rows.drop (i+1):=by obtain⟨h1,h2⟩:=List.getElem?_eq_some_iff.1 hx;rw[List.drop_eq_getElem_cons h1,h2]
  have hxm:=hr x (List.mem_of_getElem? hx);rw[hd]at he;replace he:(match fv d' s st.table x with
   | (d2,e)=>if e≠0 then(d2,e)else Jz s st.table (rows.drop (i+1)) d2)=D:=he
  have ej2:=ej'.put st.table iQ hxm;refine putW q' ej'.sj.CM (by omega) iQ hv (fun h2 k2 q2=>⟨_,rfl,fun h0=>?_,fun h0=>?_⟩)
  ·generalize fv d' s st.table x=E at *;obtain⟨d2,e⟩:=E;replace he:(if e≠0 then(d2,e)else Jz s st.table (rows.drop (i+1)) d2)=D:=he;rw[if_neg (fun g=>g h0)]at he;rw[bl];exact⟨d2,q2,ej2,kp.trans k2,he⟩
  ·generalize fv d' s st.table x=E at *;obtain⟨d2,e⟩:=E;replace he:(if e≠0 then(d2,e)else Jz s st.table (rows.drop (i+1)) d2)=D:=he;rw[if_pos h0]at he;subst he;exact hk h2 (kp.trans k2) q2
 ·rw[bl]at hI;obtain⟨d',q',ej',kp,he⟩:=hI;rw[List.drop_of_length_le (by omega)]at he;have he:(d',0)=D:=he;subst he;exact hk h' kp q'
def qP(d:DB)(s:Int)(x:az)(T:cE):DB×Int:=
 if jL T x≠0 then(d,jL T x)else match lJ x.bM (aJ T) (Ef T x) T.rows ([],[])with
  | (p,e)=>if e≠0 then(d,e)else match sH s x.table p.1 d with
   | (d,e)=>if e≠0 then(d,e)else Jz s x.table p.2 d
theorem freshP_in{T:cE}{st:az}(hx:eG st){r:Row}(hr:fM r):fM (Ef T st r).1:=by
 unfold Ef;generalize hv:bG st.exprs (aJ T) r=p;obtain⟨l,e⟩:=p;show fM (QB T.S.cols (l.zip st.names) r);refine setsE_in (fun p hp=>?_) hr;have hm:p.1∈l:=(List.of_mem_zip hp).1;have key:∀ {xs:List (List Nd)} {m l:Row} {e:Int},(∀ex∈xs,∀n∈ex,lj n.v)->(∀v∈m,lj v)->oa (aJ T) r xs m=(l,e)->∀v∈l,lj v:=by
  intro xs;induction xs with
  |nil=>intro m l e _ hm h;cases h;exact hm
  |cons x xs ih=>
   intro m l e hn hm h;rw[uR]at h;cases hp:eA x (aJ T) r with
   |mk v f=>
   rw[hp]at h;have h:(if f≠0 then([],f)else oa (aJ T) r xs (m++[v]))=(l,e):=h;by_cases hf:f≠0
   ·rw[if_pos hf]at h;cases h;exact fun v hv=>by cases hv
   ·rw[if_neg hf]at h;refine ih (fun ex he=>hn ex (List.mem_cons_of_mem _ he)) (fun w hw=>?_) h;rcases List.mem_append.1 hw with hw|hw
    ·exact hm w hw
    ·rw[List.mem_singleton.1 hw];exact HY (hn x List.mem_cons_self) hr hp
 exact key (fun ex he n hn=>(hx.exprs ex he n hn).2) (fun v hv=>by cases hv) hv p.1 hm
def Qk(d:DB)(s:Int)(st:az)(T:cE):Prop:=∀ {h:ad} {pb:Nat} (q:dS h pb d s st) (hx:eG st) (BS:st.kind=4) {n:Nat} (ej:EJ n d) (um:n+600<2^18) (iQ:-2^63<=s/\s<2^63) {wb tb:Nat} (gw:h wb=some (.cells #[.pointer (some ⟨pb,0,none⟩)] 99 (0,0)))
 (hT:R4 T) {b1:Option Addr} {n1 c1:Nat} {b2:Option Addr} {n2 c2:Nat} (gt:h tb=some (.cells #[.string T.S.name,.slice b1 n1 c1,.int .i64 T.S.key,.bool T.S.only,.slice b2 n2 c2] 51 (0,0))) (EX:Sl 165 bt h (.slice b1 n1 c1) T.S.cols) (SQ:Sl 59 aL h (.slice b2 n2 c2) T.rows)
 {k:Value->ad->Prop} (hk:∀h',Kp [pb] h h'->dS h' pb (qP d s st T).1 s st->k (.int .i64 (qP d s st T).2) h'),
 Ct 85 [.pointer (some ⟨wb,0,none⟩),.pointer (some ⟨tb,0,none⟩)] h k
theorem upd1C{h:ad}{pb:Nat}{d:DB}{s:Int}{st:az}(q:dS h pb d s st)(hx:eG st)(BS:st.kind=4){n:Nat}(ej:EJ n d)(um:n+600<2^18)(iQ:-2^63<=s/\s<2^63){wb tb:Nat}(gw:h wb=some (.cells #[.pointer (some ⟨pb,0,none⟩)] 99 (0,0)))
 {T:cE} (hT:R4 T) {b1:Option Addr} {n1 c1:Nat} {b2:Option Addr} {n2 c2:Nat} (gt:h tb=some (.cells #[.string T.S.name,.slice b1 n1 c1,.int .i64 T.S.key,.bool T.S.only,.slice b2 n2 c2] 51 (0,0))) (EX:Sl 165 bt h (.slice b1 n1 c1) T.S.cols) (SQ:Sl 59 aL h (.slice b2 n2 c2) T.rows)
 {k:Value->ad->Prop} (hk:∀h',Kp [pb] h h'->dS h' pb (qP d s st T).1 s st->k (.int .i64 (qP d s st T).2) h'):
 Ct 85 [.pointer (some ⟨wb,0,none⟩),.pointer (some ⟨tb,0,none⟩)] h k:=by
 obtain⟨A,hA⟩:=Ar.ex;have M7:qP d s st T=if jL T st≠0 then(d,jL T st)else match lJ st.bM (aJ T) (Ef T st) T.rows ([],[])with
  | (p,e)=>if e≠0 then(d,e)else match sH s st.table p.1 d with
   | (d,e)=>if e≠0 then(d,e)else Jz s st.table p.2 d:=rfl
 generalize qP d s st T=D at *;have nw:wb≠pb:=fun e=>by
  obtain⟨c,hc⟩:=q.has;rw[e,hc]at gw;cases gw
 refine ah A (ar T85.aA T85.bm) Tryz.func85 rfl (by kernel_rfl) ?_;cbv;repeat (first| (rw[ai A,ai A];refine av gw rfl rfl ?_;cbv) | (rw[ai A];refine av gw rfl rfl ?_;cbv) | (refine av gw rfl rfl ?_;cbv) | (rw[ai A,ai A];refine av gt rfl rfl ?_;cbv) | (rw[ai A];refine av gt rfl rfl ?_;cbv) | (refine av gt rfl rfl ?_;cbv) | (refine⟨⟨_,rfl,rfl⟩,?_⟩;cbv))
 refine VT q hx hT EX (fun h1 l1=>?_);generalize jL T st=e at *;have fe:A .aG .neq e 0=decide (e≠0):=aB A ..;have Yn:=q.mono l1;have lu:=l1 _ _ gw;have VJ:=l1 _ _ gt;by_cases h0:e≠0
 ·rw[if_pos h0]at M7;subst M7;have ae:=hk h1 (l1.kp _) Yn;clear hk;cbv;rw[fe,decide_eq_true h0];cbv;exact ae
 rw[if_neg h0]at M7;cbv;rw[fe,decide_eq_false h0];cbv;repeat (first| (rw[ai A,ai A];refine av VJ rfl rfl ?_;cbv) | (rw[ai A];refine av VJ rfl rfl ?_;cbv) | (refine av VJ rfl rfl ?_;cbv) | (refine⟨⟨_,rfl,rfl⟩,?_⟩;cbv))
 refine mH hT.nm.nm (fun c hh=>(hT.uN c hh).nm) (EX.mono (l1.t _)) T.S.key T.S.only b2 n2 c2 (fun h2 cb cn cc l2 qb=>?_);rw[<-tY]at qb;cbv;intro kb h3a f3 e3;have l3a:Le h2 h3a:=by rw[e3];exact Le.set f3
 have gka:h3a kb=some (.cells #[.slice none 0 0] 38 (0,0)):=by rw[e3];exact af
 clear e3;cbv;refine jz gka (by simp) (fun h3 e3=>?_);have l3:Le h2 h3:=fun b o hb=>by rw[e3,aP (fun e=>by rw[e,f3]at hb;cases hb)];exact l3a _ _ hb
 have XG:h3 kb=some (.cells #[.slice cb cn cc] 38 (0,0)):=by rw[e3];exact af
 have xw:=l1.trans (l2.trans l3);have q3':=q.mono xw;have AQ:=xw _ _ gw;have gt3:=xw _ _ gt;have qk3:=qb.sl.mono (l3.t _);clear e3 qb;cbv;repeat (first| (rw[ai A,ai A];refine av AQ rfl rfl ?_;cbv) | (rw[ai A];refine av AQ rfl rfl ?_;cbv) | (refine av AQ rfl rfl ?_;cbv) | (rw[ai A,ai A];refine av gt3 rfl rfl ?_;cbv) | (rw[ai A];refine av gt3 rfl rfl ?_;cbv) | (refine av gt3 rfl rfl ?_;cbv) | (refine⟨⟨_,rfl,rfl⟩,?_⟩;cbv))
 obtain⟨LX,hC⟩:∃LX,LX=lJ st.bM (aJ T) (Ef T st) T.rows ([],[]):=⟨_,rfl⟩;have jJ:∀x∈LX.1.1,lN x:=fun x G8=>by
  rw[hC]at G8;rcases chosenP_mem x G8 with h|h
  ·cases h
  ·exact(hT.row x h).1
 have hmem2:∀x∈LX.1.2,fM x:=fun x G8=>by
  rw[hC]at G8;rcases chosenP_mem2 x G8 with h| ⟨r,h1,h2⟩
  ·cases h
  ·rw[h2];exact freshP_in hx (hT.row r h1).2
 have hlen:LX.1.1.length<=200/\LX.1.2.length<=200:=by rw[hC];have h1:=(chosenP_len (w:=st.bM) (cols:=aJ T) (f:=Ef T st) (rows:=T.rows) (xs:=[]) (ys:=[]));have h2:=hT.len;simp only[List.length_nil]at h1;omega
 rw[<-hC]at M7;refine chosenU q3' hx hT.nm hT.uN (fun r hr=>(hT.row r hr).2) (by have:=hT.len;omega) (EX.mono (xw.t _)) (SQ.mono (xw.t _)) (f:=Ef T st) (fun h' r rb rn rc l hr qrr=>upd11 (q3'.mono l) hx BS (l _ _ AQ) hT (l _ _ XG) (qk3.mono (l.t _)) (l _ _ gt3) (EX.mono ((xw.trans l).t _)) hr qrr) hC (fun h4 b1' n1' RZ b2' n2' c2' l4 s1 s2=>?_);obtain⟨⟨xs,ys⟩,e2⟩:=LX;replace s1:Sl 59 aL h4 (.slice b1' n1' RZ) xs:=s1;replace s2:Sl 59 aL h4 (.slice b2' n2' c2') ys:=s2;replace M7:D=if e2≠0 then(d,e2)else match sH s st.table xs d with
  | (d,e)=>if e≠0 then(d,e)else Jz s st.table ys d:=M7
 replace jJ:∀x∈xs,lN x:=jJ;replace hmem2:∀x∈ys,fM x:=hmem2;obtain⟨hlx,hly⟩:xs.length<=200/\ys.length<=200:=hlen;have fe2:A .aG .eql e2 0=decide (e2=0):=aw A ..;have q4':=q3'.mono l4;have Ed:=l4 _ _ AQ;have k04:=(xw.trans l4).kp [pb];clear hC;by_cases h2:e2=0
 ·rw[if_neg (fun g=>g h2)]at M7;cbv;rw[fe2,decide_eq_true h2];cbv;repeat (first| (rw[ai A,ai A];refine av Ed rfl rfl ?_;cbv) | (rw[ai A];refine av Ed rfl rfl ?_;cbv) | (refine av Ed rfl rfl ?_;cbv) | (refine⟨⟨_,rfl,rfl⟩,?_⟩;cbv))
  have ej5:=takesEJ (nm:=st.table) iQ jJ ej;refine takesC q4' ej jJ (by omega) iQ s1 (D:=sH s st.table xs d) rfl (fun h5 k5 q5=>?_);generalize sH s st.table xs d=E at *;obtain⟨d5,e5⟩:=E;replace q5:dS h5 pb d5 s st:=q5;replace ej5:EJ (n+xs.length) d5:=ej5;replace M7:D=if e5≠0 then(d5,e5)else Jz s st.table ys d5:=M7
  have fe5:A .aG .eql e5 0=decide (e5=0):=aw A ..;have sB:=k5 _ _ Ed (by simpa using nw);have Jq:=s2.mono (q4'.kp k5 (by decide));have Kn:=k04.trans k5;by_cases h5e:e5=0
  ·rw[if_neg (fun g=>g h5e)]at M7;cbv;rw[fe5,decide_eq_true h5e];cbv;repeat (first| (rw[ai A,ai A];refine av sB rfl rfl ?_;cbv) | (rw[ai A];refine av sB rfl rfl ?_;cbv) | (refine av sB rfl rfl ?_;cbv) | (refine⟨⟨_,rfl,rfl⟩,?_⟩;cbv))
   refine putsC q5 ej5 hmem2 (by omega) iQ Jq M7.symm (fun h6 k6 q6=>?_);have ae:=hk h6 (Kn.trans k6) q6;clear hk;cbv;exact ae
  ·rw[if_pos h5e]at M7;subst M7;have ae:=hk h5 Kn q5;clear hk;cbv;rw[fe5,decide_eq_false h5e];cbv;exact ae
 ·rw[if_pos h2]at M7;subst M7;have ae:=hk h4 k04 q4';clear hk;cbv;rw[fe2,decide_eq_false h2];cbv;rw[fe2,decide_eq_false h2];cbv;exact ae
theorem updW{h:ad}{pb:Nat}{d:DB}{s:Int}{st:az}(q:dS h pb d s st)(hx:eG st)(BS:st.kind=4){n:Nat}(ej:EJ n d)(gP:n+700<2^18)(iQ:-2^63<=s/\s<2^63)(eW:∀d1 T,(ay d ⟨s,st.table,true⟩).1=d1->bO d1 st.table=T->Qk d1 s st T){k:Value->ad->Prop}
 (hk:∀h',Kp [pb] h h'->dS h' pb (fH d s st).1 s st->k (.tuple #[.slice none 0 0,.int .i64 (fH d s st).2.2]) h'):
 Ct 42 [.pointer (some ⟨pb,0,none⟩)] h k:=by
 obtain⟨A,hA⟩:=Ar.ex;have hP:fH d s st=match ay d ⟨s,st.table,true⟩with
  | (d,e)=>if e≠0 then(d,[],e)else if(bO d st.table).S.only=true then(d,[],19)else bK d (qP d s st (bO d st.table)):=rfl
 generalize fH d s st=D at *;have FE:=ej.hold ⟨s,st.table,true⟩ iQ;obtain⟨c,hp⟩:=q.has;refine q.elim (fun b1 n1 c1 b2 n2 c2 b3 n3 c3 b4 n4 c4 b5 n5 c5 b6 n6 c6 b7 n7 c7 b8 n8 c8 b9 n9 c9 fG gG fF g qd q1 q2 q3 q4 q5 q6=>?_);clear q1 q2 q3 q4 q5 q6;refine ah A (ar T42.aA T42.bm) Tryz.func42 rfl (by kernel_rfl) ?_;cbv;intro wb h1 gn e1;have l1:Le h h1:=by rw[e1];exact Le.set gn
 have lu:h1 wb=some (.cells #[.pointer (some ⟨pb,0,none⟩)] 99 (0,0)):=by rw[e1];exact af
 have nw:wb≠pb:=fun e=>by rw[e,hp]at gn;cases gn
 have g1:=l1 _ _ g;clear e1;cbv;refine av lu rfl rfl ?_;cbv;refine av lu rfl rfl ?_;cbv;first|rw[ai A,ai A] |rw[ai A] |skip
 refine av g1 rfl rfl ?_;cbv;refine EE (q.mono l1) ej.sj.CM (by omega) st.table true (fun h2 k2 q2=>?_);generalize ay d ⟨s,st.table,true⟩=H at *;obtain⟨d1,e⟩:=H;replace q2:dS h2 pb d1 s st:=q2;replace FE:EJ (n+1) d1:=FE;replace hP:D=if e≠0 then(d1,[],e)else if(bO d1 st.table).S.only=true then(d1,[],19)else bK d1 (qP d1 s st (bO d1 st.table)):=hP
 have fe:A .aG .neq e 0=decide (e≠0):=aB A ..;have MP:Kp [pb] h h2:=(l1.kp _).trans k2;have lr:=k2 _ _ lu (by simpa using nw);by_cases h0:e≠0
 ·rw[if_pos h0]at hP;subst hP;have ae:=hk h2 MP q2;clear hk;cbv;rw[fe,decide_eq_true h0];cbv;exact ae
 ·rw[if_neg h0]at hP;have Hs:=FE.held st.table;refine q2.elim (fun WM Tp WC WJ To WA WI Tn Wy WH Tm Wx Nr MK Nn Nq MJ Nl Np MI Nk Ml E2 FP No MH Nj xJ xu xI g2 SW q1 W9 q3 q4 q5 q6=>?_);clear q1 W9 q3 q4 q5 q6 SW;cbv;rw[fe,decide_eq_false h0];cbv;refine av lr rfl rfl ?_;cbv;refine av lr rfl rfl ?_;cbv;first|rw[ai A,ai A] |rw[ai A] |skip
  refine av g2 rfl rfl ?_;cbv;refine⟨?_,?_⟩
  ·refine vW q2 st.table (fun T t1 u1 w1 t2 u2 w2 hT s1 s2=>?_);rw[<-hT]at Hs hP;replace eW:Qk d1 s st T:=eW d1 T rfl hT.symm;clear hT;cbv;intro tb h4 f4 e4;have l4:Le h2 h4:=by rw[e4];exact Le.set f4
   have Hv:h4 tb=some (.cells #[.string ⟨#[]⟩,.slice none 0 0,.int .i64 0,.bool false,.slice none 0 0] 51 (0,0)):=by rw[e4];exact af
   obtain⟨h3,rfl⟩:∃h3,h3=h2:=⟨_,rfl⟩;have g3:=g2;have AQ:=lr;have DJ:=MP;have q3:=q2;clear e4;cbv;refine jz Hv (by simp) (fun h5 e5=>?_);have Ln:h5 tb=some (.cells #[.string T.S.name,.slice t1 u1 w1,.int .i64 T.S.key,.bool T.S.only,.slice t2 u2 w2] 51 (0,0)):=by rw[e5];exact af
   have zS:Le h3 h5:=fun b o hb=>by rw[e5,aP (fun e=>by rw[e,f4]at hb;cases hb)];exact l4 _ _ hb
   have Eb:tb≠pb:=fun e=>by rw[e,g3]at f4;cases f4
   clear e5;obtain⟨Si,DS⟩:∃b,b=T.S.only:=⟨_,rfl⟩;have Lm:=Ln;rw[<-DS]at Lm;cbv;rw[ai A,ai A];refine av Lm rfl rfl ?_;cbv;have sB:=zS _ _ AQ;have Kn:=DJ.trans (zS.kp [pb]);have q5:=q3.mono zS;cases Si with
   |true=>rw[<-DS,if_pos rfl]at hP;subst hP;have ae:=hk h5 Kn q5;clear hk;cbv;exact ae
   |false=>rw[<-DS,if_neg (by simp)]at hP;have fO:∀h6,Le h5 h6->dS h6 pb d1 s st->Ct 85 [.pointer (some ⟨wb,0,none⟩),.pointer (some ⟨tb,0,none⟩)] h6 (fun r h7=>r=.int .i64 (qP d1 s st T).2/\Kp [pb] h6 h7/\dS h7 pb (qP d1 s st T).1 s st):=fun h6 l6 xq=>eW xq hx BS FE (by omega) iQ (l6 _ _ sB) Hs (l6 _ _ Ln) (s1.mono ((zS.trans l6).t _)) (s2.mono ((zS.trans l6).t _)) (fun h7 k7 q7=>⟨rfl,k7,q7⟩);generalize qP d1 s st T=E at *;cbv;refine av sB rfl rfl ?_;cbv;refine AY q5 fO (fun h6 k6 xq=>?_);rw[<-hP]at xq |-;have ae:=hk h6 (Kn.trans k6) xq;clear hk fO;generalize D.2.2=De at *;cbv;exact ae
  ·intro tb h4 f4 e4;have l4:Le h2 h4:=by rw[e4];exact Le.set f4
   have Hv:h4 tb=some (.cells #[.string ⟨#[]⟩,.slice none 0 0,.int .i64 0,.bool false,.slice none 0 0] 51 (0,0)):=by rw[e4];exact af
   obtain⟨h3,rfl⟩:∃h3,h3=h2:=⟨_,rfl⟩;have g3:=g2;have AQ:=lr;have DJ:=MP;have q3:=q2;have g4':=l4 _ _ g2;have Ll:=l4 _ _ lr;clear e4;cbv;refine av g4' rfl rfl ?_;cbv;refine⟨⟨_,rfl,rfl⟩,?_⟩;cbv;refine av Ll rfl rfl ?_;cbv;refine⟨⟨_,rfl,rfl⟩,?_⟩;cbv;refine av Ll rfl rfl ?_;cbv;refine⟨⟨_,rfl,rfl⟩,?_⟩;cbv;refine vW (q2.mono l4) st.table (fun T t1 u1 w1 t2 u2 w2 hT Yc Yb=>?_);rw[<-hT]at Hs hP;replace eW:Qk d1 s st T:=eW d1 T rfl hT.symm;clear hT;cbv;refine jz Hv (by simp) (fun h5 e5=>?_);have VI:h5 tb=some (.cells #[.string T.S.name,.slice t1 u1 w1,.int .i64 T.S.key,.bool T.S.only,.slice t2 u2 w2] 51 (0,0)):=by rw[e5];exact af
   have ri:cF [165,59,61] h4 h5:=by rw[e5];exact cF.set Hv (by decide)
   have s1:=Yc.mono (ri.sub (by decide));have s2:=Yb.mono (ri.sub (by decide));clear Yc Yb ri VI;have Ln:h5 tb=some (.cells #[.string T.S.name,.slice t1 u1 w1,.int .i64 T.S.key,.bool T.S.only,.slice t2 u2 w2] 51 (0,0)):=by rw[e5];exact af
   have zS:Le h3 h5:=fun b o hb=>by rw[e5,aP (fun e=>by rw[e,f4]at hb;cases hb)];exact l4 _ _ hb
   have Eb:tb≠pb:=fun e=>by rw[e,g3]at f4;cases f4
   clear e5;obtain⟨Si,DS⟩:∃b,b=T.S.only:=⟨_,rfl⟩;have Lm:=Ln;rw[<-DS]at Lm;cbv;rw[ai A,ai A];refine av Lm rfl rfl ?_;cbv;have sB:=zS _ _ AQ;have Kn:=DJ.trans (zS.kp [pb]);have q5:=q3.mono zS;cases Si with
   |true=>rw[<-DS,if_pos rfl]at hP;subst hP;have ae:=hk h5 Kn q5;clear hk;cbv;exact ae
   |false=>rw[<-DS,if_neg (by simp)]at hP;have fO:∀h6,Le h5 h6->dS h6 pb d1 s st->Ct 85 [.pointer (some ⟨wb,0,none⟩),.pointer (some ⟨tb,0,none⟩)] h6 (fun r h7=>r=.int .i64 (qP d1 s st T).2/\Kp [pb] h6 h7/\dS h7 pb (qP d1 s st T).1 s st):=fun h6 l6 xq=>eW xq hx BS FE (by omega) iQ (l6 _ _ sB) Hs (l6 _ _ Ln) (s1.mono (l6.t _)) (s2.mono (l6.t _)) (fun h7 k7 q7=>⟨rfl,k7,q7⟩);generalize qP d1 s st T=E at *;cbv;refine av sB rfl rfl ?_;cbv;refine AY q5 fO (fun h6 k6 xq=>?_);rw[<-hP]at xq |-;have ae:=hk h6 (Kn.trans k6) xq;clear hk fO;generalize D.2.2=De at *;cbv;exact ae
theorem gatOk{x:az}{y:Qy}(hg:y.group<0)(Rs:∀i∈x.items,i.fn=1):H3 x y:=fun{h0 h qp cols} q hx hc {rows} hr Hd hf hw {rb rn rc} l0 qr {k} hk=>Pz q hx hg Rs qr.sl (fun h' b n c l s=>hk h' b n c (l0.trans l) s)
theorem Jn{d:DB}{s:Int}{st:az}(hj:st.join=b0)(h:WY d s st):Qt d s st:=fun{h2 pb} q hx {n} ej gP iQ {k} hk=>selE q hx hj ej gP iQ h hk
theorem updI_full(d:DB)(s:Int)(st:az)(T:cE):Qk d s st T:=by intro h2 pb q hx BS n ej um iQ wb tb gw hT b1 n1 c1 b2 n2 c2 gt EX SQ k hk;exact upd1C q hx BS ej um iQ gw hT gt EX SQ hk
theorem updOk{d:DB}{s:Int}{st:az}(BS:st.kind=4):WX d s st:=by intro h2 pb q hx n ej gP iQ k hk;exact updW q hx BS ej gP iQ (fun d1 T _ _=>updI_full d1 s st T) hk
end Go.S
