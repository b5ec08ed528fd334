import Derived.Test.YtekoaiendgjkdaaGreatQE
import Derived.Test.YtekoaiendgjkdaaGreatDB
import Derived.Test.YtekoaiendgjkdaaGreatEB
set_option linter.unusedVariables false
set_option linter.unusedSimpArgs false
set_option linter.unusedSectionVars false
set_option maxRecDepth 100000
set_option maxHeartbeats 8000000
namespace Go.S
open Go.Sx Go.Proofs
theorem IL{L:List Int}{h:ad}{b:Option Addr}{n c:Nat}(q:Sl 3 dD h (.slice b n c) L)(x:Int):
 Ct 248 [.slice b n c,.int .i64 x] h (fun v h'=>h'=h/\∃z,v=.int .i64 z/\decide (0<=z)=decide (x∈L)):=by
 obtain⟨A,hA⟩:=Ar.ex;have hlen:=q.len;have wv:=q.bound;refine ah A (aq YL.ax YL.bm) Tryz.func248 rfl (by kernel_rfl) ?_;cbv;refine aZ.go (G:=Int) (fun g=>[(8,.v (.int .i64 g))]) (fun _=>[])
  (fun k g h'=>∃i:Nat,aP g i/\k=n-i/\i<=n/\h'=h/\x∉L.take i) n 0 ⟨?_,?_,?_⟩ ⟨0,⟨rfl⟩,by omega,by omega,rfl,by simp⟩ ?_
 ·cbv
 ·cbv
 ·cbv
 ·intro k z h' hI;cbv;obtain⟨i,hz,hk,hi,rfl,Gr⟩:=hI;refine aN (fun hc=>?_) (fun hc=>?_)
  ·have aI:=hz.lt hc;clear hc;cbv;obtain⟨y,hy⟩:=aD (xs:=L) (i:=i) (by omega);refine⟨⟨q.bF (by omega),hz.ix aI⟩,?_⟩;cbv;refine q.load hy hz.eq (fun cs aJ=>?_);have aJ:cs=[.int .i64 y]:=aJ;subst aJ;have q1:A .aF .eql x y=decide (x=y):=aw A ..;cbv;rw[q1];cases e1:decide (x=y)with
   |true=>cbv;refine⟨_,rfl,?_⟩;have KN:=of_decide_eq_true e1;rw[decide_eq_true (show 0<=z by have:=hz.eq;omega),decide_eq_true (KN ▸ List.mem_of_getElem? hy)]
   |false=>
    have dz:=hz.succ (A:=A) (by omega);have hni2:x∉L.take (i+1):=fun hm=>by
     rw[List.take_add_one,hy]at hm;rcases List.mem_append.1 hm with h1|h1
     ·exact Gr h1
     ·exact of_decide_eq_false e1 (by simpa using h1)
    cbv;refine⟨n-(i+1),A .bA .add .i64 z 1,by omega,⟨?_,?_,?_⟩,i+1,dz,rfl,by omega,rfl,hni2⟩
    ·cbv
    ·cbv
    ·cbv
  ·have iW:=hz.ge hc;clear hc;cbv;refine⟨_,rfl,?_⟩;rw[List.take_of_length_le (by omega)]at Gr;rw[decide_eq_false Gr];rfl
theorem AY{L:List Int}{h:ad}{b:Option Addr}{n c:Nat}(q:Sl 3 dD h (.slice b n c) L)(x:Int){k:Value->ad->Prop}(hk:∀t,t=decide (x∈L)->k (.bool t) h):
 Ct 167 [.slice b n c,.int .i64 x] h k:=by
 obtain⟨A,hA⟩:=Ar.ex;refine ah A (aq ZB.ax ZB.bm) Tryz.func167 rfl (by kernel_rfl) ?_;cbv;refine(IL q x).mono (fun v h1 hR=>?_);obtain⟨e1,z,hv,hz⟩:=hR;subst e1 hv;have af:=hk _ (show A .aF .geq z 0=_ by rw[bO A];exact hz);clear hk;cbv;exact af
theorem rm{s:ByteArray}:∀ {cols:List bM} {k:Nat},(∀x∈cols,decide (x.name=s)=false)->eZ cols s k=none
 | [],_,_=>by rw[eZ]
 |c::r,k,h=>by
  rw[eZ,if_neg (of_decide_eq_false (h c List.mem_cons_self))];exact rm fun x hx=>h x (List.mem_cons_of_mem _ hx)
theorem rl{s:ByteArray}:∀ {cols:List bM} {k i:Nat} {x:bM},cols[i]? =some x->decide (x.name=s)=true->(∀j,j<i->∀y,cols[j]? =some y->decide (y.name=s)=false)->eZ cols s k=some (k+i)
 | [],_,_,_,h,_,_=>by simp at h
 |c::r,k,0,x,h,hx,_=>by
  have:c=x:=by simpa using h
  rw[eZ,if_pos (by rw[this];exact of_decide_eq_true hx)];rfl
 |c::r,k,i+1,x,h,hx,hl=>by
  rw[eZ,if_neg (of_decide_eq_false (hl 0 (by omega) c rfl)),rl (i:=i) (by simpa using h) hx (fun j hj y hy=>hl (j+1) (by omega) y (by simpa using hy))];congr 1;omega
theorem JD{cols:List bM}{s:ByteArray}{z:Int}(h:oV cols (fun x=>decide (x.name=s)) z):jx cols s=(max z 0,decide (z>=0)):=by
 unfold jx;rcases h.out with ⟨e,h1⟩ | ⟨i,x,hz,h2,h3,h4⟩
 ·rw[rm h1,e];rfl
 ·rw[rl h2 h3 h4];have:=hz.eq;show(((0+i:Nat):Int),true)=_;rw[decide_eq_true (by omega),Int.max_eq_left (by omega),this];congr 1;omega
theorem Pz{cols:List bM}{h:ad}{b:Option Addr}{n c:Nat}(q:Sl 165 aT h (.slice b n c) cols){nm s:ByteArray}{key:Int}{only:Bool}{k:Value->ad->Prop}(hk:∀h' z t,Le h h'->(z,t)=jx cols s->k (.tuple #[.int .i64 z,.bool t]) h'):
 Ct 91 [.agg #[.string nm,.slice b n c,.int .i64 key,.bool only],.string s] h k:=
 (JE q).mono (fun v h' hR=>by
  obtain⟨l,z,t,z',hv,hi,e1,e2⟩:=hR;rw[hv];exact hk h' z t l (by rw[JD hi,e1,e2]))
theorem AQ{cols:List bM}{s:ByteArray}{z:Int}(h:jx cols s=(z,true)):0<=z/\z<cols.length:=by
 have key:∀(cols:List bM) (k i:Nat),eZ cols s k=some i->k<=i/\i<k+cols.length:=fun cols=>by
  induction cols with
  |nil=>intro k i h;rw[eZ]at h;cases h
  |cons c r ih=>
   intro k i h;rw[eZ]at h;split at h
   ·cases h;simp only[List.length_cons];omega
   ·have:=ih _ _ h;simp only[List.length_cons];omega
 unfold jx at h;cases hf:eZ cols s 0 with
 |none=>rw[hf]at h;cases h
 |some i=>rw[hf]at h;have:=key cols 0 i hf;cases h;omega
structure Ot(B h:ad)(ob:Nat)(l:List Int):Prop where
 out:∃b n c,h ob=some (.cells #[.slice b n c] 240 (0,0))/\cK 3 dD B h (.slice b n c) l
 le:Le B h
 no:B ob=none
theorem my(cols:List bM)(nm:ByteArray)(r:List ByteArray)(l:List Int):gh cols (nm::r) l=match jx cols nm with
 | (k,is)=>if is=false then(l,2)else if k∈l then(l,7)else gh cols r (l++[k]):=rfl
theorem SB{B h:ad}{ob:Nat}{l:List Int}(qo:Ot B h ob l)(hl:l.length<=2^30){tb:Nat}{T:cg}{b1:Option Addr}{n1 c1:Nat}{b2:Option Addr}{n2 c2:Nat}(gt:B tb=some (.cells #[.string T.S.name,.slice b1 n1 c1,.int .i64 T.S.key,.bool T.S.only,.slice b2 n2 c2] 51 (0,0)))(qc:Sl 165 aT B (.slice b1 n1 c1) T.S.cols)(nm:ByteArray){kk:Int}{is:Bool}(hf:jx T.S.cols nm=(kk,is))
 {k:Value->ad->Prop} (hk:∀h' l',Ot B h' ob l'->l'=(if is=false then l else if kk∈l then l else l++[kk])->k (.int .i64 (if is=false then 2 else if kk∈l then 7 else 0)) h'):
 Ct 166 [.string nm,.pointer (some ⟨tb,0,none⟩),.pointer (some ⟨ob,0,none⟩)] h k:=by
 obtain⟨A,hA⟩:=Ar.ex;have l0:=qo.le;have fK:=qo.no;obtain⟨b,n,c,go,qb⟩:=qo.out;have AE:=qb.sl.len;have Nq:=l0 _ _ gt;refine ah A (aq ZC.ax ZC.bm) Tryz.func166 rfl (by kernel_rfl) ?_;cbv;repeat (first| (rw[ai A,ai A];refine ar Nq rfl rfl ?_;cbv) | (rw[ai A];refine ar Nq rfl rfl ?_;cbv) | (refine ar Nq rfl rfl ?_;cbv) | (refine⟨⟨_,rfl,rfl⟩,?_⟩;cbv))
 refine Pz (qc.mono (l0.t _)) (fun h1 z t l1 hz=>?_);rw[hf]at hz;obtain⟨rfl,rfl⟩:z=kk/\t=is:=by cases hz;exact⟨rfl,rfl⟩
 clear hf;have Qg:Ot B h1 ob l:=⟨⟨b,n,c,l1 _ _ go,qb.mono (l1.t _)⟩,l0.trans l1,fK⟩;have pE:A .not t= !t:=by rw[hA.not]
 cases t with
 |false=>have af:=hk h1 l Qg rfl;rw[if_pos rfl]at af;clear hk;cbv;rw[pE];cbv;exact af
 |true=>
  simp only[Bool.true_eq_false,if_false]at hk;cbv;rw[pE];cbv;have CH:=l1 _ _ go;repeat (first| (rw[ai A,ai A];refine ar CH rfl rfl ?_;cbv) | (rw[ai A];refine ar CH rfl rfl ?_;cbv) | (refine ar CH rfl rfl ?_;cbv) | (refine⟨⟨_,rfl,rfl⟩,?_⟩;cbv))
  refine AY (qb.sl.mono (l1.t _)) z (fun t ht=>?_);by_cases hm:z∈l
  ·have ht:t=true:=by rw[ht];exact decide_eq_true hm
   subst ht;have af:=hk h1 l Qg (by rw[if_pos hm]);rw[if_pos hm]at af;clear hk;cbv;exact af
  ·have ht:t=false:=by rw[ht];exact decide_eq_false hm
   subst ht;simp only[if_neg hm]at hk;cbv;repeat (first| (rw[ai A,ai A];refine ar CH rfl rfl ?_;cbv) | (rw[ai A];refine ar CH rfl rfl ?_;cbv) | (refine ar CH rfl rfl ?_;cbv) | (refine⟨⟨_,rfl,rfl⟩,?_⟩;cbv))
   intro n2 h2 g2 e2;have l2:Le h1 h2:=by rw[e2];exact Le.set g2
   have v2:Sl 3 dD h2 (.slice (some ⟨n2,0,none⟩) 1 1) [z]:=bp (s:=dD) ((congrFun e2 n2).trans ae) rfl;have go2:=l2 _ _ CH;clear e2;cbv;refine(qb.mono ((l1.trans l2).t _)).append v2 (by decide) rfl (by decide) (by omega) (l0.trans (l1.trans l2)) (fun m3 b3 c3 h3 Uu l3 t3 k3 mX=>?_);have GH:h3 ob=some (.cells #[.slice b n c] 240 (0,0)):=t3 [240] (by decide) _ _ _ _ (List.mem_singleton.2 rfl) go2;clear t3 k3 v2;cbv;refine eH GH (by simp) (fun h4 e4=>?_);have af:=hk h4 (l++[z]) ⟨⟨b3,m3,c3,by rw[e4];exact ae,mX.mono (by rw[e4];exact bE.set GH (by decide))⟩,fun b' o' nh=>by rw[e4,av (fun e=>by rw[e,fK]at nh;cases nh)];exact l3 _ _ nh,fK⟩ rfl;clear hk e4;cbv;exact af
theorem uK{cols:List bM}:∀ {names:List ByteArray} {l:List Int},(∀k∈l,0<=k/\k<cols.length)->∀k∈(gh cols names l).1,0<=k/\k<cols.length
 | [],l,h=>h
 |nm::r,l,h=>by
  rw[my];cases hf:jx cols nm with
  |mk k is=>
   show ∀x∈(if is=false then(l,2)else if k∈l then(l,7)else gh cols r (l++[k]):List Int×Int).1,_;split
   ·exact h
   ·split
    ·exact h
    ·rename_i h1 h2;have h1:is=true:=by cases is<;>simp at h1 |-
     subst h1;refine uK fun x hx=>?_;rcases List.mem_append.1 hx with hx|hx
     ·exact h x hx
     ·rw[List.mem_singleton.1 hx];exact AQ hf
theorem sQ{cols:List bM}:∀ {names:List ByteArray} {l:List Int},(gh cols names l).1.length<=l.length+names.length
 | [],l=>Nat.le_refl _
 |nm::r,l=>by
  rw[my];cases hf:jx cols nm with
  |mk k is=>
   show(if is=false then(l,2)else if k∈l then(l,7)else gh cols r (l++[k]):List Int×Int).1.length<=_;split
   ·show l.length<=_;omega
   ·split
    ·show l.length<=_;omega
    ·have:=sQ (cols:=cols) (names:=r) (l:=l++[k]);simp only[List.length_append,List.length_cons,List.length_nil]at this |-;omega
theorem Ak(cols gM:List bM)(x:List Nd)(k:Int)(r:List (List Nd×Int)):gF cols gM ((x,k)::r)=if eW x cols (oQ gM k)≠0 then eW x cols (oQ gM k)else gF cols gM r:=rfl
theorem IM(a b:Nat):((min a b:Nat):Int)=min (a:Int) (b:Int):=by omega
theorem SA{h:ad}{pb:Nat}{d:DB}{s:Int}{st:aB}(q:di h pb d s st)(hx:eO st){T:cg}(hT:Tw T){b1:Option Addr}{n1 c1:Nat}{b2:Option Addr}{n2 c2:Nat}(vZ:Sl 165 aT h (.slice b1 n1 c1) T.S.cols)
 {k:Value->ad->Prop} (hk:∀h',Le h h'->k (.int .i64 (pk T st)) h'):Ct 86 [.pointer (some ⟨pb,0,none⟩),.agg #[.string T.S.name,.slice b1 n1 c1,.int .i64 T.S.key,.bool T.S.only,.slice b2 n2 c2]] h k:=by
 obtain⟨A,hA⟩:=Ar.ex;have KW:∀c∈aE T,Nm c.name:=fun c sC=>by
  obtain⟨c0,h1,h2⟩:=List.mem_map.1 sC;rw[<-h2];exact lp hT.nm (hT.rS c0 h1)
 have hP:pk T st=match gh T.S.cols st.names []with
  | (pl,e)=>if e≠0 then e else if gF (aE T) T.S.cols (st.exprs.zip pl)≠0 then gF (aE T) T.S.cols (st.exprs.zip pl)else aG st.bB (aE T):=rfl
 generalize pk T st=D at *;refine q.elim (fun Lj KH Lf Li KG Ld Lh KF Lb Lg KE K9 Gd EV FU Gc EU FT Gb B1 FR Ef Ae A6 Ga ET FQ sI sf sH g qd q1 q2 q3 q4 q5 q6=>?_);clear q1 q2 q5 qd;refine ah A (aq T86.ax T86.bm) Tryz.func86 rfl (by kernel_rfl) ?_;cbv;intro tb h1 f1 e1;have l1:Le h h1:=by rw[e1];exact Le.set f1
 have Bt:h1 tb=some (.cells #[.string T.S.name,.slice b1 n1 c1,.int .i64 T.S.key,.bool T.S.only,.slice b2 n2 c2] 51 (0,0)):=by rw[e1];exact ae
 clear e1;cbv;repeat (first| (rw[ai A,ai A];refine ar Bt rfl rfl ?_;cbv) | (rw[ai A];refine ar Bt rfl rfl ?_;cbv) | (refine ar Bt rfl rfl ?_;cbv) | (refine⟨⟨_,rfl,rfl⟩,?_⟩;cbv))
 refine iz hT.nm.nm (fun c hh=>(hT.rS c hh).nm) (vZ.mono (l1.t _)) T.S.key T.S.only b2 n2 c2 (fun h2 cb cn cc l2 qb=>?_);rw[<-jy]at qb;cbv;intro ob h3 f3 e3;have l3:Le h2 h3:=by rw[e3];exact Le.set f3
 have GH:h3 ob=some (.cells #[.slice none 0 0] 240 (0,0)):=by rw[e3];exact ae
 have lB:Le h2 (Sx.cI h3 ob):=fun b o hb=>by
  rw[Sx.bV (fun e=>by rw[e,f3]at hb;cases hb)];exact l3 _ _ hb
 clear e3;obtain⟨B,hB⟩:∃B,B=Sx.cI h3 ob:=⟨_,rfl⟩;rw[<-hB]at lB;have Uo:Le B h3:=by rw[hB];exact Sx.dN h3 ob
 have Si:B ob=none:=by rw[hB];exact Sx.cO h3 ob
 have iI:=l1.trans l2;have pI:Le h B:=iI.trans lB;have g3:=(pI.trans Uo) _ _ g;have gtB:=lB _ _ (l2 _ _ Bt);have wq:=q3.len;have pS:=hx.Vu;obtain⟨P,hPe⟩:∃P,gh T.S.cols st.names []=P:=⟨_,rfl⟩;rw[hPe]at hP;have lW:=uK (cols:=T.S.cols) (names:=st.names) (l:=[]) (fun k hk=>by cases hk);have Ry:=sQ (cols:=T.S.cols) (names:=st.names) (l:=[]);rw[hPe]at lW Ry;obtain⟨I,bh⟩:∃I:Nat->ad->Prop,∀i h',I i h'=∃l,Ot B h' ob l/\l.length<=i/\gh T.S.cols (st.names.drop i) l=P:=⟨_,fun _ _=>rfl⟩;have hJ:I 0 h3:=by rw[bh];exact⟨[],⟨⟨none,0,0,GH,cK.nil⟩,Uo,Si⟩,Nat.le_refl _,hPe⟩
 clear hB hPe;cbv;repeat (first| (rw[ai A,ai A];refine ar g3 rfl rfl ?_;cbv) | (rw[ai A];refine ar g3 rfl rfl ?_;cbv) | (refine ar g3 rfl rfl ?_;cbv) | (refine⟨⟨_,rfl,rfl⟩,?_⟩;cbv))
 refine FA wq I hJ (fun i h' hI=>?_) (fun i nm h' hi wj hI _=>?_) (fun h' hI=>?_)
 ·rw[bh]at hI;obtain⟨l,qo,-⟩:=hI;exact q3.mono ((pI.trans qo.le).t _)
 ·rw[bh]at hI;obtain⟨l,qo,ra,he⟩:=hI;have hd:st.names.drop i=nm::st.names.drop (i+1):=by obtain⟨h1,h2⟩:=List.getElem?_eq_some_iff.1 wj;rw[List.drop_eq_getElem_cons h1,h2]
  rw[hd,my]at he;cases hf:jx T.S.cols nm with
  |mk kk is=>
   rw[hf]at he;replace he:(if is=false then(l,2)else if kk∈l then(l,7)else gh T.S.cols (st.names.drop (i+1)) (l++[kk]))=P:=he;refine SB qo (by omega) gtB (vZ.mono (pI.t _)) nm hf (fun h4 l' BU Cx=>⟨_,rfl,fun h0=>?_,fun h0=>?_⟩)
   ·by_cases Fk:is=false
    ·rw[if_pos Fk]at h0;cases h0
    ·rw[if_neg Fk]at h0 he Cx;by_cases hm:kk∈l
     ·rw[if_pos hm]at h0;cases h0
     ·rw[if_neg hm]at he Cx;rw[bh];refine⟨l',BU,?_,by rw[Cx];exact he⟩;rw[Cx,List.length_append,List.length_singleton];omega
   ·have hPP:P.2=(if is=false then 2 else if kk∈l then 7 else 0):=by
     by_cases Fk:is=false
     ·rw[if_pos Fk]at he |-;rw[<-he]
     ·rw[if_neg Fk]at he h0 |-;by_cases hm:kk∈l
      ·rw[if_pos hm]at he |-;rw[<-he]
      ·rw[if_neg hm]at h0;exact absurd rfl h0
    rw[<-hPP]at h0 |-;obtain⟨pl,pe⟩:=P;replace h0:pe≠0:=h0;replace hP:D=if pe≠0 then pe else if gF (aE T) T.S.cols (st.exprs.zip pl)≠0 then gF (aE T) T.S.cols (st.exprs.zip pl)else aG st.bB (aE T):=hP
    rw[if_pos h0]at hP;subst hP;have af:=hk h4 (pI.trans BU.le);have fe:A .aF .neq D 0=true:=by rw[ay A];exact decide_eq_true h0
    clear hk bh hJ;cbv;rw[fe];cbv;exact af
 ·rw[bh]at hI;obtain⟨pl,qo,ra,he⟩:=hI;rw[List.drop_of_length_le (by omega)]at he;replace he:(pl,0)=P:=he;subst he;replace hP:D=if gF (aE T) T.S.cols (st.exprs.zip pl)≠0 then gF (aE T) T.S.cols (st.exprs.zip pl)else aG st.bB (aE T):=hP
  replace lW:∀k∈pl,0<=k/\k<T.S.cols.length:=lW;replace lW:∀k∈pl,∃j,aP k j/\j<T.S.cols.length:=fun k hk=>⟨k.toNat,⟨by have:=lW k hk;omega⟩,by have:=lW k hk;omega⟩;obtain⟨ib,ip,ic,gi,qi⟩:=qo.out;have qi:=qi.sl;have hip:=qi.len;have TQ:=pI.trans qo.le;have g':=TQ _ _ g;have gt':=qo.le _ _ gtB;have OE:=q4.mono (TQ.t _);have wD:=q6.mono (TQ.t _);have qcl':=vZ.mono (TQ.t _);have OC:=qb.sl.mono ((lB.trans qo.le).t _);have MZ:=q4.len;have Gz:=vZ.len;have hexl:=hx.len;have hexo:=hx.exprs;have hebd:=q4.bound;have JF:A .aF .neq 0 0=false:=by rw[ay A];rfl
  obtain⟨m,hm⟩:∃m,A .kQ (A .nat Ae) (A .nat ip)=m:=⟨_,rfl⟩;have I7:aP m (min Ae ip):=⟨by rw[<-hm,hA.kQ,hA.nat];exact(IM Ae ip).symm⟩;obtain⟨M,hMe⟩:∃M,M=min Ae ip:=⟨_,rfl⟩;rw[<-hMe]at I7;have cy:0<=m/\m<=(A6:Int):=by have:=I7.eq;omega
  have WN:=dv (A:=A) I7;obtain⟨EB,hEB⟩:∃EB,A .cut Ef 0 (A .nat A6) 1=EB:=⟨_,rfl⟩;have qE:Sl 42 eR h' (.slice EB M A6) (st.exprs.take M):=by rw[<-hEB];exact Sl.Dl (OE.sN (A:=A) (z:=A .nat A6) (i:=M) (by omega) rfl rfl) (by omega)
  obtain⟨K,hK⟩:∃K,gF (aE T) T.S.cols (st.exprs.zip pl)=K:=⟨_,rfl⟩;rw[hK]at hP;have E8:(st.exprs.zip pl).length=M:=by rw[List.length_zip,hMe,<-MZ,<-hip]
  obtain⟨J,dI⟩:∃J:Nat->Int->ad->Prop,∀mm z h2,J mm z h2=∃i,aP z i/\i<=M/\mm=M-i/\Le h' h2/\gF (aE T) T.S.cols ((st.exprs.zip pl).drop i)=K:=⟨_,fun _ _ _=>rfl⟩;have Un:J M 0 h':=by rw[dI];exact⟨0,⟨rfl⟩,Nat.zero_le _,rfl,Le.refl _,hK⟩
  clear bh hJ hK;cbv;rw[JF];cbv;repeat (first| (rw[ai A,ai A];refine ar g' rfl rfl ?_;cbv) | (rw[ai A];refine ar g' rfl rfl ?_;cbv) | (refine ar g' rfl rfl ?_;cbv) | (rw[ai A,ai A];refine ar gi rfl rfl ?_;cbv) | (rw[ai A];refine ar gi rfl rfl ?_;cbv) | (refine ar gi rfl rfl ?_;cbv) | (refine⟨⟨_,rfl,rfl⟩,?_⟩;cbv))
  rw[hm];refine⟨cy,?_⟩;cbv;rw[WN,hEB];refine aZ.go (G:=Int) (fun z=>[(39,.v (.int .i64 z))]) (fun _=>[]) (fun mm z h2=>J mm z h2) M 0 ⟨?_,?_,?_⟩ Un ?_
  ·cbv
  ·cbv
  ·cbv
  ·intro mm z h4 hI;rw[dI]at hI;cbv;obtain⟨i,hz,hi,Ff,l4,hK⟩:=hI;have f1:A .aF .lss z (A .nat M)=decide (i<M):=hz.gE (aP.nat M);rw[f1];by_cases aI:i<M
   ·obtain⟨⟨x,kk⟩,DE⟩:=aD (xs:=st.exprs.zip pl) (i:=i) (by omega);obtain⟨MK,IW⟩:=List.getElem?_zip_eq_some.1 DE;replace MK:st.exprs[i]? =some x:=MK;replace IW:pl[i]? =some kk:=IW;have hxt:(st.exprs.take M)[i]? =some x:=by rw[List.getElem?_take,if_pos aI];exact MK
    obtain⟨jk,hjk,rO⟩:=lW kk (List.mem_of_getElem? IW);obtain⟨tc,htc⟩:=aD (xs:=T.S.cols) (i:=jk) (by omega);have Fi:=hjk.eq;have mI:0<=z/\z<(M:Int):=hz.ix aI;have wL:0<=z/\z<(ip:Int):=hz.ix (by omega);have Cz:0<=kk/\kk<(n1:Int):=hjk.ix (by omega);have eX:=hz.eq;have dz:=hz.succ (A:=A) (by omega);have iD:M-(i+1)<mm:=by omega
    have Jo:oQ T.S.cols kk=tc.kind:=by
     have:kk.toNat=jk:=by rw[Fi];exact Int.toNat_natCast jk
     unfold oQ;rw[this,htc]
    have xJ:(st.exprs.zip pl).drop i=(x,kk)::(st.exprs.zip pl).drop (i+1):=by obtain⟨h1,h2⟩:=List.getElem?_eq_some_iff.1 DE;rw[List.drop_eq_getElem_cons h1,h2]
    rw[xJ,Ak,Jo]at hK;have gH:∀h5,Le h' h5->gF (aE T) T.S.cols ((st.exprs.zip pl).drop (i+1))=K->J (M-(i+1)) (A .bA .add .i64 z 1) h5:=fun h5 l5 RN=>by
     rw[dI];exact⟨i+1,dz,aI,rfl,l5,RN⟩
    have hxo:=hexo x (List.mem_of_getElem? MK);have qE4:=qE.mono (l4.t _);have qi4:=qi.mono (l4.t _);have qc4:=qcl'.mono (l4.t _);have gi4:=l4 _ _ gi;have Fs:=l4 _ _ gt';have eE:=qE4.bF (by omega:0<M);have DG:=qi4.bF (by omega:0<ip);have hs3:=qc4.bF (by omega:0<n1);clear dI Un dz;rw[decide_eq_true aI];cbv;refine⟨⟨eE,mI⟩,?_⟩;cbv;refine nL qE4 hxt eX (fun xb xn xc qx=>?_);cbv;repeat (first| (rw[ai A,ai A];refine ar Fs rfl rfl ?_;cbv) | (rw[ai A];refine ar Fs rfl rfl ?_;cbv) | (refine ar Fs rfl rfl ?_;cbv) | (rw[ai A,ai A];refine ar gi4 rfl rfl ?_;cbv) | (rw[ai A];refine ar gi4 rfl rfl ?_;cbv) | (refine ar gi4 rfl rfl ?_;cbv) | (refine⟨⟨_,rfl,rfl⟩,?_⟩;cbv))
    refine⟨⟨DG,wL⟩,?_⟩;cbv;refine qi4.load IW eX (fun cs aJ=>?_);have aJ:cs=[.int .i64 kk]:=aJ;subst aJ;cbv;refine⟨⟨hs3,Cz⟩,?_⟩;cbv;refine qc4.js htc Fi (o:=1) (m:=1) (by decide) (fun cs aJ=>?_);obtain⟨rS,A3,D6⟩:=tc;have aJ:cs=[.string rS,.int .i64 A3,.bool D6]:=aJ;subst aJ;replace hK:(if eW x (aE T) A3≠0 then eW x (aE T) A3 else gF (aE T) T.S.cols ((st.exprs.zip pl).drop (i+1)))=K:=hK;cbv;refine yI hxo KW A3 qx (OC.mono (l4.t _)) (fun h5 e l5 he=>?_);rw[<-he]at hK;have fe:A .aF .neq e 0=decide (e≠0):=ay A ..;cbv;rw[fe];by_cases h0:e≠0
    ·rw[if_pos h0]at hK;rw[<-hK,if_pos h0]at hP;subst hP;have af:=hk h5 (TQ.trans (l4.trans l5));clear hk gH;rw[decide_eq_true h0];cbv;exact af
    ·rw[if_neg h0]at hK;have af:=gH h5 (l4.trans l5) hK;clear hk gH;rw[decide_eq_false h0];cbv;refine⟨M-(i+1),A .bA .add .i64 z 1,iD,⟨?_,?_,?_⟩,af⟩
     ·cbv
     ·cbv
     ·cbv
   ·rw[List.drop_of_length_le (by omega)]at hK;replace hK:0=K:=hK;rw[<-hK,if_neg (fun g=>g rfl)]at hP;have g4:=l4 _ _ g';clear dI Un;rw[decide_eq_false aI];cbv;repeat (first| (rw[ai A,ai A];refine ar g4 rfl rfl ?_;cbv) | (rw[ai A];refine ar g4 rfl rfl ?_;cbv) | (refine ar g4 rfl rfl ?_;cbv) | (refine⟨⟨_,rfl,rfl⟩,?_⟩;cbv))
    refine mL hx.bB KW (wD.mono (l4.t _)) (OC.mono (l4.t _)) (fun h5 e l5 he=>?_);rw[<-hP]at he;subst he;have af:=hk h5 (TQ.trans (l4.trans l5));clear hk;cbv;exact af
theorem uz(cols:List bM)(v:dc)(nm:ByteArray)(l:List (dc×ByteArray))(r:Row):oX cols ((v,nm)::l) r=oX cols l (r.set (jx cols nm).1.toNat v):=rfl
theorem zQ{cols:List bM}:∀ {l:List (dc×ByteArray)} {r:Row},(∀p∈l,kO p.1)->eD r->eD (oX cols l r)
 | [],r,_,h=>h
 | (v,nm)::l,r,hl,h=>by
  rw[uz];refine zQ (fun p hp=>hl p (List.mem_cons_of_mem _ hp)) fun x hx=>?_;rcases List.mem_or_eq_of_mem_set hx with hx|hx
  ·exact h x hx
  ·rw[hx];exact hl _ List.mem_cons_self
theorem zE{xs:List (List Nd)}{cols:List bM}{r l:Row}{e:Int}(h:ep xs cols r=(l,e)):l.length=xs.length\/l=[]:=by
 have key:∀ {xs:List (List Nd)} {m l:Row} {e:Int},mO cols r xs m=(l,e)->l.length=m.length+xs.length\/l=[]:=by
  intro xs;induction xs with
  |nil=>intro m l e h;cases h;exact .inl rfl
  |cons x xs ih=>
   intro m l e h;rw[pq]at h;generalize fW x cols r=p at h;obtain⟨v,f⟩:=p;have h:(if f≠0 then([],f)else mO cols r xs (m++[v]))=(l,e):=h;by_cases hf:f≠0
   ·rw[if_pos hf]at h;cases h;exact .inr rfl
   ·rw[if_neg hf]at h;rcases ih h with g|g
    ·left;simp at g |-;omega
    ·exact .inr g
 have:=key (m:=[]) h;simpa using this
theorem UH{h:ad}{pb:Nat}{d:DB}{s:Int}{st:aB}(q:di h pb d s st)(hx:eO st)(Je:st.kind=4){wb kb tb:Nat}(gw:h wb=some (.cells #[.pointer (some ⟨pb,0,none⟩)] 99 (0,0)))
 {T:cg} (hT:Tw T) {cb:Option Addr} {cn cc:Nat} (gk:h kb=some (.cells #[.slice cb cn cc] 38 (0,0))) (qk:Sl 165 aT h (.slice cb cn cc) (aE T)) {b1:Option Addr} {n1 c1:Nat} {b2:Option Addr} {n2 c2:Nat} (gt:h tb=some (.cells #[.string T.S.name,.slice b1 n1 c1,.int .i64 T.S.key,.bool T.S.only,.slice b2 n2 c2] 51 (0,0))) (vZ:Sl 165 aT h (.slice b1 n1 c1) T.S.cols)
 {r:Row} (hr:r∈T.rows) {rb:Option Addr} {rn rc:Nat} (qr:Sl 61 aQ h (.slice rb rn rc) r):
 Ct 89 [.slice rb rn rc,.pointer (some ⟨wb,0,none⟩),.pointer (some ⟨kb,0,none⟩),.pointer (some ⟨tb,0,none⟩)] h (fun v fX=>∃b n c,v=.tuple #[.slice b n c,.int .i64 (jP T st r).2]/\Le h fX/\Sl 61 aQ fX (.slice b n c) (jP T st r).1):=by
 obtain⟨A,hA⟩:=Ar.ex;have KW:∀c∈aE T,Nm c.name:=fun c sC=>by
  obtain⟨c0,h1,h2⟩:=List.mem_map.1 sC;rw[<-h2];exact lp hT.nm (hT.rS c0 h1)
 have Bp:r.length=2:=by obtain⟨_,_,e,-⟩:=(hT.row r hr).1;rw[e];rfl
 have Gz:T.S.cols.length=2:=by
  rcases hT.cols with h| ⟨-,h⟩
  ·rw[h];rfl
  ·rw[h]at hr;cases hr
 have hfi:∀nm z t,(z,t)=jx T.S.cols nm->∃j,aP z j/\j<2:=fun nm z t h=>by
  cases t with
  |true=>have:=AQ h.symm;exact⟨z.toNat,⟨by omega⟩,by omega⟩
  |false=>
   unfold jx at h;cases hf:eZ T.S.cols nm 0 with
   |none=>rw[hf]at h;cases h;exact⟨0,⟨rfl⟩,by decide⟩
   |some i=>rw[hf]at h;cases h
 have hP:jP T st r=match ep st.exprs (aE T) r with
  | (l,e)=>(oX T.S.cols (l.zip st.names) r,e):=rfl
 generalize jP T st r=D at *;have hrin:=(hT.row r hr).2;have vg:=hx.names Je;have pS:=hx.Vu;refine q.elim (fun Lj KH Lf Li KG Ld Lh KF Lb Lg KE K9 Gd EV FU Gc EU FT Gb B1 FR Ef Ae A6 Ga ET FQ sI sf sH g qd q1 q2 q3 q4 q5 q6=>?_);clear q1 q2 q5 q6 qd;have wq:=q3.len;refine ah A (aq T89.ax T89.bm) Tryz.func89 rfl (by kernel_rfl) ?_;cbv;repeat (first| (rw[ai A,ai A];refine ar gw rfl rfl ?_;cbv) | (rw[ai A];refine ar gw rfl rfl ?_;cbv) | (refine ar gw rfl rfl ?_;cbv) | (rw[ai A,ai A];refine ar gk rfl rfl ?_;cbv) | (rw[ai A];refine ar gk rfl rfl ?_;cbv) | (refine ar gk rfl rfl ?_;cbv) | (rw[ai A,ai A];refine ar g rfl rfl ?_;cbv) | (rw[ai A];refine ar g rfl rfl ?_;cbv) | (refine ar g rfl rfl ?_;cbv) | (refine⟨⟨_,rfl,rfl⟩,?_⟩;cbv))
 refine ye hx.exprs KW hrin hx.len q4 qk qr (fun h1 lb ln lc l e l1 KQ qv hvi=>?_);have hvl:=zE KQ.symm;rw[<-KQ]at hP;replace hP:D=(oX T.S.cols (l.zip st.names) r,e):=hP;have qv:=qv.sl;have ra:=qv.len;have xI:l.length<=st.names.length:=by
  rcases hvl with h|h
  ·omega
  ·rw[h];exact Nat.zero_le _
 cbv;refine(ma (qr.mono (l1.t _))).mono (fun v h2 hR=>?_);obtain⟨l2,b',c',hv,qb⟩:=hR;subst hv;rcases qb.out with ⟨b0,h1,h2⟩ | ⟨nb,cap,ge,gn,oo⟩
 ·rw[h2]at Bp;cases Bp
 have hrn:rn=2:=by rw[qr.len];exact Bp
 obtain⟨rfl,Fo⟩:b'=some ⟨nb,0,none⟩/\cap=c':=by cases ge;exact⟨rfl,rfl⟩
 subst Fo;have iI:=l1.trans l2;obtain⟨Fr,hF⟩:∃Fr,oX T.S.cols (l.zip st.names) r=Fr:=⟨_,rfl⟩;rw[hF]at hP;have gn0:h nb=none:=l1.none gn;have hnx2:(l.zip st.names).length=ln:=by rw[List.length_zip,ra];omega
 obtain⟨I,bh⟩:∃I:Nat->Int->ad->Prop,∀m z h',I m z h'=∃i R,aP z i/\i<=ln/\m=ln-i/\Kp [nb] h2 h'/\dq 61 aQ h' nb cap R/\R.length=2/\oX T.S.cols ((l.zip st.names).drop i) R=Fr:=⟨_,fun _ _ _=>rfl⟩;have hJ:I ln 0 h2:=by rw[bh];exact⟨0,r,⟨rfl⟩,Nat.zero_le _,rfl,Kp.refl _ _,oo,Bp,hF⟩
 have qv2:=qv.mono (l2.t _);have hlb:=qv.bound;have IA:∀h',Kp [nb] h2 h'->Le h h':=fun h' k2=>iI.cm (fun b hb=>by rw[List.mem_singleton.1 hb];exact gn0) k2;have OP:∀h',Kp [nb] h2 h'->Le h1 h':=fun h' k2=>l2.cm (fun b hb=>by rw[List.mem_singleton.1 hb];exact gn) k2;clear oo qb ge hF KQ hvl;cbv;refine aZ.go (G:=Int) (fun z=>[(29,.v (.int .i64 z))]) (fun _=>[]) (fun m z h'=>I m z h') ln 0 ⟨?_,?_,?_⟩ hJ ?_
 ·cbv
 ·cbv
 ·cbv
 ·intro m z h3 hI;rw[bh]at hI;cbv;obtain⟨i,R,hz,hi,hm,k3,oo,hRl,hF⟩:=hI;have f1:A .aF .lss z (A .nat ln)=decide (i<ln):=hz.gE (aP.nat ln);rw[f1];by_cases aI:i<ln
  ·obtain⟨⟨v,nm⟩,hvn⟩:=aD (xs:=l.zip st.names) (i:=i) (by omega);obtain⟨MK,IW⟩:=List.getElem?_zip_eq_some.1 hvn;replace MK:l[i]? =some v:=MK;replace IW:st.names[i]? =some nm:=IW;have cy:0<=z/\z<(ln:Int):=hz.ix aI;have mI:0<=z/\z<(B1:Int):=hz.ix (by omega);have eX:=hz.eq;have dz:=hz.succ (A:=A) (by omega);have iD:ln-(i+1)<m:=by omega
   have xJ:(l.zip st.names).drop i=(v,nm)::(l.zip st.names).drop (i+1):=by obtain⟨h1,h2⟩:=List.getElem?_eq_some_iff.1 hvn;rw[List.drop_eq_getElem_cons h1,h2]
   rw[xJ,uz]at hF;have QU:=IA h3 k3;have qv3:=qv.mono ((OP h3 k3).t _);have q33:=q3.mono (QU.t _);have g3:=QU _ _ g;have pU:=QU _ _ gw;have K3:=QU _ _ gt;have eE:=qv3.bF (by omega:0<ln);have DG:=q33.bF (by omega:0<B1);have hfi:=hfi nm;have cU:∀h4 j,Kp [nb] h3 h4->dq 61 aQ h4 nb cap (R.set j v)->(jx T.S.cols nm).1.toNat=j->I (ln-(i+1)) (A .bA .add .i64 z 1) h4:=fun h4 j k4 o4 hj=>by
    rw[bh];exact⟨i+1,R.set j v,dz,aI,rfl,k3.trans k4,o4,by rw[List.length_set];exact hRl,by rw[<-hj];exact hF⟩
   clear bh hJ dz IA OP;rw[decide_eq_true aI];cbv;refine⟨⟨eE,cy⟩,?_⟩;cbv;refine qv3.load MK eX (fun cs aJ=>?_);replace aJ:cs=[.int .i64 v.k,.int .i64 v.n,.string v.s]:=aJ;subst aJ;cbv;repeat (first| (rw[ai A,ai A];refine ar K3 rfl rfl ?_;cbv) | (rw[ai A];refine ar K3 rfl rfl ?_;cbv) | (refine ar K3 rfl rfl ?_;cbv) | (rw[ai A,ai A];refine ar pU rfl rfl ?_;cbv) | (rw[ai A];refine ar pU rfl rfl ?_;cbv) | (refine ar pU rfl rfl ?_;cbv) | (rw[ai A,ai A];refine ar g3 rfl rfl ?_;cbv) | (rw[ai A];refine ar g3 rfl rfl ?_;cbv) | (refine ar g3 rfl rfl ?_;cbv) | (refine⟨⟨_,rfl,rfl⟩,?_⟩;cbv))
   refine⟨⟨DG,mI⟩,?_⟩;cbv;refine q33.load IW eX (fun cs aJ=>?_);replace aJ:cs=[.string nm]:=aJ;subst aJ;cbv;refine Pz (vZ.mono (QU.t _)) (fun h4 zf t l4 hzf=>?_);obtain⟨j,hzj,Gv⟩:=hfi zf t hzf;have hjj:(jx T.S.cols nm).1.toNat=j:=by rw[<-hzf,hzj.eq];exact Int.toNat_natCast j
   have wL:0<=zf/\zf<(rn:Int):=hzj.ix (by omega);have hzje:=hzj.eq;cbv;refine⟨⟨rfl,wL⟩,?_⟩;cbv;refine(oo.mono (l4.t _)).setAt (by decide) (i:=j) (by omega) hzje rfl (x:=v) rfl (fun h5 k5 t5 o5=>?_);have af:=cU h5 j ((l4.kp _).trans k5) o5 hjj;clear cU;cbv;refine⟨ln-(i+1),A .bA .add .i64 z 1,iD,⟨?_,?_,?_⟩,af⟩
   ·cbv
   ·cbv
   ·cbv
  ·rw[List.drop_of_length_le (by omega)]at hF;replace hF:R=Fr:=hF;subst hF;subst hP;have QU:=IA h3 k3;have sfin:Sl 61 aQ h3 (.slice (some ⟨nb,0,none⟩) rn cap) R:=oo.sl (by omega);clear bh hJ;rw[decide_eq_false aI];cbv;exact⟨_,_,_,rfl,QU,sfin⟩
theorem rE{w:List Nd}{cols:List bM}{f:Row->Row×Int}:∀ {rows:List Row} {xs ys:List Row},∀x∈(cR w cols f rows (xs,ys)).1.2,x∈ys\/∃r∈rows,x=(f r).1
 | [],xs,ys,x,h=>.inl h
 |r::rs,xs,ys,x,h=>by
  rw[iA]at h;have hs:∀x∈(dV w cols f r xs ys).1.2,x∈ys\/∃r'∈r::rs,x=(f r').1:=fun x hx=>by
   unfold dV at hx;generalize cW w cols r=H at hx;obtain⟨is,e⟩:=H;have hx:x∈(if e≠0 then((xs,ys),e)else if is=false then((xs,ys),0)else((xs++[r],ys++[(f r).1]),(f r).2):(List Row×List Row)×Int).1.2:=hx;split at hx
   ·exact .inl hx
   ·split at hx
    ·exact .inl hx
    ·rcases List.mem_append.1 hx with hx|hx
     ·exact .inl hx
     ·rcases List.mem_cons.1 hx with hx|hx
      ·exact .inr ⟨r,List.mem_cons_self,hx⟩
      ·cases hx
  by_cases c:(dV w cols f r xs ys).2≠0
  ·rw[if_pos c]at h;exact hs x h
  ·rw[if_neg c]at h;generalize dV w cols f r xs ys=E at *;obtain⟨⟨a,b⟩,e⟩:=E;rcases rE x h with h| ⟨r',h1,h2⟩
   ·exact hs x h
   ·exact .inr ⟨r',List.mem_cons_of_mem _ h1,h2⟩
theorem Db{s:Int}{nm:ByteArray}(hs:-2^63<=s/\s<2^63):∀ {rows:List Row} {n:Nat} {d:DB},(∀r∈rows,fc r)->EJ n d->EJ (n+rows.length) (fB s nm rows d).1
 | [],n,d,_,h=>h
 |x::r,n,d,hr,h=>by
  have h1:=h.take nm hs (hr x List.mem_cons_self);show EJ _ (tq (fun d r=>jq d s nm (jI d nm r)) (x::r) d).1;rw[vI];generalize jq d s nm (jI d nm x)=H at *;obtain⟨d1,e⟩:=H;show EJ _ (if e≠0 then(d1,e)else fB s nm r d1).1;by_cases h0:e≠0
  ·rw[if_pos h0];exact EJ.le h1 (by simp only[List.length_cons];omega)
  ·rw[if_neg h0];exact(Db hs (fun y hy=>hr y (List.mem_cons_of_mem _ hy)) h1).le (by simp only[List.length_cons];omega)
theorem Vi{h:ad}{pb:Nat}{d:DB}{s:Int}{st:aB}(q:di h pb d s st){n:Nat}(ej:EJ n d){rows:List Row}(hr:∀r∈rows,eD r)(wq:n+rows.length+2<2^18)(gu:-2^63<=s/\s<2^63){rb:Option Addr}{rn rc:Nat}(qr:Sl 59 az h (.slice rb rn rc) rows)
 {D:DB×Int} (hD:o0 s st.table rows d=D) {k:Value->ad->Prop} (hk:∀h',Kp [pb] h h'->di h' pb D.1 s st->k (.int .i64 D.2) h'):
 Ct 92 [.slice rb rn rc,.func (.func 94) #[.pointer (some ⟨pb,0,none⟩)] #[]] h k:=by
 have hn:=qr.len;obtain⟨I,bh⟩:∃I:Nat->ad->Prop,∀i h',I i h'=∃d',di h' pb d' s st/\EJ (n+i) d'/\Kp [pb] h h'/\o0 s st.table (rows.drop i) d'=D:=⟨_,fun _ _=>rfl⟩;have hJ:I 0 h:=by rw[bh];exact⟨d,q,ej,Kp.refl _ _,hD⟩
 refine JC hn I hJ (fun i h' hI=>?_) (fun i x h' b1 n1 c1 hi hx hI hv=>?_) (fun h' hI=>?_)
 ·rw[bh]at hI;obtain⟨d',q',CO,kp,-⟩:=hI;exact qr.mono (q.kp kp (by decide))
 ·rw[bh]at hI;obtain⟨d',q',CO,kp,he⟩:=hI;have hd:rows.drop i=x::rows.drop (i+1):=by obtain⟨h1,h2⟩:=List.getElem?_eq_some_iff.1 hx;rw[List.drop_eq_getElem_cons h1,h2]
  have Ck:=hr x (List.mem_of_getElem? hx);rw[hd]at he;replace he:(match jJ d' s st.table x with
   | (d2,e)=>if e≠0 then(d2,e)else o0 s st.table (rows.drop (i+1)) d2)=D:=he
  have Xv:=CO.put st.table gu Ck;refine putW q' CO.sj.zs (by omega) gu hv (fun h2 k2 q2=>⟨_,rfl,fun h0=>?_,fun h0=>?_⟩)
  ·generalize jJ d' s st.table x=E at *;obtain⟨d2,e⟩:=E;replace he:(if e≠0 then(d2,e)else o0 s st.table (rows.drop (i+1)) d2)=D:=he;rw[if_neg (fun g=>g h0)]at he;rw[bh];exact⟨d2,q2,Xv,kp.trans k2,he⟩
  ·generalize jJ d' s st.table x=E at *;obtain⟨d2,e⟩:=E;replace he:(if e≠0 then(d2,e)else o0 s st.table (rows.drop (i+1)) d2)=D:=he;rw[if_pos h0]at he;subst he;exact hk h2 (kp.trans k2) q2
 ·rw[bh]at hI;obtain⟨d',q',CO,kp,he⟩:=hI;rw[List.drop_of_length_le (by omega)]at he;have he:(d',0)=D:=he;subst he;exact hk h' kp q'
def tD(d:DB)(s:Int)(x:aB)(T:cg):DB×Int:=
 if pk T x≠0 then(d,pk T x)else match cR x.bB (aE T) (jP T x) T.rows ([],[])with
  | (p,e)=>if e≠0 then(d,e)else match fB s x.table p.1 d with
   | (d,e)=>if e≠0 then(d,e)else o0 s x.table p.2 d
theorem Ft{T:cg}{st:aB}(hx:eO st){r:Row}(hr:eD r):eD (jP T st r).1:=by
 unfold jP;generalize hv:ep st.exprs (aE T) r=p;obtain⟨l,e⟩:=p;show eD (oX T.S.cols (l.zip st.names) r);refine zQ (fun p hp=>?_) hr;have hm:p.1∈l:=(List.of_mem_zip hp).1;have key:∀ {xs:List (List Nd)} {m l:Row} {e:Int},(∀ex∈xs,∀n∈ex,kO n.v)->(∀v∈m,kO v)->mO (aE T) r xs m=(l,e)->∀v∈l,kO v:=by
  intro xs;induction xs with
  |nil=>intro m l e _ hm h;cases h;exact hm
  |cons x xs ih=>
   intro m l e hn hm h;rw[pq]at h;cases hp:fW x (aE T) r with
   |mk v f=>
   rw[hp]at h;have h:(if f≠0 then([],f)else mO (aE T) r xs (m++[v]))=(l,e):=h;by_cases hf:f≠0
   ·rw[if_pos hf]at h;cases h;exact fun v hv=>by cases hv
   ·rw[if_neg hf]at h;refine ih (fun ex he=>hn ex (List.mem_cons_of_mem _ he)) (fun w hw=>?_) h;rcases List.mem_append.1 hw with hw|hw
    ·exact hm w hw
    ·rw[List.mem_singleton.1 hw];exact x8 (hn x List.mem_cons_self) hr hp
 exact key (fun ex he n hn=>(hx.exprs ex he n hn).2) (fun v hv=>by cases hv) hv p.1 hm
theorem Ov{h:ad}{pb:Nat}{d:DB}{s:Int}{st:aB}(q:di h pb d s st)(hx:eO st)(Je:st.kind=4){n:Nat}(ej:EJ n d)(wq:n+600<2^18)(gu:-2^63<=s/\s<2^63){wb tb:Nat}(gw:h wb=some (.cells #[.pointer (some ⟨pb,0,none⟩)] 99 (0,0)))
 {T:cg} (hT:Tw T) {b1:Option Addr} {n1 c1:Nat} {b2:Option Addr} {n2 c2:Nat} (gt:h tb=some (.cells #[.string T.S.name,.slice b1 n1 c1,.int .i64 T.S.key,.bool T.S.only,.slice b2 n2 c2] 51 (0,0))) (vZ:Sl 165 aT h (.slice b1 n1 c1) T.S.cols) (L4:Sl 59 az h (.slice b2 n2 c2) T.rows)
 {k:Value->ad->Prop} (hk:∀h',Kp [pb] h h'->di h' pb (tD d s st T).1 s st->k (.int .i64 (tD d s st T).2) h'):
 Ct 85 [.pointer (some ⟨wb,0,none⟩),.pointer (some ⟨tb,0,none⟩)] h k:=by
 obtain⟨A,hA⟩:=Ar.ex;have pK:tD d s st T=if pk T st≠0 then(d,pk T st)else match cR st.bB (aE T) (jP T st) T.rows ([],[])with
  | (p,e)=>if e≠0 then(d,e)else match fB s st.table p.1 d with
   | (d,e)=>if e≠0 then(d,e)else o0 s st.table p.2 d:=rfl
 generalize tD d s st T=D at *;have nw:wb≠pb:=fun e=>by
  obtain⟨c,hc⟩:=q.has;rw[e,hc]at gw;cases gw
 refine ah A (aq T85.ax T85.bm) Tryz.func85 rfl (by kernel_rfl) ?_;cbv;repeat (first| (rw[ai A,ai A];refine ar gw rfl rfl ?_;cbv) | (rw[ai A];refine ar gw rfl rfl ?_;cbv) | (refine ar gw rfl rfl ?_;cbv) | (rw[ai A,ai A];refine ar gt rfl rfl ?_;cbv) | (rw[ai A];refine ar gt rfl rfl ?_;cbv) | (refine ar gt rfl rfl ?_;cbv) | (refine⟨⟨_,rfl,rfl⟩,?_⟩;cbv))
 refine SA q hx hT vZ (fun h1 l1=>?_);generalize pk T st=e at *;have fe:A .aF .neq e 0=decide (e≠0):=ay A ..;have Vh:=q.mono l1;have kT:=l1 _ _ gw;have Bt:=l1 _ _ gt;by_cases h0:e≠0
 ·rw[if_pos h0]at pK;subst pK;have af:=hk h1 (l1.kp _) Vh;clear hk;cbv;rw[fe,decide_eq_true h0];cbv;exact af
 rw[if_neg h0]at pK;cbv;rw[fe,decide_eq_false h0];cbv;repeat (first| (rw[ai A,ai A];refine ar Bt rfl rfl ?_;cbv) | (rw[ai A];refine ar Bt rfl rfl ?_;cbv) | (refine ar Bt rfl rfl ?_;cbv) | (refine⟨⟨_,rfl,rfl⟩,?_⟩;cbv))
 refine iz hT.nm.nm (fun c hh=>(hT.rS c hh).nm) (vZ.mono (l1.t _)) T.S.key T.S.only b2 n2 c2 (fun h2 cb cn cc l2 qb=>?_);rw[<-jy]at qb;cbv;intro kb h3a f3 e3;have l3a:Le h2 h3a:=by rw[e3];exact Le.set f3
 have gka:h3a kb=some (.cells #[.slice none 0 0] 38 (0,0)):=by rw[e3];exact ae
 clear e3;cbv;refine eH gka (by simp) (fun h3 e3=>?_);have l3:Le h2 h3:=fun b o hb=>by rw[e3,av (fun e=>by rw[e,f3]at hb;cases hb)];exact l3a _ _ hb
 have Pq:h3 kb=some (.cells #[.slice cb cn cc] 38 (0,0)):=by rw[e3];exact ae
 have qO:=l1.trans (l2.trans l3);have Qo:=q.mono qO;have pU:=qO _ _ gw;have K3:=qO _ _ gt;have qk3:=qb.sl.mono (l3.t _);clear e3 qb;cbv;repeat (first| (rw[ai A,ai A];refine ar pU rfl rfl ?_;cbv) | (rw[ai A];refine ar pU rfl rfl ?_;cbv) | (refine ar pU rfl rfl ?_;cbv) | (rw[ai A,ai A];refine ar K3 rfl rfl ?_;cbv) | (rw[ai A];refine ar K3 rfl rfl ?_;cbv) | (refine ar K3 rfl rfl ?_;cbv) | (refine⟨⟨_,rfl,rfl⟩,?_⟩;cbv))
 obtain⟨Cc,hC⟩:∃Cc,Cc=cR st.bB (aE T) (jP T st) T.rows ([],[]):=⟨_,rfl⟩;have fU:∀x∈Cc.1.1,fc x:=fun x wj=>by
  rw[hC]at wj;rcases nZ x wj with h|h
  ·cases h
  ·exact(hT.row x h).1
 have I8:∀x∈Cc.1.2,eD x:=fun x wj=>by
  rw[hC]at wj;rcases rE x wj with h| ⟨r,h1,h2⟩
  ·cases h
  ·rw[h2];exact Ft hx (hT.row r h1).2
 have hlen:Cc.1.1.length<=200/\Cc.1.2.length<=200:=by rw[hC];have h1:=(oa (w:=st.bB) (cols:=aE T) (f:=jP T st) (rows:=T.rows) (xs:=[]) (ys:=[]));have h2:=hT.len;simp only[List.length_nil]at h1;omega
 rw[<-hC]at pK;refine NQ Qo hx hT.nm hT.rS (fun r hr=>(hT.row r hr).2) (by have:=hT.len;omega) (vZ.mono (qO.t _)) (L4.mono (qO.t _)) (f:=jP T st) (fun h' r rb rn rc l hr qrr=>UH (Qo.mono l) hx Je (l _ _ pU) hT (l _ _ Pq) (qk3.mono (l.t _)) (l _ _ K3) (vZ.mono ((qO.trans l).t _)) hr qrr) hC (fun h4 UA n1' GJ b2' n2' c2' l4 s1 s2=>?_);obtain⟨⟨xs,ys⟩,e2⟩:=Cc;replace s1:Sl 59 az h4 (.slice UA n1' GJ) xs:=s1;replace s2:Sl 59 az h4 (.slice b2' n2' c2') ys:=s2;replace pK:D=if e2≠0 then(d,e2)else match fB s st.table xs d with
  | (d,e)=>if e≠0 then(d,e)else o0 s st.table ys d:=pK
 replace fU:∀x∈xs,fc x:=fU;replace I8:∀x∈ys,eD x:=I8;obtain⟨hlx,hly⟩:xs.length<=200/\ys.length<=200:=hlen;have NF:A .aF .eql e2 0=decide (e2=0):=aw A ..;have OE:=Qo.mono l4;have wy:=l4 _ _ pU;have VR:=(qO.trans l4).kp [pb];clear hC;by_cases h2:e2=0
 ·rw[if_neg (fun g=>g h2)]at pK;cbv;rw[NF,decide_eq_true h2];cbv;repeat (first| (rw[ai A,ai A];refine ar wy rfl rfl ?_;cbv) | (rw[ai A];refine ar wy rfl rfl ?_;cbv) | (refine ar wy rfl rfl ?_;cbv) | (refine⟨⟨_,rfl,rfl⟩,?_⟩;cbv))
  have ej5:=Db (nm:=st.table) gu fU ej;refine Hk OE ej fU (by omega) gu s1 (D:=fB s st.table xs d) rfl (fun h5 k5 q5=>?_);generalize fB s st.table xs d=E at *;obtain⟨d5,e5⟩:=E;replace q5:di h5 pb d5 s st:=q5;replace ej5:EJ (n+xs.length) d5:=ej5;replace pK:D=if e5≠0 then(d5,e5)else o0 s st.table ys d5:=pK
  have fe5:A .aF .eql e5 0=decide (e5=0):=aw A ..;have pj:=k5 _ _ wy (by simpa using nw);have EE:=s2.mono (OE.kp k5 (by decide));have DC:=VR.trans k5;by_cases h5e:e5=0
  ·rw[if_neg (fun g=>g h5e)]at pK;cbv;rw[fe5,decide_eq_true h5e];cbv;repeat (first| (rw[ai A,ai A];refine ar pj rfl rfl ?_;cbv) | (rw[ai A];refine ar pj rfl rfl ?_;cbv) | (refine ar pj rfl rfl ?_;cbv) | (refine⟨⟨_,rfl,rfl⟩,?_⟩;cbv))
   refine Vi q5 ej5 I8 (by omega) gu EE pK.symm (fun h6 k6 q6=>?_);have af:=hk h6 (DC.trans k6) q6;clear hk;cbv;exact af
  ·rw[if_pos h5e]at pK;subst pK;have af:=hk h5 DC q5;clear hk;cbv;rw[fe5,decide_eq_false h5e];cbv;exact af
 ·rw[if_pos h2]at pK;subst pK;have af:=hk h4 VR OE;clear hk;cbv;rw[NF,decide_eq_false h2];cbv;rw[NF,decide_eq_false h2];cbv;exact af
theorem updW{h:ad}{pb:Nat}{d:DB}{s:Int}{st:aB}(q:di h pb d s st)(hx:eO st)(Je:st.kind=4){n:Nat}(ej:EJ n d)(iq:n+700<2^18)(gu:-2^63<=s/\s<2^63){k:Value->ad->Prop}
 (hk:∀h',Kp [pb] h h'->di h' pb (jd d s st).1 s st->k (.tuple #[.slice none 0 0,.int .i64 (jd d s st).2.2]) h'):
 Ct 42 [.pointer (some ⟨pb,0,none⟩)] h k:=by
 obtain⟨A,hA⟩:=Ar.ex;have hP:jd d s st=match aO d ⟨s,st.table,true⟩with
  | (d,e)=>if e≠0 then(d,[],e)else if(bU d st.table).S.only=true then(d,[],19)else cC d (tD d s st (bU d st.table)):=rfl
 generalize jd d s st=D at *;have JK:=ej.hold ⟨s,st.table,true⟩ gu;obtain⟨c,hp⟩:=q.has;refine q.elim (fun b1 n1 c1 b2 n2 c2 b3 n3 c3 b4 n4 c4 b5 n5 c5 b6 n6 c6 b7 n7 c7 b8 n8 c8 b9 n9 c9 eQ fJ eP g qd q1 q2 q3 q4 q5 q6=>?_);clear q1 q2 q3 q4 q5 q6;refine ah A (aq T42.ax T42.bm) Tryz.func42 rfl (by kernel_rfl) ?_;cbv;intro wb h1 gn e1;have l1:Le h h1:=by rw[e1];exact Le.set gn
 have kT:h1 wb=some (.cells #[.pointer (some ⟨pb,0,none⟩)] 99 (0,0)):=by rw[e1];exact ae
 have nw:wb≠pb:=fun e=>by rw[e,hp]at gn;cases gn
 have g1:=l1 _ _ g;clear e1;cbv;refine ar kT rfl rfl ?_;cbv;refine ar kT rfl rfl ?_;cbv;first|rw[ai A,ai A] |rw[ai A] |skip
 refine ar g1 rfl rfl ?_;cbv;refine C6 (q.mono l1) ej.sj.zs (by omega) st.table true (fun h2 k2 q2=>?_);generalize aO d ⟨s,st.table,true⟩=H at *;obtain⟨d1,e⟩:=H;replace q2:di h2 pb d1 s st:=q2;replace JK:EJ (n+1) d1:=JK;replace hP:D=if e≠0 then(d1,[],e)else if(bU d1 st.table).S.only=true then(d1,[],19)else cC d1 (tD d1 s st (bU d1 st.table)):=hP
 have fe:A .aF .neq e 0=decide (e≠0):=ay A ..;have KM:Kp [pb] h h2:=(l1.kp _).trans k2;have kR:=k2 _ _ kT (by simpa using nw);by_cases h0:e≠0
 ·rw[if_pos h0]at hP;subst hP;have af:=hk h2 KM q2;clear hk;cbv;rw[fe,decide_eq_true h0];cbv;exact af
 ·rw[if_neg h0]at hP;have Fp:=JK.held st.table;refine q2.elim (fun Lj KH Lf Li KG Ld Lh KF Lb Lg KE K9 Gd EV FU Gc EU FT Gb B1 FR Ef Ae A6 Ga ET FQ sI sf sH g2 Qi q1 TH q3 q4 q5 q6=>?_);clear q1 TH q3 q4 q5 q6 Qi;cbv;rw[fe,decide_eq_false h0];cbv;refine ar kR rfl rfl ?_;cbv;refine ar kR rfl rfl ?_;cbv;first|rw[ai A,ai A] |rw[ai A] |skip
  refine ar g2 rfl rfl ?_;cbv;refine⟨?_,?_⟩
  ·refine td q2 st.table (fun T t1 u1 w1 t2 u2 w2 hT s1 s2=>?_);rw[<-hT]at Fp hP;clear hT;cbv;intro tb h4 f4 e4;have l4:Le h2 h4:=by rw[e4];exact Le.set f4
   have Fs:h4 tb=some (.cells #[.string ⟨#[]⟩,.slice none 0 0,.int .i64 0,.bool false,.slice none 0 0] 51 (0,0)):=by rw[e4];exact ae
   obtain⟨h3,rfl⟩:∃h3,h3=h2:=⟨_,rfl⟩;have g3:=g2;have pU:=kR;have Ce:=KM;have q3:=q2;clear e4;cbv;refine eH Fs (by simp) (fun h5 e5=>?_);have Jx:h5 tb=some (.cells #[.string T.S.name,.slice t1 u1 w1,.int .i64 T.S.key,.bool T.S.only,.slice t2 u2 w2] 51 (0,0)):=by rw[e5];exact ae
   have yF:Le h3 h5:=fun b o hb=>by rw[e5,av (fun e=>by rw[e,f4]at hb;cases hb)];exact l4 _ _ hb
   have AD:tb≠pb:=fun e=>by rw[e,g3]at f4;cases f4
   clear e5;obtain⟨PX,Cm⟩:∃b,b=T.S.only:=⟨_,rfl⟩;have Jw:=Jx;rw[<-Cm]at Jw;cbv;rw[ai A,ai A];refine ar Jw rfl rfl ?_;cbv;have pj:=yF _ _ pU;have DC:=Ce.trans (yF.kp [pb]);have q5:=q3.mono yF;cases PX with
   |true=>rw[<-Cm,if_pos rfl]at hP;subst hP;have af:=hk h5 DC q5;clear hk;cbv;exact af
   |false=>rw[<-Cm,if_neg (by simp)]at hP;have jj:∀h6,Le h5 h6->di h6 pb d1 s st->Ct 85 [.pointer (some ⟨wb,0,none⟩),.pointer (some ⟨tb,0,none⟩)] h6 (fun r h7=>r=.int .i64 (tD d1 s st T).2/\Kp [pb] h6 h7/\di h7 pb (tD d1 s st T).1 s st):=fun h6 l6 wD=>Ov wD hx Je JK (by omega) gu (l6 _ _ pj) Fp (l6 _ _ Jx) (s1.mono ((yF.trans l6).t _)) (s2.mono ((yF.trans l6).t _)) (fun h7 k7 q7=>⟨rfl,k7,q7⟩);generalize tD d1 s st T=E at *;cbv;refine ar pj rfl rfl ?_;cbv;refine zC q5 jj (fun h6 k6 wD=>?_);rw[<-hP]at wD |-;have af:=hk h6 (DC.trans k6) wD;clear hk jj;generalize D.2.2=De at *;cbv;exact af
  ·intro tb h4 f4 e4;have l4:Le h2 h4:=by rw[e4];exact Le.set f4
   have Fs:h4 tb=some (.cells #[.string ⟨#[]⟩,.slice none 0 0,.int .i64 0,.bool false,.slice none 0 0] 51 (0,0)):=by rw[e4];exact ae
   obtain⟨h3,rfl⟩:∃h3,h3=h2:=⟨_,rfl⟩;have g3:=g2;have pU:=kR;have Ce:=KM;have q3:=q2;have g4':=l4 _ _ g2;have Jv:=l4 _ _ kR;clear e4;cbv;refine ar g4' rfl rfl ?_;cbv;refine⟨⟨_,rfl,rfl⟩,?_⟩;cbv;refine ar Jv rfl rfl ?_;cbv;refine⟨⟨_,rfl,rfl⟩,?_⟩;cbv;refine ar Jv rfl rfl ?_;cbv;refine⟨⟨_,rfl,rfl⟩,?_⟩;cbv;refine td (q2.mono l4) st.table (fun T t1 u1 w1 t2 u2 w2 hT UU UT=>?_);rw[<-hT]at Fp hP;clear hT;cbv;refine eH Fs (by simp) (fun h5 e5=>?_);have Sp:h5 tb=some (.cells #[.string T.S.name,.slice t1 u1 w1,.int .i64 T.S.key,.bool T.S.only,.slice t2 u2 w2] 51 (0,0)):=by rw[e5];exact ae
   have qJ:bE [165,59,61] h4 h5:=by rw[e5];exact bE.set Fs (by decide)
   have s1:=UU.mono (qJ.sub (by decide));have s2:=UT.mono (qJ.sub (by decide));clear UU UT qJ Sp;have Jx:h5 tb=some (.cells #[.string T.S.name,.slice t1 u1 w1,.int .i64 T.S.key,.bool T.S.only,.slice t2 u2 w2] 51 (0,0)):=by rw[e5];exact ae
   have yF:Le h3 h5:=fun b o hb=>by rw[e5,av (fun e=>by rw[e,f4]at hb;cases hb)];exact l4 _ _ hb
   have AD:tb≠pb:=fun e=>by rw[e,g3]at f4;cases f4
   clear e5;obtain⟨PX,Cm⟩:∃b,b=T.S.only:=⟨_,rfl⟩;have Jw:=Jx;rw[<-Cm]at Jw;cbv;rw[ai A,ai A];refine ar Jw rfl rfl ?_;cbv;have pj:=yF _ _ pU;have DC:=Ce.trans (yF.kp [pb]);have q5:=q3.mono yF;cases PX with
   |true=>rw[<-Cm,if_pos rfl]at hP;subst hP;have af:=hk h5 DC q5;clear hk;cbv;exact af
   |false=>rw[<-Cm,if_neg (by simp)]at hP;have jj:∀h6,Le h5 h6->di h6 pb d1 s st->Ct 85 [.pointer (some ⟨wb,0,none⟩),.pointer (some ⟨tb,0,none⟩)] h6 (fun r h7=>r=.int .i64 (tD d1 s st T).2/\Kp [pb] h6 h7/\di h7 pb (tD d1 s st T).1 s st):=fun h6 l6 wD=>Ov wD hx Je JK (by omega) gu (l6 _ _ pj) Fp (l6 _ _ Jx) (s1.mono (l6.t _)) (s2.mono (l6.t _)) (fun h7 k7 q7=>⟨rfl,k7,q7⟩);generalize tD d1 s st T=E at *;cbv;refine ar pj rfl rfl ?_;cbv;refine zC q5 jj (fun h6 k6 wD=>?_);rw[<-hP]at wD |-;have af:=hk h6 (DC.trans k6) wD;clear hk jj;generalize D.2.2=De at *;cbv;exact af
end Go.S
