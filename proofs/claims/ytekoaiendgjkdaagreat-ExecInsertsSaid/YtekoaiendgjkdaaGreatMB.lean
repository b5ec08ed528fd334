import Derived.Test.YtekoaiendgjkdaaGreatMA
set_option linter.unusedVariables false
set_option linter.unusedSimpArgs false
set_option linter.unusedSectionVars false
set_option maxRecDepth 100000
set_option maxHeartbeats 8000000
namespace Go.S
open Go.Sx Go.Proofs
structure SC(d:DB):Prop where
 tw:TW d.aB
 oq:d.aq.Pairwise (fun a b=>a.s<b.s)
 qF:∀w∈d.aq,0<=w.s/\w.s<8
 log:∀w∈d.aq,(∀x∈w.log,yi d.aB x)/\w.log.length<=60
 MZ:MkOk d
 hu:HU d.holds
 hw:∀x∈d.holds,∃w∈d.aq,w.s=x.s
 hc:∀x∈d.holds,∀y∈d.holds,fC x y=false
 lg:∀w∈d.aq,∀c∈w.log,∃x∈d.holds,x.s=w.s/\x.table=c.table/\x.x=true
theorem SC.si{d:DB}{n:Nat}(q:SC d)(o:uR n d)(hn:n<=2^17):SI d:=⟨q.tw,q.oq,q.qF,q.log,Nat.le_trans o.holds hn,Nat.le_trans o.waits hn⟩
theorem GC{H:List bK}{hd:bK}:(lq H hd=none/\∀x∈H,jT hd x=false)\/∃i x,lq H hd=some i/\H[i]? =some x/\jT hd x=true:=by
 cases h:lq H hd with
 |none=>left;refine⟨rfl,?_⟩;unfold lq at h;exact List.findIdx?_eq_none_iff.1 h
 |some i=>right;unfold lq at h;obtain⟨h1,h2,-⟩:=List.findIdx?_eq_some_iff_getElem.1 h;exact⟨i,_,rfl,List.getElem?_eq_getElem h1,h2⟩
theorem GF{hd x:bK}(h:jT hd x=true):x.s=hd.s/\x.table=hd.table:=by unfold jT at h;simpa using h
theorem uN{H:List bK}(hd:bK):
 (bq H hd=true/\((bR H hd=H/\∃x∈H,x.s=hd.s/\x.table=hd.table/\(x.x|| !hd.x)=true)\/((∀y∈H,fC hd y=false)/\bR H hd=H++[hd]/\∀x∈H,jT hd x=false)\/
  ((∀y∈H,fC hd y=false)/\hd.x=true/\∃i x,H[i]? =some x/\x.s=hd.s/\x.table=hd.table/\bR H hd=H.set i hd)))\/(bq H hd=false/\bR H hd=H):=by
 have HL:H.any (fC hd)=false->∀y∈H,fC hd y=false:=fun h y hy=>by
  have:=List.any_eq_false.1 h y hy;simpa using this
 have fQ:bq H hd=false->bR H hd=H:=fun h=>by unfold bR;rw[h];rfl
 rcases GC (H:=H) (hd:=hd)with ⟨hm,aJ⟩ | ⟨i,x,hm,hx,hp⟩
 ·obtain⟨h1,h2,h3⟩:=IV (W:=[]) hm;cases ha:H.any (fC hd)with
  |false=>left;exact⟨by rw[h1,ha];rfl,.inr (.inl ⟨HL ha,h2 ha,aJ⟩)⟩
  |true=>
   right;have:bq H hd=false:=by rw[h1,ha];rfl
   exact⟨this,fQ this⟩
 ·obtain⟨e1,e2⟩:=GF hp;obtain⟨h1,h2⟩:=IU (W:=[]) hm hx hp;cases Hj:(x.x|| !hd.x)with
  |true=>left;obtain⟨h3,h4⟩:=h1 Hj;exact⟨h3,.inl ⟨h4,x,List.mem_of_getElem? hx,e1,e2,Hj⟩⟩
  |false=>
   obtain⟨h3,h4,h5⟩:=h2 Hj;cases ha:H.any (fC hd)with
   |false=>
    left;refine⟨by rw[h3,ha];rfl,.inr (.inr ⟨HL ha,?_,i,x,hx,e1,e2,?_⟩)⟩
    ·cases hh:hd.x with
     |true=>rfl
     |false=>rw[hh]at Hj;simp at Hj
    ·rw[h4 ha];have hh:hd.x=true:=by
      cases hh:hd.x with
      |true=>rfl
      |false=>rw[hh]at Hj;simp at Hj
     congr 1;cases hd;simp only at e1 e2 hh;rw[e1,e2,hh]
   |true=>
    right;have:bq H hd=false:=by rw[h3,ha];rfl
    exact⟨this,fQ this⟩
theorem Mq{H:List bK}(hd:bK)(h:bq H hd=true):∃x∈bR H hd,x.s=hd.s/\x.table=hd.table/\(x.x|| !hd.x)=true:=by
 rcases uN (H:=H) hd with ⟨-,h1⟩ | ⟨h1,-⟩
 ·rcases h1 with ⟨e,x,hx,h2⟩ | ⟨-,e,-⟩ | ⟨-,Hj,i,x,hx,e1,e2,e⟩
  ·exact⟨x,by rw[e];exact hx,h2⟩
  ·exact⟨hd,by rw[e];simp,rfl,rfl,by cases hd.x<;>rfl⟩
  ·refine⟨hd,?_,rfl,rfl,by rw[Hj];rfl⟩;rw[e];exact List.mem_iff_getElem?.2 ⟨i,List.getElem?_set_self (List.getElem?_eq_some_iff.1 hx).1⟩
 ·rw[h]at h1;cases h1
theorem wL(x:bK):fC x x=false:=by unfold fC;simp
theorem Rf{d:DB}(q:SC d){hd:bK}(hw:∃w∈d.aq,w.s=hd.s)(W':List bK):SC ⟨d.aB,d.aq,bR d.holds hd,W'⟩:=by
 rcases uN (H:=d.holds) hd with ⟨-,h1⟩ | ⟨-,e⟩
 ·rcases h1 with ⟨e,-⟩ | ⟨aJ,e,hm⟩ | ⟨aJ,Hj,i,x,hx,e1,e2,e⟩
  ·rw[e];exact⟨q.tw,q.oq,q.qF,q.log,q.MZ,q.hu,q.hw,q.hc,q.lg⟩
  ·rw[e];refine⟨q.tw,q.oq,q.qF,q.log,q.MZ,?_,?_,?_,?_⟩
   ·intro i j x y hi hj h1 h2;have hi:(d.holds++[hd])[i]? =some x:=hi;have hj:(d.holds++[hd])[j]? =some y:=hj;rw[List.getElem?_append]at hi hj;have no:∀z∈d.holds,z.s=hd.s->z.table=hd.table->False:=fun z hz a b=>by
     have:=hm z hz;unfold jT at this;simp[a,b]at this
    split at hi
    ·rename_i a1;split at hj
     ·exact q.hu i j x y hi hj h1 h2
     ·rename_i a2;rw[List.getElem?_singleton]at hj;split at hj
      ·cases hj;exact(no x (List.mem_of_getElem? hi) h1 h2).elim
      ·cases hj
    ·rename_i a1;rw[List.getElem?_singleton]at hi;split at hi
     ·cases hi;split at hj
      ·exact(no y (List.mem_of_getElem? hj) h1.symm h2.symm).elim
      ·rename_i b1 a2;rw[List.getElem?_singleton]at hj;split at hj
       ·omega
       ·cases hj
     ·cases hi
   ·intro x hx;rcases List.mem_append.1 hx with hx|hx
    ·exact q.hw x hx
    ·simp at hx;rw[hx];exact hw
   ·intro x hx y hy;rcases List.mem_append.1 hx with hx|hx
    ·rcases List.mem_append.1 hy with hy|hy
     ·exact q.hc x hx y hy
     ·simp at hy;rw[hy,wK];exact aJ x hx
    ·simp at hx;rw[hx];rcases List.mem_append.1 hy with hy|hy
     ·exact aJ y hy
     ·simp at hy;rw[hy];exact wL _
   ·intro w hw c hc;obtain⟨x,hx,h⟩:=q.lg w hw c hc;exact⟨x,List.mem_append.2 (.inl hx),h⟩
  ·rw[e];have jG:=(List.getElem?_eq_some_iff.1 hx).1;refine⟨q.tw,q.oq,q.qF,q.log,q.MZ,?_,?_,?_,?_⟩
   ·have key:∀(a:Nat) (y:bK),(d.holds.set i hd)[a]? =some y->∃z:bK,d.holds[a]? =some z/\z.s=y.s/\z.table=y.table:=fun a y ha=>by
     rw[List.getElem?_set]at ha;split at ha
     ·rename_i h;subst h;try rw[if_pos jG]at ha
      cases ha;exact⟨x,hx,e1,e2⟩
     ·exact⟨y,ha,rfl,rfl⟩
    intro a b x y ha hb h1 h2;obtain⟨z1,a1,a2,a3⟩:=key a x ha;obtain⟨z2,b1,b2,b3⟩:=key b y hb;exact q.hu a b z1 z2 a1 b1 (by rw[a2,b2,h1]) (by rw[a3,b3,h2])
   ·intro y hy;rcases List.mem_or_eq_of_mem_set hy with h|h
    ·exact q.hw y h
    ·rw[h];exact hw
   ·intro y hy z hz;rcases List.mem_or_eq_of_mem_set hy with h|h
    ·rcases List.mem_or_eq_of_mem_set hz with h2|h2
     ·exact q.hc y h z h2
     ·rw[h2,wK];exact aJ y h
    ·rw[h];rcases List.mem_or_eq_of_mem_set hz with h2|h2
     ·exact aJ z h2
     ·rw[h2];exact wL _
   ·intro w hw c hc;obtain⟨y,hy,h1,h2,h3⟩:=q.lg w hw c hc;obtain⟨j,hj⟩:=List.getElem?_of_mem hy;by_cases Ns:i=j
    ·subst Ns;rw[hx]at hj;cases hj;exact⟨hd,List.mem_iff_getElem?.2 ⟨i,List.getElem?_set_self jG⟩,by rw[<-e1,h1],by rw[<-e2,h2],Hj⟩
    ·exact⟨y,List.mem_iff_getElem?.2 ⟨j,by rw[List.getElem?_set_ne Ns];exact hj⟩,h1,h2,h3⟩
 ·rw[e];exact⟨q.tw,q.oq,q.qF,q.log,q.MZ,q.hu,q.hw,q.hc,q.lg⟩
theorem zU{ws:List dr}(hs:ws.Pairwise (fun a b=>a.s<b.s))(hr:∀w∈ws,0<=w.s/\w.s<8){s:Int}(nN:-2^63<=s/\s<2^63)(w:dr):w∈uy ws s↔w∈ws/\w.s≠s:=by
 unfold uy;cases hb:kE (cm ws s)with
 |true=>
  rw[if_pos rfl];obtain⟨w0,qY,he⟩:=sq hr nN hb;have hu:=C6 hs qY;constructor
  ·intro h;obtain⟨j,hj,hjw⟩:=List.mem_eraseIdx_iff_getElem?.1 h;refine⟨List.mem_of_getElem? hjw,fun e=>hj (hu j w hjw (by rw[e,he]))⟩
  ·rintro⟨h,bU⟩;obtain⟨j,hj⟩:=List.getElem?_of_mem h;refine List.mem_eraseIdx_iff_getElem?.2 ⟨j,fun e=>?_,hj⟩;subst e;rw[qY]at hj;cases hj;exact bU he
 |false=>
  rw[if_neg (by simp)];constructor
  ·intro h;refine⟨h,fun e=>?_⟩;have:=(lj hs hr nN).2 ⟨w,h,e⟩;rw[hb]at this;cases this
  ·exact fun h=>h.1
theorem pf{H:List bK}{s:Int}{x:bK}:x∈bH H s↔x∈H/\x.s≠s:=by unfold bH;simp[List.mem_filter]
theorem JF{H:List bK}(h:HU H)(s:Int):HU (bH H s):=by
 have key:∀ {L:List bK},HU L->∀ {p:bK->Bool},HU (L.filter p):=by
  intro L;induction L with
  |nil=>intro _ p;simp[HU]
  |cons a r ih=>
   intro hL p;have hr:HU r:=fun i j x y hi hj h1 h2=>by
    have:=hL (i+1) (j+1) x y (by simpa using hi) (by simpa using hj) h1 h2;omega
   have bU:∀y∈r,a.s=y.s->a.table=y.table->False:=fun y hy h1 h2=>by
    obtain⟨j,hj⟩:=List.getElem?_of_mem hy;have:=hL 0 (j+1) a y rfl (by simpa using hj) h1 h2;omega
   by_cases hp:p a=true
   ·rw[List.filter_cons_of_pos hp];intro i j x y hi hj h1 h2;cases i with
    |zero=>
     simp at hi;subst hi;cases j with
     |zero=>rfl
     |succ j=>simp at hj;exact(bU y (List.mem_filter.1 (List.mem_of_getElem? hj)).1 h1 h2).elim
    |succ i=>
     simp at hi;cases j with
     |zero=>simp at hj;subst hj;exact(bU x (List.mem_filter.1 (List.mem_of_getElem? hi)).1 h1.symm h2.symm).elim
     |succ j=>simp at hj;have:=ih hr (p:=p) i j x y hi hj h1 h2;omega
   ·rw[List.filter_cons_of_neg hp];exact ih hr
 exact key h
theorem QT{d:DB}(q:SC d){s:Int}(nN:-2^63<=s/\s<2^63){T:List cA}(hT:TW T)(hS:T.map (·.S)=d.aB.map (·.S))(W':List bK):SC ⟨T,uy d.aq s,bH d.holds s,W'⟩:=by
 have hm:=zU q.oq q.qF nN;refine⟨hT,q.oq.sublist (ux _ _),fun w hw=>q.qF w ((hm w).1 hw).1,fun w hw=>?_,fun w hw=>q.MZ w ((hm w).1 hw).1,JF q.hu s,fun x hx=>?_,fun x hx y hy=>q.hc x (pf.1 hx).1 y (pf.1 hy).1,fun w hw c hc=>?_⟩
 ·obtain⟨h1,h2⟩:=q.log w ((hm w).1 hw).1;exact⟨fun x hx=>(h1 x hx).map hS,h2⟩
 ·obtain⟨h1,h2⟩:=pf.1 hx;obtain⟨w,hw,he⟩:=q.hw x h1;exact⟨w,(hm w).2 ⟨hw,by rw[he];exact h2⟩,he⟩
 ·obtain⟨h1,h2⟩:=(hm w).1 hw;obtain⟨x,hx,g1,g2⟩:=q.lg w h1 c hc;exact⟨x,pf.2 ⟨hx,by rw[g1];exact h2⟩,g1,g2⟩
theorem IM{d:DB}(q:SC d)(s:Int):TW (nB d.aB d.aq s):=by
 unfold nB;split
 ·split
  ·rename_i w hw;exact yx q.tw (q.log w (List.mem_of_getElem? hw)).1
  ·exact q.tw
 ·exact q.tw
theorem CW{d:DB}(q:SC d){s:Int}(nN:-2^63<=s/\s<2^63):SC (j0 d s):=QT q nN (IM q s) (CX _ _ _) _
theorem Cp(hd:bK)(hs:0<=hd.s/\hd.s<8):∀(f:Nat) (d:DB),SC d->(∃w∈d.aq,w.s=hd.s)->SC (gH f d hd).1/\((gH f d hd).2=0->∃x∈(gH f d hd).1.holds,x.s=hd.s/\x.table=hd.table/\(x.x|| !hd.x)=true)
 |0,d,q,hw=>⟨q,fun h=>by cases h⟩
 |f+1,d,q,hw=>by
  have qa:=Rf q hw (cN d.holds d.waits hd);unfold gH;by_cases ub:bq d.holds hd=true
  ·rw[if_pos ub];exact⟨qa,fun _=>Mq hd ub⟩
  ·rw[if_neg ub];by_cases hv:(cZ (ch (bR d.holds hd) (cN d.holds d.waits hd)) hd.s).2=true
   ·rw[if_pos hv];have Tw:-2^63<=(cZ (ch (bR d.holds hd) (cN d.holds d.waits hd)) hd.s).1/\(cZ (ch (bR d.holds hd) (cN d.holds d.waits hd)) hd.s).1<2^63:=by
     have:=lI (ch (bR d.holds hd) (cN d.holds d.waits hd)) hd.s;rcases this.out with ⟨h1,-⟩ | ⟨-,h2,h3,h4,-⟩
     ·rw[hv]at h1;cases h1
     ·rcases h4 with h4| ⟨h4,-⟩
      ·rw[h4];omega
      ·obtain⟨x,hx,he⟩:=oY (pz h4);obtain⟨w,hw,zD⟩:=qa.hw x hx;have:=qa.qF w hw;omega
    by_cases Pt:(cZ (ch (bR d.holds hd) (cN d.holds d.waits hd)) hd.s).1=hd.s
    ·rw[if_pos (decide_eq_true Pt)];exact⟨CW qa Tw,fun h=>by cases h⟩
    ·rw[if_neg (by simpa using Pt)];refine Cp hd hs f _ (CW qa Tw) ?_;obtain⟨w,hw,he⟩:=hw;exact⟨w,(zU qa.oq qa.qF Tw w).2 ⟨hw,by rw[he];exact fun h=>Pt h.symm⟩,he⟩
   ·rw[if_neg hv];exact⟨qa,fun h=>by cases h⟩
theorem zA{d:DB}(q:SC d)(hd:bK)(hs:-2^63<=hd.s/\hd.s<2^63):SC (ax d hd).1/\((ax d hd).2=0->∃x∈(ax d hd).1.holds,x.s=hd.s/\x.table=hd.table/\(x.x|| !hd.x)=true):=by
 unfold ax;by_cases Au:B7 d hd=true
 ·rw[if_pos Au];unfold B7 at Au;rw[Bool.and_eq_true]at Au;obtain⟨w,hw,he⟩:=(lj q.oq q.qF hs).1 Au.1;have:=q.qF w hw;exact Cp hd (by omega) _ d q ⟨w,hw,he⟩
 ·rw[if_neg Au];exact⟨q,fun h=>by cases h⟩
structure G4 where
 b1:Option Addr
 n1:Nat
 c1:Nat
 b2:Option Addr
 n2:Nat
 c2:Nat
 b3:Option Addr
 n3:Nat
 c3:Nat
 b4:Option Addr
 n4:Nat
 c4:Nat
structure HIn(n:Nat)(hd:bK)(D:DB×Int)(m f:Nat)(d0:DB):Prop where
 sc:SC d0
 hb:d0.holds.length<=n
 wb:(bH d0.waits hd.s).length<=n
 wc:d0.waits.length<=n+1
 wk:∃w∈d0.aq,w.s=hd.s
 eq:gH f d0 hd=D
 fl:d0.holds.length<f
 ms:m=d0.holds.length
structure sJ(n:Nat)(hd:bK)(d1:DB)(i:Nat)(w:dr)(j:Nat)(t:cA):Prop where
 sc:SC d1
 ok:uR (n+1) d1
 wi:d1.aq[i]? =some w
 ws:w.s=hd.s
 bi:dm (cm d1.aq hd.s)=i
 tj:d1.aB[j]? =some t
 tn:t.S.name=hd.table
 bj:dm (aM d1.aB hd.table)=j
 hl:∃x∈d1.holds,x.s=hd.s/\x.table=hd.table/\(x.x|| !hd.x)=true
theorem xM{d:DB}{n:Nat}(hC:SC d)(hO:uR n d){hd:bK}(hs:-2^63<=hd.s/\hd.s<2^63){d1:DB}(h:ax d hd=(d1,0)):∃i w j t,sJ n hd d1 i w j t:=by
 obtain⟨h1,h2⟩:=zA hC hd hs;have h3:=zy hO hs (by rw[h]);have h4:=(pK hO hd hs).ok;rw[h]at h1 h2 h3 h4;obtain⟨w,hw,he⟩:=sq h1.qF hs h3.2;have aG:=me h3.1;obtain⟨t,ht⟩:=aE (xs:=d1.aB) (i:=dm (aM d1.aB hd.table)) (by simpa[aM]using aG);have hn:t.S.name=hd.table:=by
  have h5:=h3.1;unfold kE at h5;obtain⟨-,h6⟩:=of_decide_eq_true h5;have:(aM d1.aB hd.table).getD (dm (aM d1.aB hd.table)) 0=eG t.S.name hd.table:=by
   conv=>lhs;unfold aM
   rw[List.getD_eq_getElem?_getD,List.getElem?_map];rw[show d1.aB.map (fun x=>eG x.S.name hd.table)=aM d1.aB hd.table from rfl,ht];rfl
  rw[this]at h6;exact Er h6
 exact⟨_,w,_,t,⟨h1,h4,hw,he,rfl,ht,hn,rfl,h2 rfl⟩⟩
theorem uI{d:DB}{n:Nat}{hd:bK}{d1:DB}{i j:Nat}{w:dr}{t:cA}(h:ax d hd=(d1,0))(g:sJ n hd d1 i w j t)(act:cA->cA×lD×Int):
 ep d hd act=if decide ((act t).2.2≠19)&&decide ((w.log.length:Int)>=60)then(d1,4)else if decide ((act t).2.2=0)=true then
  (⟨d1.aB.set j (act t).1,d1.aq.set i ⟨w.s,w.log++[⟨hd.table,(act t).2.1.op,(act t).2.1.row⟩],w.marks⟩,d1.holds,d1.waits⟩,0)else(d1,(act t).2.2):=by
 unfold ep;rw[h];simp only[ne_eq,not_true_eq_false,decide_false,Bool.false_eq_true,if_false];rw[g.bj,g.bi,g.tj,g.wi]
theorem uH{d:DB}{hd:bK}{d1:DB}{e:Int}(h:ax d hd=(d1,e))(he:e≠0)(act:cA->cA×lD×Int):ep d hd act=(d1,e):=by unfold ep;rw[h,if_pos (decide_eq_true he)]
theorem Fy{S:Ao}(h1:S.cols=bl)(h2:S.key=0){R:List Row}{r:Row}(h:SO R)(hr:kK r\/r.length≠2):(bI ⟨S,R⟩ r).2≠19/\((bI ⟨S,R⟩ r).2=0->kK r):=by
 rcases hr with hr|hr
 ·refine⟨?_,fun _=>hr⟩;have hf:=hr.fits;have RQ:=hr;obtain⟨a,v,rfl,-⟩:=RQ;obtain⟨p,q⟩:=h.sr.at_ a;rw[vJ (S:=S) h2 h.sr (by rw[h1];exact hf) q];split
  ·simp
  ·split
   ·simp
   ·simp
 ·have hf:bM S.cols r=1:=by
   unfold bM;have h2:S.cols.length=2:=by rw[h1];rfl
   rw[if_pos (decide_eq_true (by rw[h2];omega))]
  unfold bI;simp only;rw[hf];exact⟨by simp,by simp⟩
theorem Dz{d:DB}{n:Nat}{hd:bK}{d1:DB}{i j:Nat}{w:dr}{t:cA}(h:ax d hd=(d1,0))(g:sJ n hd d1 i w j t){r:Row}(hr:kK r\/r.length≠2){D:DB×Int}(hD:ep d hd (cU r)=D):
 ((w.log.length:Int)>=60->D=(d1,4))/\(¬(w.log.length:Int)>=60->∀T:cA×Int,bI t r=T->(T.2≠0->D=(d1,T.2))/\(T.2=0->kK r/\D=(⟨d1.aB.set j T.1,d1.aq.set i ⟨w.s,w.log++[⟨hd.table,1,r⟩],w.marks⟩,d1.holds,d1.waits⟩,0))):=by
 rw[uI h g]at hD;obtain⟨c1,c2,c3,-⟩:=g.sc.tw.ok t (List.mem_of_getElem? g.tj);obtain⟨S,R⟩:=t;obtain⟨e1,e2⟩:=Fy c1 c2 c3 hr;have a1:(cU r ⟨S,R⟩).2.2=(bI ⟨S,R⟩ r).2:=rfl;have a2:(cU r ⟨S,R⟩).1=(bI ⟨S,R⟩ r).1:=rfl;rw[a1,a2]at hD;rw[decide_eq_true e1,Bool.true_and]at hD;refine⟨fun hl=>?_,fun hl T hT=>⟨fun ht=>?_,fun ht=>?_⟩⟩
 ·rw[if_pos (decide_eq_true hl)]at hD;exact hD.symm
 ·rw[if_neg (by simpa using hl),hT,if_neg (by simpa using ht)]at hD;exact hD.symm
 ·rw[if_neg (by simpa using hl),hT,if_pos (by simpa using ht)]at hD;rw[<-hD];exact⟨e2 (by rw[hT];exact ht),rfl⟩
end Go.S
