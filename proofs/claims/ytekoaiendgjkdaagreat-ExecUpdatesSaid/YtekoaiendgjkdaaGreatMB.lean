import Derived.Test.YtekoaiendgjkdaaGreatMA
set_option linter.unusedVariables false
set_option linter.unusedSimpArgs false
set_option linter.unusedSectionVars false
set_option maxRecDepth 100000
set_option maxHeartbeats 8000000
namespace Go.S
open Go.Sx Go.Proofs
structure SC(d:DB):Prop where
 tw:TW d.aE
 pH:d.au.Pairwise (fun a b=>a.s<b.s)
 so:∀w∈d.au,0<=w.s/\w.s<8
 log:∀w∈d.au,(∀x∈w.log,AF d.aE x)/\w.log.length<=60
 QN:MkOk d
 hu:HU d.holds
 hw:∀x∈d.holds,∃w∈d.au,w.s=x.s
 hc:∀x∈d.holds,∀y∈d.holds,fY x y=false
 lg:∀w∈d.au,∀c∈w.log,∃x∈d.holds,x.s=w.s/\x.table=c.table/\x.x=true
theorem SC.si{d:DB}{n:Nat}(q:SC d)(o:wX n d)(hn:n<=2^17):SI d:=⟨q.tw,q.pH,q.so,q.log,Nat.le_trans o.holds hn,Nat.le_trans o.waits hn⟩
theorem J0{H:List bZ}{hd:bZ}:(mA H hd=none/\∀x∈H,kP hd x=false)\/∃i x,mA H hd=some i/\H[i]? =some x/\kP hd x=true:=by
 cases h:mA H hd with
 |none=>left;refine⟨rfl,?_⟩;unfold mA at h;exact List.findIdx?_eq_none_iff.1 h
 |some i=>right;unfold mA at h;obtain⟨h1,h2,-⟩:=List.findIdx?_eq_some_iff_getElem.1 h;exact⟨i,_,rfl,List.getElem?_eq_getElem h1,h2⟩
theorem J1{hd x:bZ}(h:kP hd x=true):x.s=hd.s/\x.table=hd.table:=by unfold kP at h;simpa using h
theorem wT{H:List bZ}(hd:bZ):
 (bF H hd=true/\((cd H hd=H/\∃x∈H,x.s=hd.s/\x.table=hd.table/\(x.x|| !hd.x)=true)\/((∀y∈H,fY hd y=false)/\cd H hd=H++[hd]/\∀x∈H,kP hd x=false)\/
  ((∀y∈H,fY hd y=false)/\hd.x=true/\∃i x,H[i]? =some x/\x.s=hd.s/\x.table=hd.table/\cd H hd=H.set i hd)))\/(bF H hd=false/\cd H hd=H):=by
 have Lh:H.any (fY hd)=false->∀y∈H,fY hd y=false:=fun h y hy=>by
  have:=List.any_eq_false.1 h y hy;simpa using this
 have gB:bF H hd=false->cd H hd=H:=fun h=>by unfold cd;rw[h];rfl
 rcases J0 (H:=H) (hd:=hd)with ⟨hm,aO⟩ | ⟨i,x,hm,hx,hp⟩
 ·obtain⟨h1,h2,h3⟩:=Mn (W:=[]) hm;cases ha:H.any (fY hd)with
  |false=>left;exact⟨by rw[h1,ha];rfl,.inr (.inl ⟨Lh ha,h2 ha,aO⟩)⟩
  |true=>
   right;have:bF H hd=false:=by rw[h1,ha];rfl
   exact⟨this,gB this⟩
 ·obtain⟨e1,e2⟩:=J1 hp;obtain⟨h1,h2⟩:=Mm (W:=[]) hm hx hp;cases G8:(x.x|| !hd.x)with
  |true=>left;obtain⟨h3,h4⟩:=h1 G8;exact⟨h3,.inl ⟨h4,x,List.mem_of_getElem? hx,e1,e2,G8⟩⟩
  |false=>
   obtain⟨h3,h4,h5⟩:=h2 G8;cases ha:H.any (fY hd)with
   |false=>
    left;refine⟨by rw[h3,ha];rfl,.inr (.inr ⟨Lh ha,?_,i,x,hx,e1,e2,?_⟩)⟩
    ·cases hh:hd.x with
     |true=>rfl
     |false=>rw[hh]at G8;simp at G8
    ·rw[h4 ha];have hh:hd.x=true:=by
      cases hh:hd.x with
      |true=>rfl
      |false=>rw[hh]at G8;simp at G8
     congr 1;cases hd;simp only at e1 e2 hh;rw[e1,e2,hh]
   |true=>
    right;have:bF H hd=false:=by rw[h3,ha];rfl
    exact⟨this,gB this⟩
theorem Qd{H:List bZ}(hd:bZ)(h:bF H hd=true):∃x∈cd H hd,x.s=hd.s/\x.table=hd.table/\(x.x|| !hd.x)=true:=by
 rcases wT (H:=H) hd with ⟨-,h1⟩ | ⟨h1,-⟩
 ·rcases h1 with ⟨e,x,hx,h2⟩ | ⟨-,e,-⟩ | ⟨-,G8,i,x,hx,e1,e2,e⟩
  ·exact⟨x,by rw[e];exact hx,h2⟩
  ·exact⟨hd,by rw[e];simp,rfl,rfl,by cases hd.x<;>rfl⟩
  ·refine⟨hd,?_,rfl,rfl,by rw[G8];rfl⟩;rw[e];exact List.mem_iff_getElem?.2 ⟨i,List.getElem?_set_self (List.getElem?_eq_some_iff.1 hx).1⟩
 ·rw[h]at h1;cases h1
theorem yV(x:bZ):fY x x=false:=by unfold fY;simp
theorem WQ{d:DB}(q:SC d){hd:bZ}(hw:∃w∈d.au,w.s=hd.s)(W':List bZ):SC ⟨d.aE,d.au,cd d.holds hd,W'⟩:=by
 rcases wT (H:=d.holds) hd with ⟨-,h1⟩ | ⟨-,e⟩
 ·rcases h1 with ⟨e,-⟩ | ⟨aO,e,hm⟩ | ⟨aO,G8,i,x,hx,e1,e2,e⟩
  ·rw[e];exact⟨q.tw,q.pH,q.so,q.log,q.QN,q.hu,q.hw,q.hc,q.lg⟩
  ·rw[e];refine⟨q.tw,q.pH,q.so,q.log,q.QN,?_,?_,?_,?_⟩
   ·intro i j x y hi hj h1 h2;have hi:(d.holds++[hd])[i]? =some x:=hi;have hj:(d.holds++[hd])[j]? =some y:=hj;rw[List.getElem?_append]at hi hj;have no:∀z∈d.holds,z.s=hd.s->z.table=hd.table->False:=fun z hz a b=>by
     have:=hm z hz;unfold kP at this;simp[a,b]at this
    split at hi
    ·rename_i a1;split at hj
     ·exact q.hu i j x y hi hj h1 h2
     ·rename_i a2;rw[List.getElem?_singleton]at hj;split at hj
      ·cases hj;exact(no x (List.mem_of_getElem? hi) h1 h2).elim
      ·cases hj
    ·rename_i a1;rw[List.getElem?_singleton]at hi;split at hi
     ·cases hi;split at hj
      ·exact(no y (List.mem_of_getElem? hj) h1.symm h2.symm).elim
      ·rename_i b1 a2;rw[List.getElem?_singleton]at hj;split at hj
       ·omega
       ·cases hj
     ·cases hi
   ·intro x hx;rcases List.mem_append.1 hx with hx|hx
    ·exact q.hw x hx
    ·simp at hx;rw[hx];exact hw
   ·intro x hx y hy;rcases List.mem_append.1 hx with hx|hx
    ·rcases List.mem_append.1 hy with hy|hy
     ·exact q.hc x hx y hy
     ·simp at hy;rw[hy,yU];exact aO x hx
    ·simp at hx;rw[hx];rcases List.mem_append.1 hy with hy|hy
     ·exact aO y hy
     ·simp at hy;rw[hy];exact yV _
   ·intro w hw c hc;obtain⟨x,hx,h⟩:=q.lg w hw c hc;exact⟨x,List.mem_append.2 (.inl hx),h⟩
  ·rw[e];have kh:=(List.getElem?_eq_some_iff.1 hx).1;refine⟨q.tw,q.pH,q.so,q.log,q.QN,?_,?_,?_,?_⟩
   ·have key:∀(a:Nat) (y:bZ),(d.holds.set i hd)[a]? =some y->∃z:bZ,d.holds[a]? =some z/\z.s=y.s/\z.table=y.table:=fun a y ha=>by
     rw[List.getElem?_set]at ha;split at ha
     ·rename_i h;subst h;try rw[if_pos kh]at ha
      cases ha;exact⟨x,hx,e1,e2⟩
     ·exact⟨y,ha,rfl,rfl⟩
    intro a b x y ha hb h1 h2;obtain⟨z1,a1,a2,a3⟩:=key a x ha;obtain⟨z2,b1,b2,b3⟩:=key b y hb;exact q.hu a b z1 z2 a1 b1 (by rw[a2,b2,h1]) (by rw[a3,b3,h2])
   ·intro y hy;rcases List.mem_or_eq_of_mem_set hy with h|h
    ·exact q.hw y h
    ·rw[h];exact hw
   ·intro y hy z hz;rcases List.mem_or_eq_of_mem_set hy with h|h
    ·rcases List.mem_or_eq_of_mem_set hz with h2|h2
     ·exact q.hc y h z h2
     ·rw[h2,yU];exact aO y h
    ·rw[h];rcases List.mem_or_eq_of_mem_set hz with h2|h2
     ·exact aO z h2
     ·rw[h2];exact yV _
   ·intro w hw c hc;obtain⟨y,hy,h1,h2,h3⟩:=q.lg w hw c hc;obtain⟨j,hj⟩:=List.getElem?_of_mem hy;by_cases Rk:i=j
    ·subst Rk;rw[hx]at hj;cases hj;exact⟨hd,List.mem_iff_getElem?.2 ⟨i,List.getElem?_set_self kh⟩,by rw[<-e1,h1],by rw[<-e2,h2],G8⟩
    ·exact⟨y,List.mem_iff_getElem?.2 ⟨j,by rw[List.getElem?_set_ne Rk];exact hj⟩,h1,h2,h3⟩
 ·rw[e];exact⟨q.tw,q.pH,q.so,q.log,q.QN,q.hu,q.hw,q.hc,q.lg⟩
theorem Ch{ws:List dO}(hs:ws.Pairwise (fun a b=>a.s<b.s))(hr:∀w∈ws,0<=w.s/\w.s<8){s:Int}(iQ:-2^63<=s/\s<2^63)(w:dO):w∈wC ws s↔w∈ws/\w.s≠s:=by
 unfold wC;cases hb:lK (cA ws s)with
 |true=>
  rw[if_pos rfl];obtain⟨w0,sV,he⟩:=uA hr iQ hb;have hu:=Gb hs sV;constructor
  ·intro h;obtain⟨j,hj,hjw⟩:=List.mem_eraseIdx_iff_getElem?.1 h;refine⟨List.mem_of_getElem? hjw,fun e=>hj (hu j w hjw (by rw[e,he]))⟩
  ·rintro⟨h,bW⟩;obtain⟨j,hj⟩:=List.getElem?_of_mem h;refine List.mem_eraseIdx_iff_getElem?.2 ⟨j,fun e=>?_,hj⟩;subst e;rw[sV]at hj;cases hj;exact bW he
 |false=>
  rw[if_neg (by simp)];constructor
  ·intro h;refine⟨h,fun e=>?_⟩;have:=(mh hs hr iQ).2 ⟨w,h,e⟩;rw[hb]at this;cases this
  ·exact fun h=>h.1
theorem qK{H:List bZ}{s:Int}{x:bZ}:x∈bQ H s↔x∈H/\x.s≠s:=by unfold bQ;simp[List.mem_filter]
theorem Ny{H:List bZ}(h:HU H)(s:Int):HU (bQ H s):=by
 have key:∀ {L:List bZ},HU L->∀ {p:bZ->Bool},HU (L.filter p):=by
  intro L;induction L with
  |nil=>intro _ p;simp[HU]
  |cons a r ih=>
   intro hL p;have hr:HU r:=fun i j x y hi hj h1 h2=>by
    have:=hL (i+1) (j+1) x y (by simpa using hi) (by simpa using hj) h1 h2;omega
   have bW:∀y∈r,a.s=y.s->a.table=y.table->False:=fun y hy h1 h2=>by
    obtain⟨j,hj⟩:=List.getElem?_of_mem hy;have:=hL 0 (j+1) a y rfl (by simpa using hj) h1 h2;omega
   by_cases hp:p a=true
   ·rw[List.filter_cons_of_pos hp];intro i j x y hi hj h1 h2;cases i with
    |zero=>
     simp at hi;subst hi;cases j with
     |zero=>rfl
     |succ j=>simp at hj;exact(bW y (List.mem_filter.1 (List.mem_of_getElem? hj)).1 h1 h2).elim
    |succ i=>
     simp at hi;cases j with
     |zero=>simp at hj;subst hj;exact(bW x (List.mem_filter.1 (List.mem_of_getElem? hi)).1 h1.symm h2.symm).elim
     |succ j=>simp at hj;have:=ih hr (p:=p) i j x y hi hj h1 h2;omega
   ·rw[List.filter_cons_of_neg hp];exact ih hr
 exact key h
theorem Wg{d:DB}(q:SC d){s:Int}(iQ:-2^63<=s/\s<2^63){T:List cE}(hT:TW T)(hS:T.map (·.S)=d.aE.map (·.S))(W':List bZ):SC ⟨T,wC d.au s,bQ d.holds s,W'⟩:=by
 have hm:=Ch q.pH q.so iQ;refine⟨hT,q.pH.sublist (wB _ _),fun w hw=>q.so w ((hm w).1 hw).1,fun w hw=>?_,fun w hw=>q.QN w ((hm w).1 hw).1,Ny q.hu s,fun x hx=>?_,fun x hx y hy=>q.hc x (qK.1 hx).1 y (qK.1 hy).1,fun w hw c hc=>?_⟩
 ·obtain⟨h1,h2⟩:=q.log w ((hm w).1 hw).1;exact⟨fun x hx=>(h1 x hx).map hS,h2⟩
 ·obtain⟨h1,h2⟩:=qK.1 hx;obtain⟨w,hw,he⟩:=q.hw x h1;exact⟨w,(hm w).2 ⟨hw,by rw[he];exact h2⟩,he⟩
 ·obtain⟨h1,h2⟩:=(hm w).1 hw;obtain⟨x,hx,g1,g2⟩:=q.lg w h1 c hc;exact⟨x,qK.2 ⟨hx,by rw[g1];exact h2⟩,g1,g2⟩
theorem Mg{d:DB}(q:SC d)(s:Int):TW (oW d.aE d.au s):=by
 unfold oW;split
 ·split
  ·rename_i w hw;exact A2 q.tw (q.log w (List.mem_of_getElem? hw)).1
  ·exact q.tw
 ·exact q.tw
theorem FT{d:DB}(q:SC d){s:Int}(iQ:-2^63<=s/\s<2^63):SC (kZ d s):=Wg q iQ (Mg q s) (FU _ _ _) _
theorem Fl(hd:bZ)(hs:0<=hd.s/\hd.s<8):∀(f:Nat) (d:DB),SC d->(∃w∈d.au,w.s=hd.s)->SC (gH f d hd).1/\((gH f d hd).2=0->∃x∈(gH f d hd).1.holds,x.s=hd.s/\x.table=hd.table/\(x.x|| !hd.x)=true)
 |0,d,q,hw=>⟨q,fun h=>by cases h⟩
 |f+1,d,q,hw=>by
  have qa:=WQ q hw (cV d.holds d.waits hd);unfold gH;by_cases oM:bF d.holds hd=true
  ·rw[if_pos oM];exact⟨qa,fun _=>Qd hd oM⟩
  ·rw[if_neg oM];by_cases hv:(dt (cI (cd d.holds hd) (cV d.holds d.waits hd)) hd.s).2=true
   ·rw[if_pos hv];have Zf:-2^63<=(dt (cI (cd d.holds hd) (cV d.holds d.waits hd)) hd.s).1/\(dt (cI (cd d.holds hd) (cV d.holds d.waits hd)) hd.s).1<2^63:=by
     have:=mO (cI (cd d.holds hd) (cV d.holds d.waits hd)) hd.s;rcases this.out with ⟨h1,-⟩ | ⟨-,h2,h3,h4,-⟩
     ·rw[hv]at h1;cases h1
     ·rcases h4 with h4| ⟨h4,-⟩
      ·rw[h4];omega
      ·obtain⟨x,hx,he⟩:=qB (ra h4);obtain⟨w,hw,BV⟩:=qa.hw x hx;have:=qa.so w hw;omega
    by_cases UB:(dt (cI (cd d.holds hd) (cV d.holds d.waits hd)) hd.s).1=hd.s
    ·rw[if_pos (decide_eq_true UB)];exact⟨FT qa Zf,fun h=>by cases h⟩
    ·rw[if_neg (by simpa using UB)];refine Fl hd hs f _ (FT qa Zf) ?_;obtain⟨w,hw,he⟩:=hw;exact⟨w,(Ch qa.pH qa.so Zf w).2 ⟨hw,by rw[he];exact fun h=>UB h.symm⟩,he⟩
   ·rw[if_neg hv];exact⟨qa,fun h=>by cases h⟩
theorem BP{d:DB}(q:SC d)(hd:bZ)(hs:-2^63<=hd.s/\hd.s<2^63):SC (ay d hd).1/\((ay d hd).2=0->∃x∈(ay d hd).1.holds,x.s=hd.s/\x.table=hd.table/\(x.x|| !hd.x)=true):=by
 unfold ay;by_cases AM:Dv d hd=true
 ·rw[if_pos AM];unfold Dv at AM;rw[Bool.and_eq_true]at AM;obtain⟨w,hw,he⟩:=(mh q.pH q.so hs).1 AM.1;have:=q.so w hw;exact Fl hd (by omega) _ d q ⟨w,hw,he⟩
 ·rw[if_neg AM];exact⟨q,fun h=>by cases h⟩
structure G4 where
 b1:Option Addr
 n1:Nat
 c1:Nat
 b2:Option Addr
 n2:Nat
 c2:Nat
 b3:Option Addr
 n3:Nat
 c3:Nat
 b4:Option Addr
 n4:Nat
 c4:Nat
structure HIn(n:Nat)(hd:bZ)(D:DB×Int)(m f:Nat)(d0:DB):Prop where
 sc:SC d0
 hb:d0.holds.length<=n
 wb:(bQ d0.waits hd.s).length<=n
 wc:d0.waits.length<=n+1
 wk:∃w∈d0.au,w.s=hd.s
 eq:gH f d0 hd=D
 fl:d0.holds.length<f
 ms:m=d0.holds.length
structure uO(n:Nat)(hd:bZ)(d1:DB)(i:Nat)(w:dO)(j:Nat)(t:cE):Prop where
 sc:SC d1
 ok:wX (n+1) d1
 wi:d1.au[i]? =some w
 ws:w.s=hd.s
 bi:dr (cA d1.au hd.s)=i
 tj:d1.aE[j]? =some t
 tn:t.S.name=hd.table
 bj:dr (aR d1.aE hd.table)=j
 hl:∃x∈d1.holds,x.s=hd.s/\x.table=hd.table/\(x.x|| !hd.x)=true
theorem Ad{d:DB}{n:Nat}(hC:SC d)(hO:wX n d){hd:bZ}(hs:-2^63<=hd.s/\hd.s<2^63){d1:DB}(h:ay d hd=(d1,0)):∃i w j t,uO n hd d1 i w j t:=by
 obtain⟨h1,h2⟩:=BP hC hd hs;have h3:=BO hO hs (by rw[h]);have h4:=(rA hO hd hs).ok;rw[h]at h1 h2 h3 h4;obtain⟨w,hw,he⟩:=uA h1.so hs h3.2;have aK:=nz h3.1;obtain⟨t,ht⟩:=aI (xs:=d1.aE) (i:=dr (aR d1.aE hd.table)) (by simpa[aR]using aK);have hn:t.S.name=hd.table:=by
  have h5:=h3.1;unfold lK at h5;obtain⟨-,h6⟩:=of_decide_eq_true h5;have:(aR d1.aE hd.table).getD (dr (aR d1.aE hd.table)) 0=eX t.S.name hd.table:=by
   conv=>lhs;unfold aR
   rw[List.getD_eq_getElem?_getD,List.getElem?_map];rw[show d1.aE.map (fun x=>eX x.S.name hd.table)=aR d1.aE hd.table from rfl,ht];rfl
  rw[this]at h6;exact HM h6
 exact⟨_,w,_,t,⟨h1,h4,hw,he,rfl,ht,hn,rfl,h2 rfl⟩⟩
theorem wM{d:DB}{n:Nat}{hd:bZ}{d1:DB}{i j:Nat}{w:dO}{t:cE}(h:ay d hd=(d1,0))(g:uO n hd d1 i w j t)(act:cE->cE×iX×Int):
 eT d hd act=if decide ((act t).2.2≠19)&&decide ((w.log.length:Int)>=60)then(d1,4)else if decide ((act t).2.2=0)=true then
  (⟨d1.aE.set j (act t).1,d1.au.set i ⟨w.s,w.log++[⟨hd.table,(act t).2.1.op,(act t).2.1.row⟩],w.marks⟩,d1.holds,d1.waits⟩,0)else(d1,(act t).2.2):=by
 unfold eT;rw[h];simp only[ne_eq,not_true_eq_false,decide_false,Bool.false_eq_true,if_false];rw[g.bj,g.bi,g.tj,g.wi]
theorem wL{d:DB}{hd:bZ}{d1:DB}{e:Int}(h:ay d hd=(d1,e))(he:e≠0)(act:cE->cE×iX×Int):eT d hd act=(d1,e):=by unfold eT;rw[h,if_pos (decide_eq_true he)]
theorem I6{S:AU}(h1:S.cols=bB)(h2:S.key=0){R:List Row}{r:Row}(h:SO R)(hr:lN r\/r.length≠2):(bI ⟨S,R⟩ r).2≠19/\((bI ⟨S,R⟩ r).2=0->lN r):=by
 rcases hr with hr|hr
 ·refine⟨?_,fun _=>hr⟩;have hf:=hr.fits;have xA:=hr;obtain⟨a,v,rfl,-⟩:=xA;obtain⟨p,q⟩:=h.sr.at_ a;rw[xY (S:=S) h2 h.sr (by rw[h1];exact hf) q];split
  ·simp
  ·split
   ·simp
   ·simp
 ·have hf:bV S.cols r=1:=by
   unfold bV;have h2:S.cols.length=2:=by rw[h1];rfl
   rw[if_pos (decide_eq_true (by rw[h2];omega))]
  unfold bI;simp only;rw[hf];exact⟨by simp,by simp⟩
theorem GH{d:DB}{n:Nat}{hd:bZ}{d1:DB}{i j:Nat}{w:dO}{t:cE}(h:ay d hd=(d1,0))(g:uO n hd d1 i w j t){r:Row}(hr:lN r\/r.length≠2){D:DB×Int}(hD:eT d hd (cJ r)=D):
 ((w.log.length:Int)>=60->D=(d1,4))/\(¬(w.log.length:Int)>=60->∀T:cE×Int,bI t r=T->(T.2≠0->D=(d1,T.2))/\(T.2=0->lN r/\D=(⟨d1.aE.set j T.1,d1.au.set i ⟨w.s,w.log++[⟨hd.table,1,r⟩],w.marks⟩,d1.holds,d1.waits⟩,0))):=by
 rw[wM h g]at hD;obtain⟨c1,c2,c3,-⟩:=g.sc.tw.ok t (List.mem_of_getElem? g.tj);obtain⟨S,R⟩:=t;obtain⟨e1,e2⟩:=I6 c1 c2 c3 hr;have a1:(cJ r ⟨S,R⟩).2.2=(bI ⟨S,R⟩ r).2:=rfl;have a2:(cJ r ⟨S,R⟩).1=(bI ⟨S,R⟩ r).1:=rfl;rw[a1,a2]at hD;rw[decide_eq_true e1,Bool.true_and]at hD;refine⟨fun hl=>?_,fun hl T hT=>⟨fun ht=>?_,fun ht=>?_⟩⟩
 ·rw[if_pos (decide_eq_true hl)]at hD;exact hD.symm
 ·rw[if_neg (by simpa using hl),hT,if_neg (by simpa using ht)]at hD;exact hD.symm
 ·rw[if_neg (by simpa using hl),hT,if_pos (by simpa using ht)]at hD;rw[<-hD];exact⟨e2 (by rw[hT];exact ht),rfl⟩
theorem take_steps{d:DB}{n:Nat}{hd:bZ}{d1:DB}{i j:Nat}{w:dO}{t:cE}(h:ay d hd=(d1,0))(g:uO n hd d1 i w j t){a:Int}{D:DB×Int}(hD:eT d hd (LG ⟨2,a,pJ⟩)=D):
 (t.S.only=true->D=(d1,19))/\(t.S.only=false->((w.log.length:Int)>=60->D=(d1,4))/\(¬(w.log.length:Int)>=60->∀T:cE×Row×Int,cK t ⟨2,a,pJ⟩=T->(T.2.2≠0->D=(d1,T.2.2))/\(T.2.2=0->lN T.2.1/\D=(⟨d1.aE.set j T.1,d1.au.set i ⟨w.s,w.log++[⟨hd.table,2,T.2.1⟩],w.marks⟩,d1.holds,d1.waits⟩,0)))):=by
 rw[wM h g]at hD;obtain⟨c1,c2,c3,-⟩:=g.sc.tw.ok t (List.mem_of_getElem? g.tj);obtain⟨S,R⟩:=t;refine⟨fun ho=>?_,fun ho=>?_⟩
 ·have ho:S.only=true:=ho;have e:LG ⟨2,a,pJ⟩ ⟨S,R⟩=(⟨S,R⟩,⟨jX,0,[]⟩,19):=by unfold LG;rw[if_pos ho]
  rw[e]at hD;exact hD.symm
 ·have ho:S.only=false:=ho;have e:LG ⟨2,a,pJ⟩ ⟨S,R⟩=((cK ⟨S,R⟩ ⟨2,a,pJ⟩).1,⟨jX,2,(cK ⟨S,R⟩ ⟨2,a,pJ⟩).2.1⟩,(cK ⟨S,R⟩ ⟨2,a,pJ⟩).2.2):=by unfold LG;rw[if_neg (by simp[ho])]
  rw[e]at hD;obtain⟨p,q⟩:=c3.sr.at_ a;have hq:=Da (S:=S) c2 c3.sr q;have e1:(cK ⟨S,R⟩ ⟨2,a,pJ⟩).2.2≠19/\((cK ⟨S,R⟩ ⟨2,a,pJ⟩).2.2=0->lN (cK ⟨S,R⟩ ⟨2,a,pJ⟩).2.1):=by
   rw[hq];by_cases hk:B0 R a p=true
   ·rw[if_pos hk];refine⟨by simp,fun _=>?_⟩;show lN ((R[p]?).getD []);unfold B0 at hk;cases hr:R[p]? with
    |none=>rw[hr]at hk;cases hk
    |some row=>exact c3.ok row (List.mem_of_getElem? hr)
   ·rw[if_neg hk];exact⟨by simp,by simp⟩
  obtain⟨e1,e2⟩:=e1;simp only at hD;rw[decide_eq_true e1,Bool.true_and]at hD;refine⟨fun hl=>?_,fun hl T hT=>⟨fun ht=>?_,fun ht=>?_⟩⟩
  ·rw[if_pos (decide_eq_true hl)]at hD;exact hD.symm
  ·rw[if_neg (by simpa using hl),hT,if_neg (by simpa using ht)]at hD;exact hD.symm
  ·rw[if_neg (by simpa using hl),hT,if_pos (by simpa using ht)]at hD;rw[<-hD];refine⟨?_,rfl⟩;rw[<-hT];exact e2 (by rw[hT];exact ht)
end Go.S
