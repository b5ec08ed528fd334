import Derived.Test.YtekoaiendgjkdaaGreatMA
set_option linter.unusedVariables false
set_option linter.unusedSimpArgs false
set_option linter.unusedSectionVars false
set_option maxRecDepth 100000
set_option maxHeartbeats 8000000
namespace Go.S
open Go.Sx Go.Proofs
structure SC(d:DB):Prop where
 tw:TW d.aK
 oW:d.au.Pairwise (fun a b=>a.s<b.s)
 rM:∀w∈d.au,0<=w.s/\w.s<8
 log:∀w∈d.au,(∀x∈w.log,zr d.aK x)/\w.log.length<=60
 OK:MkOk d
 hu:HU d.holds
 hw:∀x∈d.holds,∃w∈d.au,w.s=x.s
 hc:∀x∈d.holds,∀y∈d.holds,fV x y=false
 lg:∀w∈d.au,∀c∈w.log,∃x∈d.holds,x.s=w.s/\x.table=c.table/\x.x=true
theorem SC.si{d:DB}{n:Nat}(q:SC d)(o:sK n d)(hn:n<=2^17):SI d:=⟨q.tw,q.oW,q.rM,q.log,Nat.le_trans o.holds hn,Nat.le_trans o.waits hn⟩
theorem Ig{H:List bP}{hd:bP}:(lT H hd=none/\∀x∈H,kB hd x=false)\/∃i x,lT H hd=some i/\H[i]? =some x/\kB hd x=true:=by
 cases h:lT H hd with
 |none=>left;refine⟨rfl,?_⟩;unfold lT at h;exact List.findIdx?_eq_none_iff.1 h
 |some i=>right;unfold lT at h;obtain⟨h1,h2,-⟩:=List.findIdx?_eq_some_iff_getElem.1 h;exact⟨i,_,rfl,List.getElem?_eq_getElem h1,h2⟩
theorem Ih{hd x:bP}(h:kB hd x=true):x.s=hd.s/\x.table=hd.table:=by unfold kB at h;simpa using h
theorem vT{H:List bP}(hd:bP):
 (bu H hd=true/\((bT H hd=H/\∃x∈H,x.s=hd.s/\x.table=hd.table/\(x.x|| !hd.x)=true)\/((∀y∈H,fV hd y=false)/\bT H hd=H++[hd]/\∀x∈H,kB hd x=false)\/
  ((∀y∈H,fV hd y=false)/\hd.x=true/\∃i x,H[i]? =some x/\x.s=hd.s/\x.table=hd.table/\bT H hd=H.set i hd)))\/(bu H hd=false/\bT H hd=H):=by
 have Jq:H.any (fV hd)=false->∀y∈H,fV hd y=false:=fun h y hy=>by
  have:=List.any_eq_false.1 h y hy;simpa using this
 have fK:bu H hd=false->bT H hd=H:=fun h=>by unfold bT;rw[h];rfl
 rcases Ig (H:=H) (hd:=hd)with ⟨hm,aM⟩ | ⟨i,x,hm,hx,hp⟩
 ·obtain⟨h1,h2,h3⟩:=Kr (W:=[]) hm;cases ha:H.any (fV hd)with
  |false=>left;exact⟨by rw[h1,ha];rfl,.inr (.inl ⟨Jq ha,h2 ha,aM⟩)⟩
  |true=>
   right;have:bu H hd=false:=by rw[h1,ha];rfl
   exact⟨this,fK this⟩
 ·obtain⟨e1,e2⟩:=Ih hp;obtain⟨h1,h2⟩:=Kq (W:=[]) hm hx hp;cases wj:(x.x|| !hd.x)with
  |true=>left;obtain⟨h3,h4⟩:=h1 wj;exact⟨h3,.inl ⟨h4,x,List.mem_of_getElem? hx,e1,e2,wj⟩⟩
  |false=>
   obtain⟨h3,h4,h5⟩:=h2 wj;cases ha:H.any (fV hd)with
   |false=>
    left;refine⟨by rw[h3,ha];rfl,.inr (.inr ⟨Jq ha,?_,i,x,hx,e1,e2,?_⟩)⟩
    ·cases hh:hd.x with
     |true=>rfl
     |false=>rw[hh]at wj;simp at wj
    ·rw[h4 ha];have hh:hd.x=true:=by
      cases hh:hd.x with
      |true=>rfl
      |false=>rw[hh]at wj;simp at wj
     congr 1;cases hd;simp only at e1 e2 hh;rw[e1,e2,hh]
   |true=>
    right;have:bu H hd=false:=by rw[h3,ha];rfl
    exact⟨this,fK this⟩
theorem N8{H:List bP}(hd:bP)(h:bu H hd=true):∃x∈bT H hd,x.s=hd.s/\x.table=hd.table/\(x.x|| !hd.x)=true:=by
 rcases vT (H:=H) hd with ⟨-,h1⟩ | ⟨h1,-⟩
 ·rcases h1 with ⟨e,x,hx,h2⟩ | ⟨-,e,-⟩ | ⟨-,wj,i,x,hx,e1,e2,e⟩
  ·exact⟨x,by rw[e];exact hx,h2⟩
  ·exact⟨hd,by rw[e];simp,rfl,rfl,by cases hd.x<;>rfl⟩
  ·refine⟨hd,?_,rfl,rfl,by rw[wj];rfl⟩;rw[e];exact List.mem_iff_getElem?.2 ⟨i,List.getElem?_set_self (List.getElem?_eq_some_iff.1 hx).1⟩
 ·rw[h]at h1;cases h1
theorem xZ(x:bP):fV x x=false:=by unfold fV;simp
theorem Tq{d:DB}(q:SC d){hd:bP}(hw:∃w∈d.au,w.s=hd.s)(W':List bP):SC ⟨d.aK,d.au,bT d.holds hd,W'⟩:=by
 rcases vT (H:=d.holds) hd with ⟨-,h1⟩ | ⟨-,e⟩
 ·rcases h1 with ⟨e,-⟩ | ⟨aM,e,hm⟩ | ⟨aM,wj,i,x,hx,e1,e2,e⟩
  ·rw[e];exact⟨q.tw,q.oW,q.rM,q.log,q.OK,q.hu,q.hw,q.hc,q.lg⟩
  ·rw[e];refine⟨q.tw,q.oW,q.rM,q.log,q.OK,?_,?_,?_,?_⟩
   ·intro i j x y hi hj h1 h2;have hi:(d.holds++[hd])[i]? =some x:=hi;have hj:(d.holds++[hd])[j]? =some y:=hj;rw[List.getElem?_append]at hi hj;have no:∀z∈d.holds,z.s=hd.s->z.table=hd.table->False:=fun z hz a b=>by
     have:=hm z hz;unfold kB at this;simp[a,b]at this
    split at hi
    ·rename_i a1;split at hj
     ·exact q.hu i j x y hi hj h1 h2
     ·rename_i a2;rw[List.getElem?_singleton]at hj;split at hj
      ·cases hj;exact(no x (List.mem_of_getElem? hi) h1 h2).elim
      ·cases hj
    ·rename_i a1;rw[List.getElem?_singleton]at hi;split at hi
     ·cases hi;split at hj
      ·exact(no y (List.mem_of_getElem? hj) h1.symm h2.symm).elim
      ·rename_i b1 a2;rw[List.getElem?_singleton]at hj;split at hj
       ·omega
       ·cases hj
     ·cases hi
   ·intro x hx;rcases List.mem_append.1 hx with hx|hx
    ·exact q.hw x hx
    ·simp at hx;rw[hx];exact hw
   ·intro x hx y hy;rcases List.mem_append.1 hx with hx|hx
    ·rcases List.mem_append.1 hy with hy|hy
     ·exact q.hc x hx y hy
     ·simp at hy;rw[hy,xY];exact aM x hx
    ·simp at hx;rw[hx];rcases List.mem_append.1 hy with hy|hy
     ·exact aM y hy
     ·simp at hy;rw[hy];exact xZ _
   ·intro w hw c hc;obtain⟨x,hx,h⟩:=q.lg w hw c hc;exact⟨x,List.mem_append.2 (.inl hx),h⟩
  ·rw[e];have jV:=(List.getElem?_eq_some_iff.1 hx).1;refine⟨q.tw,q.oW,q.rM,q.log,q.OK,?_,?_,?_,?_⟩
   ·have key:∀(a:Nat) (y:bP),(d.holds.set i hd)[a]? =some y->∃z:bP,d.holds[a]? =some z/\z.s=y.s/\z.table=y.table:=fun a y ha=>by
     rw[List.getElem?_set]at ha;split at ha
     ·rename_i h;subst h;try rw[if_pos jV]at ha
      cases ha;exact⟨x,hx,e1,e2⟩
     ·exact⟨y,ha,rfl,rfl⟩
    intro a b x y ha hb h1 h2;obtain⟨z1,a1,a2,a3⟩:=key a x ha;obtain⟨z2,b1,b2,b3⟩:=key b y hb;exact q.hu a b z1 z2 a1 b1 (by rw[a2,b2,h1]) (by rw[a3,b3,h2])
   ·intro y hy;rcases List.mem_or_eq_of_mem_set hy with h|h
    ·exact q.hw y h
    ·rw[h];exact hw
   ·intro y hy z hz;rcases List.mem_or_eq_of_mem_set hy with h|h
    ·rcases List.mem_or_eq_of_mem_set hz with h2|h2
     ·exact q.hc y h z h2
     ·rw[h2,xY];exact aM y h
    ·rw[h];rcases List.mem_or_eq_of_mem_set hz with h2|h2
     ·exact aM z h2
     ·rw[h2];exact xZ _
   ·intro w hw c hc;obtain⟨y,hy,h1,h2,h3⟩:=q.lg w hw c hc;obtain⟨j,hj⟩:=List.getElem?_of_mem hy;by_cases O9:i=j
    ·subst O9;rw[hx]at hj;cases hj;exact⟨hd,List.mem_iff_getElem?.2 ⟨i,List.getElem?_set_self jV⟩,by rw[<-e1,h1],by rw[<-e2,h2],wj⟩
    ·exact⟨y,List.mem_iff_getElem?.2 ⟨j,by rw[List.getElem?_set_ne O9];exact hj⟩,h1,h2,h3⟩
 ·rw[e];exact⟨q.tw,q.oW,q.rM,q.log,q.OK,q.hu,q.hw,q.hc,q.lg⟩
theorem AU{ws:List dw}(hs:ws.Pairwise (fun a b=>a.s<b.s))(hr:∀w∈ws,0<=w.s/\w.s<8){s:Int}(gu:-2^63<=s/\s<2^63)(w:dw):w∈vG ws s↔w∈ws/\w.s≠s:=by
 unfold vG;cases hb:lq (cu ws s)with
 |true=>
  rw[if_pos rfl];obtain⟨w0,wo,he⟩:=tR hr gu hb;have hu:=Ek hs wo;constructor
  ·intro h;obtain⟨j,hj,hjw⟩:=List.mem_eraseIdx_iff_getElem?.1 h;refine⟨List.mem_of_getElem? hjw,fun e=>hj (hu j w hjw (by rw[e,he]))⟩
  ·rintro⟨h,bG⟩;obtain⟨j,hj⟩:=List.getElem?_of_mem h;refine List.mem_eraseIdx_iff_getElem?.2 ⟨j,fun e=>?_,hj⟩;subst e;rw[wo]at hj;cases hj;exact bG he
 |false=>
  rw[if_neg (by simp)];constructor
  ·intro h;refine⟨h,fun e=>?_⟩;have:=(lL hs hr gu).2 ⟨w,h,e⟩;rw[hb]at this;cases this
  ·exact fun h=>h.1
theorem pV{H:List bP}{s:Int}{x:bP}:x∈bL H s↔x∈H/\x.s≠s:=by unfold bL;simp[List.mem_filter]
theorem Lu{H:List bP}(h:HU H)(s:Int):HU (bL H s):=by
 have key:∀ {L:List bP},HU L->∀ {p:bP->Bool},HU (L.filter p):=by
  intro L;induction L with
  |nil=>intro _ p;simp[HU]
  |cons a r ih=>
   intro hL p;have hr:HU r:=fun i j x y hi hj h1 h2=>by
    have:=hL (i+1) (j+1) x y (by simpa using hi) (by simpa using hj) h1 h2;omega
   have bG:∀y∈r,a.s=y.s->a.table=y.table->False:=fun y hy h1 h2=>by
    obtain⟨j,hj⟩:=List.getElem?_of_mem hy;have:=hL 0 (j+1) a y rfl (by simpa using hj) h1 h2;omega
   by_cases hp:p a=true
   ·rw[List.filter_cons_of_pos hp];intro i j x y hi hj h1 h2;cases i with
    |zero=>
     simp at hi;subst hi;cases j with
     |zero=>rfl
     |succ j=>simp at hj;exact(bG y (List.mem_filter.1 (List.mem_of_getElem? hj)).1 h1 h2).elim
    |succ i=>
     simp at hi;cases j with
     |zero=>simp at hj;subst hj;exact(bG x (List.mem_filter.1 (List.mem_of_getElem? hi)).1 h1.symm h2.symm).elim
     |succ j=>simp at hj;have:=ih hr (p:=p) i j x y hi hj h1 h2;omega
   ·rw[List.filter_cons_of_neg hp];exact ih hr
 exact key h
theorem S1{d:DB}(q:SC d){s:Int}(gu:-2^63<=s/\s<2^63){T:List cg}(hT:TW T)(hS:T.map (·.S)=d.aK.map (·.S))(W':List bP):SC ⟨T,vG d.au s,bL d.holds s,W'⟩:=by
 have hm:=AU q.oW q.rM gu;refine⟨hT,q.oW.sublist (vF _ _),fun w hw=>q.rM w ((hm w).1 hw).1,fun w hw=>?_,fun w hw=>q.OK w ((hm w).1 hw).1,Lu q.hu s,fun x hx=>?_,fun x hx y hy=>q.hc x (pV.1 hx).1 y (pV.1 hy).1,fun w hw c hc=>?_⟩
 ·obtain⟨h1,h2⟩:=q.log w ((hm w).1 hw).1;exact⟨fun x hx=>(h1 x hx).map hS,h2⟩
 ·obtain⟨h1,h2⟩:=pV.1 hx;obtain⟨w,hw,he⟩:=q.hw x h1;exact⟨w,(hm w).2 ⟨hw,by rw[he];exact h2⟩,he⟩
 ·obtain⟨h1,h2⟩:=(hm w).1 hw;obtain⟨x,hx,g1,g2⟩:=q.lg w h1 c hc;exact⟨x,pV.2 ⟨hx,by rw[g1];exact h2⟩,g1,g2⟩
theorem Kk{d:DB}(q:SC d)(s:Int):TW (ou d.aK d.au s):=by
 unfold ou;split
 ·split
  ·rename_i w hw;exact zG q.tw (q.log w (List.mem_of_getElem? hw)).1
  ·exact q.tw
 ·exact q.tw
theorem Ed{d:DB}(q:SC d){s:Int}(gu:-2^63<=s/\s<2^63):SC (kL d s):=S1 q gu (Kk q s) (Ee _ _ _) _
theorem DH(hd:bP)(hs:0<=hd.s/\hd.s<8):∀(f:Nat) (d:DB),SC d->(∃w∈d.au,w.s=hd.s)->SC (gQ f d hd).1/\((gQ f d hd).2=0->∃x∈(gQ f d hd).1.holds,x.s=hd.s/\x.table=hd.table/\(x.x|| !hd.x)=true)
 |0,d,q,hw=>⟨q,fun h=>by cases h⟩
 |f+1,d,q,hw=>by
  have qa:=Tq q hw (cS d.holds d.waits hd);unfold gQ;by_cases vo:bu d.holds hd=true
  ·rw[if_pos vo];exact⟨qa,fun _=>N8 hd vo⟩
  ·rw[if_neg vo];by_cases hv:(cZ (ch (bT d.holds hd) (cS d.holds d.waits hd)) hd.s).2=true
   ·rw[if_pos hv];have V7:-2^63<=(cZ (ch (bT d.holds hd) (cS d.holds d.waits hd)) hd.s).1/\(cZ (ch (bT d.holds hd) (cS d.holds d.waits hd)) hd.s).1<2^63:=by
     have:=mi (ch (bT d.holds hd) (cS d.holds d.waits hd)) hd.s;rcases this.out with ⟨h1,-⟩ | ⟨-,h2,h3,h4,-⟩
     ·rw[hv]at h1;cases h1
     ·rcases h4 with h4| ⟨h4,-⟩
      ·rw[h4];omega
      ·obtain⟨x,hx,he⟩:=pM (qA h4);obtain⟨w,hw,Ay⟩:=qa.hw x hx;have:=qa.rM w hw;omega
    by_cases Rl:(cZ (ch (bT d.holds hd) (cS d.holds d.waits hd)) hd.s).1=hd.s
    ·rw[if_pos (decide_eq_true Rl)];exact⟨Ed qa V7,fun h=>by cases h⟩
    ·rw[if_neg (by simpa using Rl)];refine DH hd hs f _ (Ed qa V7) ?_;obtain⟨w,hw,he⟩:=hw;exact⟨w,(AU qa.oW qa.rM V7 w).2 ⟨hw,by rw[he];exact fun h=>Rl h.symm⟩,he⟩
   ·rw[if_neg hv];exact⟨qa,fun h=>by cases h⟩
theorem Au{d:DB}(q:SC d)(hd:bP)(hs:-2^63<=hd.s/\hd.s<2^63):SC (aO d hd).1/\((aO d hd).2=0->∃x∈(aO d hd).1.holds,x.s=hd.s/\x.table=hd.table/\(x.x|| !hd.x)=true):=by
 unfold aO;by_cases Br:Dq d hd=true
 ·rw[if_pos Br];unfold Dq at Br;rw[Bool.and_eq_true]at Br;obtain⟨w,hw,he⟩:=(lL q.oW q.rM hs).1 Br.1;have:=q.rM w hw;exact DH hd (by omega) _ d q ⟨w,hw,he⟩
 ·rw[if_neg Br];exact⟨q,fun h=>by cases h⟩
structure G4 where
 b1:Option Addr
 n1:Nat
 c1:Nat
 b2:Option Addr
 n2:Nat
 c2:Nat
 b3:Option Addr
 n3:Nat
 c3:Nat
 b4:Option Addr
 n4:Nat
 c4:Nat
structure HIn(n:Nat)(hd:bP)(D:DB×Int)(m f:Nat)(d0:DB):Prop where
 sc:SC d0
 hb:d0.holds.length<=n
 wb:(bL d0.waits hd.s).length<=n
 wc:d0.waits.length<=n+1
 wk:∃w∈d0.au,w.s=hd.s
 eq:gQ f d0 hd=D
 fl:d0.holds.length<f
 ms:m=d0.holds.length
structure rL(n:Nat)(hd:bP)(d1:DB)(i:Nat)(w:dw)(j:Nat)(t:cg):Prop where
 sc:SC d1
 ok:sK (n+1) d1
 wi:d1.au[i]? =some w
 ws:w.s=hd.s
 bi:dC (cu d1.au hd.s)=i
 tj:d1.aK[j]? =some t
 tn:t.S.name=hd.table
 bj:dC (aR d1.aK hd.table)=j
 hl:∃x∈d1.holds,x.s=hd.s/\x.table=hd.table/\(x.x|| !hd.x)=true
theorem qX{d:DB}{n:Nat}(hC:SC d)(hO:sK n d){hd:bP}(hs:-2^63<=hd.s/\hd.s<2^63){d1:DB}(h:aO d hd=(d1,0)):∃i w j t,rL n hd d1 i w j t:=by
 obtain⟨h1,h2⟩:=Au hC hd hs;have h3:=vd hO hs (by rw[h]);have h4:=(nQ hO hd hs).ok;rw[h]at h1 h2 h3 h4;obtain⟨w,hw,he⟩:=tR h1.rM hs h3.2;have aI:=kJ h3.1;obtain⟨t,ht⟩:=aD (xs:=d1.aK) (i:=dC (aR d1.aK hd.table)) (by simpa[aR]using aI);have hn:t.S.name=hd.table:=by
  have h5:=h3.1;unfold lq at h5;obtain⟨-,h6⟩:=of_decide_eq_true h5;have:(aR d1.aK hd.table).getD (dC (aR d1.aK hd.table)) 0=eI t.S.name hd.table:=by
   conv=>lhs;unfold aR
   rw[List.getD_eq_getElem?_getD,List.getElem?_map];rw[show d1.aK.map (fun x=>eI x.S.name hd.table)=aR d1.aK hd.table from rfl,ht];rfl
  rw[this]at h6;exact FL h6
 exact⟨_,w,_,t,⟨h1,h4,hw,he,rfl,ht,hn,rfl,h2 rfl⟩⟩
theorem oh{d:DB}{n:Nat}{hd:bP}{d1:DB}{i j:Nat}{w:dw}{t:cg}(h:aO d hd=(d1,0))(g:rL n hd d1 i w j t)(act:cg->cg×lG×Int):
 dh d hd act=if decide ((act t).2.2≠19)&&decide ((w.log.length:Int)>=60)then(d1,4)else if decide ((act t).2.2=0)=true then
  (⟨d1.aK.set j (act t).1,d1.au.set i ⟨w.s,w.log++[⟨hd.table,(act t).2.1.op,(act t).2.1.row⟩],w.marks⟩,d1.holds,d1.waits⟩,0)else(d1,(act t).2.2):=by
 unfold dh;rw[h];simp only[ne_eq,not_true_eq_false,decide_false,Bool.false_eq_true,if_false];rw[g.bj,g.bi,g.tj,g.wi]
theorem og{d:DB}{hd:bP}{d1:DB}{e:Int}(h:aO d hd=(d1,e))(he:e≠0)(act:cg->cg×lG×Int):dh d hd act=(d1,e):=by unfold dh;rw[h,if_pos (decide_eq_true he)]
theorem Hf{S:Bh}(h1:S.cols=cJ)(h2:S.key=0){R:List Row}{r:Row}(h:SO R)(hr:fc r\/r.length≠2):(cd ⟨S,R⟩ r).2≠19/\((cd ⟨S,R⟩ r).2=0->fc r):=by
 rcases hr with hr|hr
 ·refine⟨?_,fun _=>hr⟩;have hf:=hr.fits;have Uc:=hr;obtain⟨a,v,rfl,-⟩:=Uc;obtain⟨p,q⟩:=h.sr.at_ a;rw[xh (S:=S) h2 h.sr (by rw[h1];exact hf) q];split
  ·simp
  ·split
   ·simp
   ·simp
 ·have hf:dO S.cols r=1:=by
   unfold dO;have h2:S.cols.length=2:=by rw[h1];rfl
   rw[if_pos (decide_eq_true (by rw[h2];omega))]
  unfold cd;simp only;rw[hf];exact⟨by simp,by simp⟩
theorem EM{d:DB}{n:Nat}{hd:bP}{d1:DB}{i j:Nat}{w:dw}{t:cg}(h:aO d hd=(d1,0))(g:rL n hd d1 i w j t){r:Row}(hr:fc r\/r.length≠2){D:DB×Int}(hD:dh d hd (jX r)=D):
 ((w.log.length:Int)>=60->D=(d1,4))/\(¬(w.log.length:Int)>=60->∀T:cg×Int,cd t r=T->(T.2≠0->D=(d1,T.2))/\(T.2=0->fc r/\D=(⟨d1.aK.set j T.1,d1.au.set i ⟨w.s,w.log++[⟨hd.table,1,r⟩],w.marks⟩,d1.holds,d1.waits⟩,0))):=by
 rw[oh h g]at hD;obtain⟨c1,c2,c3,-⟩:=g.sc.tw.ok t (List.mem_of_getElem? g.tj);obtain⟨S,R⟩:=t;obtain⟨e1,e2⟩:=Hf c1 c2 c3 hr;have a1:(jX r ⟨S,R⟩).2.2=(cd ⟨S,R⟩ r).2:=rfl;have a2:(jX r ⟨S,R⟩).1=(cd ⟨S,R⟩ r).1:=rfl;rw[a1,a2]at hD;rw[decide_eq_true e1,Bool.true_and]at hD;refine⟨fun hl=>?_,fun hl T hT=>⟨fun ht=>?_,fun ht=>?_⟩⟩
 ·rw[if_pos (decide_eq_true hl)]at hD;exact hD.symm
 ·rw[if_neg (by simpa using hl),hT,if_neg (by simpa using ht)]at hD;exact hD.symm
 ·rw[if_neg (by simpa using hl),hT,if_pos (by simpa using ht)]at hD;rw[<-hD];exact⟨e2 (by rw[hT];exact ht),rfl⟩
theorem BL{d:DB}{n:Nat}{hd:bP}{d1:DB}{i j:Nat}{w:dw}{t:cg}(h:aO d hd=(d1,0))(g:rL n hd d1 i w j t){a:Int}{D:DB×Int}(hD:dh d hd (eC ⟨2,a,kh⟩)=D):
 (t.S.only=true->D=(d1,19))/\(t.S.only=false->((w.log.length:Int)>=60->D=(d1,4))/\(¬(w.log.length:Int)>=60->∀T:cg×Row×Int,bt t ⟨2,a,kh⟩=T->(T.2.2≠0->D=(d1,T.2.2))/\(T.2.2=0->fc T.2.1/\D=(⟨d1.aK.set j T.1,d1.au.set i ⟨w.s,w.log++[⟨hd.table,2,T.2.1⟩],w.marks⟩,d1.holds,d1.waits⟩,0)))):=by
 rw[oh h g]at hD;obtain⟨c1,c2,c3,-⟩:=g.sc.tw.ok t (List.mem_of_getElem? g.tj);obtain⟨S,R⟩:=t;refine⟨fun ho=>?_,fun ho=>?_⟩
 ·have ho:S.only=true:=ho;have e:eC ⟨2,a,kh⟩ ⟨S,R⟩=(⟨S,R⟩,⟨fT,0,[]⟩,19):=by unfold eC;rw[if_pos ho]
  rw[e]at hD;exact hD.symm
 ·have ho:S.only=false:=ho;have e:eC ⟨2,a,kh⟩ ⟨S,R⟩=((bt ⟨S,R⟩ ⟨2,a,kh⟩).1,⟨fT,2,(bt ⟨S,R⟩ ⟨2,a,kh⟩).2.1⟩,(bt ⟨S,R⟩ ⟨2,a,kh⟩).2.2):=by unfold eC;rw[if_neg (by simp[ho])]
  rw[e]at hD;obtain⟨p,q⟩:=c3.sr.at_ a;have hq:=uo (S:=S) c2 c3.sr q;have e1:(bt ⟨S,R⟩ ⟨2,a,kh⟩).2.2≠19/\((bt ⟨S,R⟩ ⟨2,a,kh⟩).2.2=0->fc (bt ⟨S,R⟩ ⟨2,a,kh⟩).2.1):=by
   rw[hq];by_cases hk:wM R a p=true
   ·rw[if_pos hk];refine⟨by simp,fun _=>?_⟩;show fc ((R[p]?).getD []);unfold wM at hk;cases hr:R[p]? with
    |none=>rw[hr]at hk;cases hk
    |some row=>exact c3.ok row (List.mem_of_getElem? hr)
   ·rw[if_neg hk];exact⟨by simp,by simp⟩
  obtain⟨e1,e2⟩:=e1;simp only at hD;rw[decide_eq_true e1,Bool.true_and]at hD;refine⟨fun hl=>?_,fun hl T hT=>⟨fun ht=>?_,fun ht=>?_⟩⟩
  ·rw[if_pos (decide_eq_true hl)]at hD;exact hD.symm
  ·rw[if_neg (by simpa using hl),hT,if_neg (by simpa using ht)]at hD;exact hD.symm
  ·rw[if_neg (by simpa using hl),hT,if_pos (by simpa using ht)]at hD;rw[<-hD];refine⟨?_,rfl⟩;rw[<-hT];exact e2 (by rw[hT];exact ht)
end Go.S
