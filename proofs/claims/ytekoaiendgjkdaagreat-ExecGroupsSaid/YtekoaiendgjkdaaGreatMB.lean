import Derived.Test.YtekoaiendgjkdaaGreatMA
set_option linter.unusedVariables false
set_option linter.unusedSimpArgs false
set_option linter.unusedSectionVars false
set_option maxRecDepth 100000
set_option maxHeartbeats 8000000
namespace Go.S
open Go.Sx Go.Proofs
structure SC(d:DB):Prop where
 tw:TW d.az
 jC:d.aq.Pairwise (fun a b=>a.s<b.s)
 pH:∀w∈d.aq,0<=w.s/\w.s<8
 log:∀w∈d.aq,(∀x∈w.log,FV d.az x)/\w.log.length<=60
 VG:gZo d
 hu:HU d.holds
 hw:∀x∈d.holds,∃w∈d.aq,w.s=x.s
 hc:∀x∈d.holds,∀y∈d.holds,eL x y=false
 lg:∀w∈d.aq,∀c∈w.log,∃x∈d.holds,x.s=w.s/\x.table=c.table/\x.x=true
theorem SC.si{d:DB}{n:Nat}(q:SC d)(o:ue n d)(hn:n<=2^17):SI d:=⟨q.tw,q.jC,q.pH,q.log,mXW o.holds hn,mXW o.waits hn⟩
theorem aJg{H:List cg}{hd:cg}:(oG H hd=none/\∀x∈H,jJ hd x=false)\/∃i x,oG H hd=some i/\H[i]? =some x/\jJ hd x=true:=by
 cases h:oG H hd with
 |none=>left;refine⟨rfl,?_⟩;unfold oG at h;exact mKd.1 h
 |some i=>right;unfold oG at h;obtain⟨h1,h2,-⟩:=mKc.1 h;exact⟨i,_,rfl,mXJ h1,h2⟩
theorem aJh{hd x:cg}(h:jJ hd x=true):x.s=hd.s/\x.table=hd.table:=by unfold jJ at h;simpa using h
theorem IU{H:List cg}(hd:cg):
 (bP H hd=true/\((cV H hd=H/\∃x∈H,x.s=hd.s/\x.table=hd.table/\(x.x|| !hd.x)=true)\/((∀y∈H,eL hd y=false)/\cV H hd=H++[hd]/\∀x∈H,jJ hd x=false)\/
  ((∀y∈H,eL hd y=false)/\hd.x=true/\∃i x,H[i]? =some x/\x.s=hd.s/\x.table=hd.table/\cV H hd=H.set i hd)))\/(bP H hd=false/\cV H hd=H):=by
 have ua:H.any (eL hd)=false->∀y∈H,eL hd y=false:=fun h y hy=>by
  have:=mJi.1 h y hy;simpa using this
 have gK:bP H hd=false->cV H hd=H:=fun h=>by unfold cV;rw[h];rfl
 rcases aJg (H:=H) (hd:=hd)with ⟨hm,aV⟩ | ⟨i,x,hm,hx,hp⟩
 ·obtain⟨h1,h2,h3⟩:=Rd (W:=[]) hm;cases ha:H.any (eL hd)with
  |false=>left;exact⟨by rw[h1,ha];rfl,.inr (.inl ⟨ua ha,h2 ha,aV⟩)⟩
  |true=>
   right;have:bP H hd=false:=by rw[h1,ha];rfl
   exact⟨this,gK this⟩
 ·obtain⟨e1,e2⟩:=aJh hp;obtain⟨h1,h2⟩:=Rc (W:=[]) hm hx hp;cases Jd:(x.x|| !hd.x)with
  |true=>left;obtain⟨h3,h4⟩:=h1 Jd;exact⟨h3,.inl ⟨h4,x,GD hx,e1,e2,Jd⟩⟩
  |false=>
   obtain⟨h3,h4,h5⟩:=h2 Jd;cases ha:H.any (eL hd)with
   |false=>
    left;refine⟨by rw[h3,ha];rfl,.inr (.inr ⟨ua ha,?_,i,x,hx,e1,e2,?_⟩)⟩
    ·cases hh:hd.x with
     |true=>rfl
     |false=>rw[hh]at Jd;simp at Jd
    ·rw[h4 ha];have hh:hd.x=true:=by
      cases hh:hd.x with
      |true=>rfl
      |false=>rw[hh]at Jd;simp at Jd
     congr 1;cases hd;simp only at e1 e2 hh;rw[e1,e2,hh]
   |true=>
    right;have:bP H hd=false:=by rw[h3,ha];rfl
    exact⟨this,gK this⟩
theorem cZy{H:List cg}(hd:cg)(h:bP H hd=true):∃x∈cV H hd,x.s=hd.s/\x.table=hd.table/\(x.x|| !hd.x)=true:=by
 rcases IU (H:=H) hd with ⟨-,h1⟩ | ⟨h1,-⟩
 ·rcases h1 with ⟨e,x,hx,h2⟩ | ⟨-,e,-⟩ | ⟨-,Jd,i,x,hx,e1,e2,e⟩
  ·exact⟨x,by rw[e];exact hx,h2⟩
  ·exact⟨hd,by rw[e];simp,rfl,rfl,by cases hd.x<;>rfl⟩
  ·refine⟨hd,?_,rfl,rfl,by rw[Jd];rfl⟩;rw[e];exact mZq.2 ⟨i,mZj (HH.1 hx).1⟩
 ·rw[h]at h1;cases h1
theorem Lt(x:cg):eL x x=false:=by unfold eL;simp
theorem bXL{d:DB}(q:SC d){hd:cg}(hw:∃w∈d.aq,w.s=hd.s)(W':List cg):SC ⟨d.az,d.aq,cV d.holds hd,W'⟩:=by
 rcases IU (H:=d.holds) hd with ⟨-,h1⟩ | ⟨-,e⟩
 ·rcases h1 with ⟨e,-⟩ | ⟨aV,e,hm⟩ | ⟨aV,Jd,i,x,hx,e1,e2,e⟩
  ·rw[e];exact⟨q.tw,q.jC,q.pH,q.log,q.VG,q.hu,q.hw,q.hc,q.lg⟩
  ·rw[e];refine⟨q.tw,q.jC,q.pH,q.log,q.VG,?_,?_,?_,?_⟩
   ·intro i j x y hi hj h1 h2;have hi:(d.holds++[hd])[i]? =some x:=hi;have hj:(d.holds++[hd])[j]? =some y:=hj;rw[mXX]at hi hj;have no:∀z∈d.holds,z.s=hd.s->z.table=hd.table->False:=fun z hz a b=>by
     have:=hm z hz;unfold jJ at this;simp[a,b]at this
    split at hi
    ·rename_i a1;split at hj
     ·exact q.hu i j x y hi hj h1 h2
     ·rename_i a2;rw[mZi]at hj;split at hj
      ·cases hj;exact(no x (GD hi) h1 h2).elim
      ·cases hj
    ·rename_i a1;rw[mZi]at hi;split at hi
     ·cases hi;split at hj
      ·exact(no y (GD hj) h1.symm h2.symm).elim
      ·rename_i b1 a2;rw[mZi]at hj;split at hj
       ·omega
       ·cases hj
     ·cases hi
   ·intro x hx;rcases mQv.1 hx with hx|hx
    ·exact q.hw x hx
    ·simp at hx;rw[hx];exact hw
   ·intro x hx y hy;rcases mQv.1 hx with hx|hx
    ·rcases mQv.1 hy with hy|hy
     ·exact q.hc x hx y hy
     ·simp at hy;rw[hy,uY];exact aV x hx
    ·simp at hx;rw[hx];rcases mQv.1 hy with hy|hy
     ·exact aV y hy
     ·simp at hy;rw[hy];exact Lt _
   ·intro w hw c hc;obtain⟨x,hx,h⟩:=q.lg w hw c hc;exact⟨x,mQv.2 (.inl hx),h⟩
  ·rw[e];have ke:=(HH.1 hx).1;refine⟨q.tw,q.jC,q.pH,q.log,q.VG,?_,?_,?_,?_⟩
   ·have key:∀(a:Nat) (y:cg),(d.holds.set i hd)[a]? =some y->∃z:cg,d.holds[a]? =some z/\z.s=y.s/\z.table=y.table:=fun a y ha=>by
     rw[mXF]at ha;split at ha
     ·rename_i h;subst h;try rw[if_pos ke]at ha
      cases ha;exact⟨x,hx,e1,e2⟩
     ·exact⟨y,ha,rfl,rfl⟩
    intro a b x y ha hb h1 h2;obtain⟨z1,a1,a2,a3⟩:=key a x ha;obtain⟨z2,b1,b2,b3⟩:=key b y hb;exact q.hu a b z1 z2 a1 b1 (by rw[a2,b2,h1]) (by rw[a3,b3,h2])
   ·intro y hy;rcases mXx hy with h|h
    ·exact q.hw y h
    ·rw[h];exact hw
   ·intro y hy z hz;rcases mXx hy with h|h
    ·rcases mXx hz with h2|h2
     ·exact q.hc y h z h2
     ·rw[h2,uY];exact aV y h
    ·rw[h];rcases mXx hz with h2|h2
     ·exact aV z h2
     ·rw[h2];exact Lt _
   ·intro w hw c hc;obtain⟨y,hy,h1,h2,h3⟩:=q.lg w hw c hc;obtain⟨j,hj⟩:=mQZ hy;by_cases aKH:i=j
    ·subst aKH;rw[hx]at hj;cases hj;exact⟨hd,mZq.2 ⟨i,mZj ke⟩,by rw[<-e1,h1],by rw[<-e2,h2],Jd⟩
    ·exact⟨y,mZq.2 ⟨j,by rw[mZP aKH];exact hj⟩,h1,h2,h3⟩
 ·rw[e];exact⟨q.tw,q.jC,q.pH,q.log,q.VG,q.hu,q.hw,q.hc,q.lg⟩
theorem Ix{ws:List fJ}(hs:ws.Pairwise (fun a b=>a.s<b.s))(hr:∀w∈ws,0<=w.s/\w.s<8){s:Int}(jx:-2^63<=s/\s<2^63)(w:fJ):w∈zS ws s↔w∈ws/\w.s≠s:=by
 unfold zS;cases hb:jG (bQ ws s)with
 |true=>
  rw[if_pos rfl];obtain⟨w0,Ek,he⟩:=yD hr jx hb;have hu:=uq hs Ek;constructor
  ·intro h;obtain⟨j,hj,jXO⟩:=mJS.1 h;refine⟨GD jXO,fun e=>hj (hu j w jXO (by rw[e,he]))⟩
  ·rintro⟨h,ch⟩;obtain⟨j,hj⟩:=mQZ h;refine mJS.2 ⟨j,fun e=>?_,hj⟩;subst e;rw[Ek]at hj;cases hj;exact ch he
 |false=>
  rw[if_neg (by simp)];constructor
  ·intro h;refine⟨h,fun e=>?_⟩;have:=(lR hs hr jx).2 ⟨w,h,e⟩;rw[hb]at this;cases this
  ·exact fun h=>h.1
theorem Bv{H:List cg}{s:Int}{x:cg}:x∈bX H s↔x∈H/\x.s≠s:=by unfold bX;simp[mXt]
theorem bJl{H:List cg}(h:HU H)(s:Int):HU (bX H s):=by
 have key:∀ {L:List cg},HU L->∀ {p:cg->Bool},HU (L.filter p):=by
  intro L;induction L with
  |nil=>intro _ p;simp[HU]
  |cons a r ih=>
   intro hL p;have hr:HU r:=fun i j x y hi hj h1 h2=>by
    have:=hL (i+1) (j+1) x y (by simpa using hi) (by simpa using hj) h1 h2;omega
   have ch:∀y∈r,a.s=y.s->a.table=y.table->False:=fun y hy h1 h2=>by
    obtain⟨j,hj⟩:=mQZ hy;have:=hL 0 (j+1) a y rfl (by simpa using hj) h1 h2;omega
   by_cases hp:p a=true
   ·rw[mZc hp];intro i j x y hi hj h1 h2;cases i with
    |zero=>
     simp at hi;subst hi;cases j with
     |zero=>rfl
     |succ j=>simp at hj;exact(ch y (mXt.1 (GD hj)).1 h1 h2).elim
    |succ i=>
     simp at hi;cases j with
     |zero=>simp at hj;subst hj;exact(ch x (mXt.1 (GD hi)).1 h1.symm h2.symm).elim
     |succ j=>simp at hj;have:=ih hr (p:=p) i j x y hi hj h1 h2;omega
   ·rw[mXQ hp];exact ih hr
 exact key h
theorem bQD{d:DB}(q:SC d){s:Int}(jx:-2^63<=s/\s<2^63){T:List cW}(hT:TW T)(hS:T.map (·.S)=d.az.map (·.S))(W':List cg):SC ⟨T,zS d.aq s,bX d.holds s,W'⟩:=by
 have hm:=Ix q.jC q.pH jx;refine⟨hT,q.jC.sublist (rV _ _),fun w hw=>q.pH w ((hm w).1 hw).1,fun w hw=>?_,fun w hw=>q.VG w ((hm w).1 hw).1,bJl q.hu s,fun x hx=>?_,fun x hx y hy=>q.hc x (Bv.1 hx).1 y (Bv.1 hy).1,fun w hw c hc=>?_⟩
 ·obtain⟨h1,h2⟩:=q.log w ((hm w).1 hw).1;exact⟨fun x hx=>(h1 x hx).map hS,h2⟩
 ·obtain⟨h1,h2⟩:=Bv.1 hx;obtain⟨w,hw,he⟩:=q.hw x h1;exact⟨w,(hm w).2 ⟨hw,by rw[he];exact h2⟩,he⟩
 ·obtain⟨h1,h2⟩:=(hm w).1 hw;obtain⟨x,hx,g1,g2⟩:=q.lg w h1 c hc;exact⟨x,Bv.2 ⟨hx,by rw[g1];exact h2⟩,g1,g2⟩
theorem bXA{d:DB}(q:SC d)(s:Int):TW (tH d.az d.aq s):=by
 unfold tH;split
 ·split
  ·rename_i w hw;exact BA q.tw (q.log w (GD hw)).1
  ·exact q.tw
 ·exact q.tw
theorem Gq{d:DB}(q:SC d){s:Int}(jx:-2^63<=s/\s<2^63):SC (kh d s):=bQD q jx (bXA q s) (Nw _ _ _) _
theorem Wh(hd:cg)(hs:0<=hd.s/\hd.s<8):∀(f:Nat) (d:DB),SC d->(∃w∈d.aq,w.s=hd.s)->SC (jK f d hd).1/\((jK f d hd).2=0->∃x∈(jK f d hd).1.holds,x.s=hd.s/\x.table=hd.table/\(x.x|| !hd.x)=true)
 |0,d,q,hw=>⟨q,fun h=>by cases h⟩
 |f+1,d,q,hw=>by
  have qa:=bXL q hw (df d.holds d.waits hd);unfold jK;by_cases mO:bP d.holds hd=true
  ·rw[if_pos mO];exact⟨qa,fun _=>cZy hd mO⟩
  ·rw[if_neg mO];by_cases hv:(dG (da (cV d.holds hd) (df d.holds d.waits hd)) hd.s).2=true
   ·rw[if_pos hv];have bZy:-2^63<=(dG (da (cV d.holds hd) (df d.holds d.waits hd)) hd.s).1/\(dG (da (cV d.holds hd) (df d.holds d.waits hd)) hd.s).1<2^63:=by
     have:=rA (da (cV d.holds hd) (df d.holds d.waits hd)) hd.s;rcases this.out with ⟨h1,-⟩ | ⟨-,h2,h3,h4,-⟩
     ·rw[hv]at h1;cases h1
     ·rcases h4 with h4| ⟨h4,-⟩
      ·rw[h4];omega
      ·obtain⟨x,hx,he⟩:=vP (yK h4);obtain⟨w,hw,Ep⟩:=qa.hw x hx;have:=qa.pH w hw;omega
    by_cases cQx:(dG (da (cV d.holds hd) (df d.holds d.waits hd)) hd.s).1=hd.s
    ·rw[if_pos (kS cQx)];exact⟨Gq qa bZy,fun h=>by cases h⟩
    ·rw[if_neg (by simpa using cQx)];refine Wh hd hs f _ (Gq qa bZy) ?_;obtain⟨w,hw,he⟩:=hw;exact⟨w,(Ix qa.jC qa.pH bZy w).2 ⟨hw,by rw[he];exact fun h=>cQx h.symm⟩,he⟩
   ·rw[if_neg hv];exact⟨qa,fun h=>by cases h⟩
theorem PU{d:DB}(q:SC d)(hd:cg)(hs:-2^63<=hd.s/\hd.s<2^63):SC (aL d hd).1/\((aL d hd).2=0->∃x∈(aL d hd).1.holds,x.s=hd.s/\x.table=hd.table/\(x.x|| !hd.x)=true):=by
 unfold aL;by_cases yT:Hw d hd=true
 ·rw[if_pos yT];unfold Hw at yT;rw[mQG]at yT;obtain⟨w,hw,he⟩:=(lR q.jC q.pH hs).1 yT.1;have:=q.pH w hw;exact Wh hd (by omega) _ d q ⟨w,hw,he⟩
 ·rw[if_neg yT];exact⟨q,fun h=>by cases h⟩
structure G4 where
 b1:Option Addr
 n1:Nat
 c1:Nat
 b2:Option Addr
 n2:Nat
 c2:Nat
 b3:Option Addr
 n3:Nat
 c3:Nat
 b4:Option Addr
 n4:Nat
 c4:Nat
structure eJl(n:Nat)(hd:cg)(D:DB×Int)(m f:Nat)(d0:DB):Prop where
 sc:SC d0
 hb:d0.holds.length<=n
 wb:(bX d0.waits hd.s).length<=n
 wc:d0.waits.length<=n+1
 wk:∃w∈d0.aq,w.s=hd.s
 eq:jK f d0 hd=D
 fl:d0.holds.length<f
 ms:m=d0.holds.length
structure Dv(n:Nat)(hd:cg)(d1:DB)(i:Nat)(w:fJ)(j:Nat)(t:cW):Prop where
 sc:SC d1
 ok:ue (n+1) d1
 wi:d1.aq[i]? =some w
 ws:w.s=hd.s
 bi:di (bQ d1.aq hd.s)=i
 tj:d1.az[j]? =some t
 tn:t.S.name=hd.table
 bj:di (aQ d1.az hd.table)=j
 hl:∃x∈d1.holds,x.s=hd.s/\x.table=hd.table/\(x.x|| !hd.x)=true
theorem nQ{d:DB}{n:Nat}(hC:SC d)(hO:ue n d){hd:cg}(hs:-2^63<=hd.s/\hd.s<2^63){d1:DB}(h:aL d hd=(d1,0)):∃i w j t,Dv n hd d1 i w j t:=by
 obtain⟨h1,h2⟩:=PU hC hd hs;have h3:=HW hO hs (by rw[h]);have h4:=(xZ hO hd hs).ok;rw[h]at h1 h2 h3 h4;obtain⟨w,hw,he⟩:=yD h1.pH hs h3.2;have aP:=lr h3.1;obtain⟨t,ht⟩:=aE (xs:=d1.az) (i:=di (aQ d1.az hd.table)) (by simpa[aQ]using aP);have hn:t.S.name=hd.table:=by
  have h5:=h3.1;unfold jG at h5;obtain⟨-,h6⟩:=mQB h5;have:(aQ d1.az hd.table).getD (di (aQ d1.az hd.table)) 0=eC t.S.name hd.table:=by
   conv=>lhs;unfold aQ
   rw[mXv,mQU];rw[show d1.az.map (fun x=>eC x.S.name hd.table)=aQ d1.az hd.table from rfl,ht];rfl
  rw[this]at h6;exact zI h6
 exact⟨_,w,_,t,⟨h1,h4,hw,he,rfl,ht,hn,rfl,h2 rfl⟩⟩
theorem yz{d:DB}{n:Nat}{hd:cg}{d1:DB}{i j:Nat}{w:fJ}{t:cW}(h:aL d hd=(d1,0))(g:Dv n hd d1 i w j t)(act:cW->cW×dV×Int):
 dM d hd act=if decide ((act t).2.2≠19)&&decide ((w.log.length:Int)>=60)then(d1,4)else if decide ((act t).2.2=0)=true then
  (⟨d1.az.set j (act t).1,d1.aq.set i ⟨w.s,w.log++[⟨hd.table,(act t).2.1.op,(act t).2.1.row⟩],w.marks⟩,d1.holds,d1.waits⟩,0)else(d1,(act t).2.2):=by
 unfold dM;rw[h];simp only[ne_eq,not_true_eq_false,decide_false,mXY,if_false];rw[g.bj,g.bi,g.tj,g.wi]
theorem oe{d:DB}{hd:cg}{d1:DB}{e:Int}(h:aL d hd=(d1,e))(he:e≠0)(act:cW->cW×dV×Int):dM d hd act=(d1,e):=by unfold dM;rw[h,if_pos (kS he)]
theorem aXo{S:FR}(h1:S.cols=bp)(h2:S.key=0){R:List Row}{r:Row}(h:SO R)(hr:fK r\/r.length≠2):(bK ⟨S,R⟩ r).2≠19/\((bK ⟨S,R⟩ r).2=0->fK r):=by
 rcases hr with hr|hr
 ·refine⟨?_,fun _=>hr⟩;have hf:=hr.fits;have uj:=hr;obtain⟨a,v,rfl,-⟩:=uj;obtain⟨p,q⟩:=h.sr.at_ a;rw[mJ (S:=S) h2 h.sr (by rw[h1];exact hf) q];split
  ·simp
  ·split
   ·simp
   ·simp
 ·have hf:dg S.cols r=1:=by
   unfold dg;have h2:S.cols.length=2:=by rw[h1];rfl
   rw[if_pos (kS (by rw[h2];omega))]
  unfold bK;simp only;rw[hf];exact⟨by simp,by simp⟩
theorem Ki{d:DB}{n:Nat}{hd:cg}{d1:DB}{i j:Nat}{w:fJ}{t:cW}(h:aL d hd=(d1,0))(g:Dv n hd d1 i w j t){r:Row}(hr:fK r\/r.length≠2){D:DB×Int}(hD:dM d hd (dK r)=D):
 ((w.log.length:Int)>=60->D=(d1,4))/\(¬(w.log.length:Int)>=60->∀T:cW×Int,bK t r=T->(T.2≠0->D=(d1,T.2))/\(T.2=0->fK r/\D=(⟨d1.az.set j T.1,d1.aq.set i ⟨w.s,w.log++[⟨hd.table,1,r⟩],w.marks⟩,d1.holds,d1.waits⟩,0))):=by
 rw[yz h g]at hD;obtain⟨c1,c2,c3,-⟩:=g.sc.tw.ok t (GD g.tj);obtain⟨S,R⟩:=t;obtain⟨e1,e2⟩:=aXo c1 c2 c3 hr;have a1:(dK r ⟨S,R⟩).2.2=(bK ⟨S,R⟩ r).2:=rfl;have a2:(dK r ⟨S,R⟩).1=(bK ⟨S,R⟩ r).1:=rfl;rw[a1,a2]at hD;rw[kS e1,mZO]at hD;refine⟨fun hl=>?_,fun hl T hT=>⟨fun ht=>?_,fun ht=>?_⟩⟩
 ·rw[if_pos (kS hl)]at hD;exact hD.symm
 ·rw[if_neg (by simpa using hl),hT,if_neg (by simpa using ht)]at hD;exact hD.symm
 ·rw[if_neg (by simpa using hl),hT,if_pos (by simpa using ht)]at hD;rw[<-hD];exact⟨e2 (by rw[hT];exact ht),rfl⟩
end Go.S
