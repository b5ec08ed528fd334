import Derived.Test.YtekoaiendgjkdaaGreatMB
set_option linter.unusedVariables false
set_option linter.unusedSimpArgs false
set_option linter.unusedSectionVars false
set_option maxRecDepth 100000
set_option maxHeartbeats 8000000
namespace Go.S
open Go.Sx Go.Proofs
theorem SC.CM{d:DB}(q:SC d){n:Nat}(hH:d.holds.length<=n)(hW:d.waits.length<=n):wX n d:=by
 refine⟨?_,q.pH,q.so,fun t ht=>?_,hH,hW,fun x hx=>?_⟩
 ·have:=q.tw.le;omega
 ·have:=(q.tw.ok t ht).2.2.1.le;omega
 ·obtain⟨w,hw,he⟩:=q.hw x hx;have:=q.so w hw;omega
theorem I4{α:Type}{p:α->Bool}{x:α}:∀ {l:List α},x∈l.takeWhile p->p x=true
 | [],h=>by cases h
 |y::r,h=>by
  cases hp:p y with
  |true=>
   rw[List.takeWhile_cons_of_pos hp]at h;rcases List.mem_cons.1 h with rfl|h
   ·exact hp
   ·exact I4 h
  |false=>rw[List.takeWhile_cons_of_neg (by rw[hp];simp)]at h;cases h
theorem EI{α:Type}{p:α->Bool}{x:α}:∀ {l:List α},l[(l.takeWhile p).length]? =some x->p x=false
 | [],h=>by simp at h
 |y::r,h=>by
  cases hp:p y with
  |true=>rw[List.takeWhile_cons_of_pos hp,List.length_cons]at h;exact EI (l:=r) (by simpa using h)
  |false=>rw[List.takeWhile_cons_of_neg (by rw[hp];simp)]at h;simp at h;rw[<-h];exact hp
def Mo(d:DB):Prop:=∀w∈d.au,w.marks.Pairwise (fun a b=>a.at_<=b.at_)
structure SJ(n:Nat)(d:DB):Prop where
 sc:SC d
 mo:Mo d
 hn:d.holds.length<=n
 wn:d.waits.length<=n
theorem SJ.CM{n:Nat}{d:DB}(q:SJ n d):wX n d:=q.sc.CM q.hn q.wn
theorem SJ.le{n m:Nat}{d:DB}(q:SJ n d)(h:n<=m):SJ m d:=⟨q.sc,q.mo,Nat.le_trans q.hn h,Nat.le_trans q.wn h⟩
theorem uB{n:Nat}{d:DB}(q:SJ n d)(hd:bZ)(hs:-2^63<=hd.s/\hd.s<2^63):SJ (n+1) (ay d hd).1:=by have h:=rA q.CM hd hs;exact⟨(BP q.sc hd hs).1,fun w hw=>q.mo w (h.sub.subset hw),h.ok.holds,h.ok.waits⟩
theorem HV{d:DB}(hI:SI d){s:Int}(hs:0<=s/\s<8)(hb:lK (cA d.au s)=false):∃i,dr (cA d.au s)=i/\i<=d.au.length/\(∀w∈d.au.take i,w.s<s)/\∀w∈d.au.drop i,s<w.s:=by
 obtain⟨i,hi⟩:∃i,i=(d.au.takeWhile fun w=>decide (w.s<s)).length:=⟨_,rfl⟩;have hle:i<=d.au.length:=by rw[hi];exact(List.takeWhile_sublist _).length_le
 have Xp:d.au.take i=d.au.takeWhile fun w=>decide (w.s<s):=by rw[hi];exact(List.prefix_iff_eq_take.1 (List.takeWhile_prefix _)).symm
 have D5:∀w∈d.au.take i,w.s<s:=fun w hw=>by
  rw[Xp]at hw;have:=I4 hw;exact of_decide_eq_true this
 have dD:∀w,d.au[i]? =some w->¬w.s<s:=fun w hw=>by
  rw[hi]at hw;have:=EI (p:=fun w:dO=>decide (w.s<s)) hw;exact of_decide_eq_false this
 have bW:∀w∈d.au,w.s≠s:=fun w hw he=>by
  have:=(mh hI.pH hI.so (s:=s) (by omega)).2 ⟨w,hw,he⟩;rw[hb]at this;cases this
 refine⟨i,IG hI hs hle (fun j w hj hw=>D5 w (List.mem_of_getElem? (by rw[List.getElem?_take,if_pos hj];exact hw))) dD,hle,D5,fun w hw=>?_⟩;obtain⟨j,hj⟩:=List.getElem?_of_mem hw;rw[List.getElem?_drop]at hj;obtain⟨w0,sV⟩:=aI (xs:=d.au) (i:=i) (by have:=(List.getElem?_eq_some_iff.1 hj).1;omega);have h0:=dD w0 sV;have h1:=bW w0 (List.mem_of_getElem? sV);cases j with
 |zero=>rw[Nat.add_zero,sV]at hj;cases hj;omega
 |succ j=>have:=List.pairwise_iff_getElem.1 hI.pH i (i+(j+1)) (List.getElem?_eq_some_iff.1 sV).1 (List.getElem?_eq_some_iff.1 hj).1 (by omega);rw[(List.getElem?_eq_some_iff.1 sV).2,(List.getElem?_eq_some_iff.1 hj).2]at this;omega
theorem Ji{n:Nat}{d:DB}(q:SJ n d)(hn:n<=2^17)(s:Int):SJ n (ey d s).1:=by
 unfold ey ij;split
 ·exact q
 ·rename_i h1;have hs:0<=s/\s<8:=by simp at h1;omega
  split
  ·exact q
  ·rename_i h2;have hb:lK (cA d.au s)=false:=by simpa using h2
   obtain⟨i,hi,hle,D5,hhi⟩:=HV (q.sc.si q.CM hn) hs hb;rw[hi];have jJ:∀w,w∈d.au.take i++[(⟨s,[],[]⟩:dO)]++d.au.drop i->w∈d.au\/w=⟨s,[],[]⟩:=fun w hw=>by
    rcases List.mem_append.1 hw with hw|hw
    ·rcases List.mem_append.1 hw with hw|hw
     ·exact .inl (List.mem_of_mem_take hw)
     ·simp at hw;exact .inr hw
    ·exact .inl (List.mem_of_mem_drop hw)
   have eW:∀w,w∈d.au->w∈d.au.take i++[(⟨s,[],[]⟩:dO)]++d.au.drop i:=fun w hw=>by
    rw[<-List.take_append_drop i d.au]at hw;rcases List.mem_append.1 hw with hw|hw
    ·exact List.mem_append.2 (.inl (List.mem_append.2 (.inl hw)))
    ·exact List.mem_append.2 (.inr hw)
   refine⟨⟨q.sc.tw,?_,fun w hw=>?_,fun w hw=>?_,fun w hw=>?_,q.sc.hu,fun x hx=>?_,q.sc.hc,fun w hw c hc=>?_⟩,fun w hw=>?_,q.hn,q.wn⟩
   ·show(d.au.take i++[(⟨s,[],[]⟩:dO)]++d.au.drop i).Pairwise _;have KL:=q.sc.pH;rw[<-List.take_append_drop i d.au,List.pairwise_append]at KL;obtain⟨s1,s2,s3⟩:=KL;rw[List.append_assoc,List.pairwise_append];refine⟨s1,?_,fun a ha b hb=>?_⟩
    ·rw[List.singleton_append,List.pairwise_cons];exact⟨fun b hb=>hhi b hb,s2⟩
    ·rcases List.mem_cons.1 (by simpa using hb:b∈(⟨s,[],[]⟩:dO)::d.au.drop i)with rfl|hb
     ·exact D5 a ha
     ·exact s3 a ha b hb
   ·rcases jJ w hw with h|rfl
    ·exact q.sc.so w h
    ·exact hs
   ·rcases jJ w hw with h|rfl
    ·exact q.sc.log w h
    ·exact⟨fun x hx=>(by cases hx),by simp⟩
   ·rcases jJ w hw with h|rfl
    ·exact q.sc.QN w h
    ·exact⟨by simp,fun x hx=>(by cases hx)⟩
   ·obtain⟨w,hw,he⟩:=q.sc.hw x hx;exact⟨w,eW w hw,he⟩
   ·rcases jJ w hw with h|rfl
    ·exact q.sc.lg w h c hc
    ·cases hc
   ·rcases jJ w hw with h|rfl
    ·exact q.mo w h
    ·exact List.Pairwise.nil
theorem Ga{d:DB}{i:Nat}{w w':dO}(hi:d.au[i]? =some w)(hs:w'.s=w.s):(∀x∈d.au.set i w',x∈d.au\/x=w')/\(∀x∈d.au,∃y∈d.au.set i w',y.s=x.s)/\((d.au.Pairwise (fun a b=>a.s<b.s))->(d.au.set i w').Pairwise (fun a b=>a.s<b.s)):=by
 have kh:=(List.getElem?_eq_some_iff.1 hi).1;refine⟨fun x hx=>List.mem_or_eq_of_mem_set hx,fun x hx=>?_,fun h=>?_⟩
 ·obtain⟨j,hj⟩:=List.getElem?_of_mem hx;by_cases Rk:i=j
  ·subst Rk;rw[hi]at hj;cases hj;exact⟨w',List.mem_iff_getElem?.2 ⟨i,List.getElem?_set_self kh⟩,hs⟩
  ·exact⟨x,List.mem_iff_getElem?.2 ⟨j,by rw[List.getElem?_set_ne Rk];exact hj⟩,rfl⟩
 ·rw[List.pairwise_iff_getElem];have e:∀j (hj:j<(d.au.set i w').length),(d.au.set i w')[j].s=(d.au[j]'(by simpa using hj)).s:=fun j hj=>by
   rw[List.getElem_set];split
   ·rename_i e;subst e;rw[hs,<-(List.getElem?_eq_some_iff.1 hi).2]
   ·rfl
  intro a b ha hb Ir;rw[e a ha,e b hb];exact List.pairwise_iff_getElem.1 h a b _ _ Ir
theorem HP{n:Nat}{hd:bZ}{d1:DB}{i j:Nat}{w:dO}{t t':cE}(g:uO n hd d1 i w j t)(hm:Mo d1)(hx:hd.x=true)(hS:t'.S=t.S)(hr:SO t'.rows){x:iX}(e1:x.table=hd.table)(e2:lN x.row)(e3:x.op=1\/x.op=2)(hl:w.log.length<60):
 SJ (n+1) ⟨d1.aE.set j t',d1.au.set i ⟨w.s,w.log++[x],w.marks⟩,d1.holds,d1.waits⟩:=by
 have q:=g.sc;have hTS:(d1.aE.set j t').map (·.S)=d1.aE.map (·.S):=by
  apply List.ext_getElem?;intro k;rw[List.getElem?_map,List.getElem?_map,List.getElem?_set];split
  ·rename_i e;subst e;rw[g.tj];have:=(List.getElem?_eq_some_iff.1 g.tj).1;simp[this,hS]
  ·rfl
 obtain⟨w1,w2,w3⟩:=Ga (w':=⟨w.s,w.log++[x],w.marks⟩) g.wi rfl;have Uz:=List.mem_of_getElem? g.wi;refine⟨⟨q.tw.set g.tj hS hr,w3 q.pH,fun y hy=>?_,fun y hy=>?_,fun y hy=>?_,q.hu,fun z hz=>?_,q.hc,fun y hy c hc=>?_⟩,fun y hy=>?_,g.ok.holds,g.ok.waits⟩
 ·rcases w1 y hy with h|rfl
  ·exact q.so y h
  ·exact q.so w Uz
 ·rcases w1 y hy with h|rfl
  ·obtain⟨a,b⟩:=q.log y h;exact⟨fun z hz=>(a z hz).map hTS,b⟩
  ·obtain⟨a,b⟩:=q.log w Uz;refine⟨fun z hz=>?_,by simp;omega⟩;rcases List.mem_append.1 hz with hz|hz
   ·exact(a z hz).map hTS
   ·simp at hz;subst hz;exact AF.map ⟨e2,e3,t,List.mem_of_getElem? g.tj,by rw[e1];exact g.tn⟩ hTS
 ·rcases w1 y hy with h|rfl
  ·exact q.QN y h
  ·obtain⟨a,b⟩:=q.QN w Uz;refine⟨a,fun m hm=>?_⟩;obtain⟨k,h1,h2⟩:=b m hm;exact⟨k,h1,by simp;omega⟩
 ·obtain⟨y,hy,he⟩:=q.hw z hz;obtain⟨y2,KE,BV⟩:=w2 y hy;exact⟨y2,KE,BV.trans he⟩
 ·rcases w1 y hy with h|rfl
  ·exact q.lg y h c hc
  ·rcases List.mem_append.1 hc with hc|hc
   ·exact q.lg w Uz c hc
   ·simp at hc;subst hc;obtain⟨z,hz,a1,a2,a3⟩:=g.hl;exact⟨z,hz,a1.trans g.ws.symm,by rw[a2,e1],by rw[hx]at a3;simpa using a3⟩
 ·rcases w1 y hy with h|rfl
  ·exact hm y h
  ·exact hm w Uz
theorem NI{S:AU}(h1:S.cols=bB)(h2:S.key=0){R:List Row}{r:Row}(h:SO R)(hr:lN r\/r.length≠2){T:cE×Int}(hT:bI ⟨S,R⟩ r=T):T.1.S=S/\SO T.1.rows:=by subst hT;exact⟨qQ _ _,EK h1 h2 h hr⟩
theorem Su{n:Nat}{d:DB}(q:SJ n d)(s:Int)(nm:ByteArray){r:Row}(hs:-2^63<=s/\s<2^63)(hr:lN r\/r.length≠2):SJ (n+1) (fv d s nm r).1:=by
 have hh:=uB q ⟨s,nm,true⟩ hs;obtain⟨⟨d1,e⟩,hH⟩:∃X,ay d ⟨s,nm,true⟩=X:=⟨_,rfl⟩;rw[hH]at hh;by_cases he:e=0
 ·subst he;obtain⟨i,w,j,⟨S,R⟩,g⟩:=Ad q.sc q.CM hs hH;obtain⟨p1,p2⟩:=GH hH g hr (D:=fv d s nm r) rfl;obtain⟨c1,c2,c3,-⟩:=g.sc.tw.ok _ (List.mem_of_getElem? g.tj);by_cases qA:(w.log.length:Int)>=60
  ·rw[p1 qA];exact hh
  ·obtain⟨T,hT⟩:∃T,bI ⟨S,R⟩ r=T:=⟨_,rfl⟩;obtain⟨p3,p4⟩:=p2 qA T hT;obtain⟨t1,t2⟩:=NI c1 c2 c3 hr hT;by_cases hte:T.2=0
   ·obtain⟨Zp,hD⟩:=p4 hte;rw[hD];exact HP g hh.mo rfl t1 t2 rfl Zp (.inl rfl) (by omega)
   ·rw[p3 hte];exact hh
 ·have:fv d s nm r=(d1,e):=wL hH he _;rw[this];exact hh
theorem sj_take{n:Nat}{d:DB}(q:SJ n d)(s:Int)(nm:ByteArray)(a:Int)(hs:-2^63<=s/\s<2^63):SJ (n+1) (X2 d s nm ⟨2,a,pJ⟩).1:=by
 have hh:=uB q ⟨s,nm,true⟩ hs;obtain⟨⟨d1,e⟩,hH⟩:∃X,ay d ⟨s,nm,true⟩=X:=⟨_,rfl⟩;rw[hH]at hh;by_cases he:e=0
 ·subst he;obtain⟨i,w,j,⟨S,R⟩,g⟩:=Ad q.sc q.CM hs hH;obtain⟨p1,p2⟩:=take_steps hH g (a:=a) (D:=X2 d s nm ⟨2,a,pJ⟩) rfl;obtain⟨c1,c2,c3,-⟩:=g.sc.tw.ok _ (List.mem_of_getElem? g.tj);cases ho:S.only with
  |true=>rw[p1 ho];exact hh
  |false=>
   obtain⟨p3,p4⟩:=p2 ho;by_cases qA:(w.log.length:Int)>=60
   ·rw[p3 qA];exact hh
   ·obtain⟨T,hT⟩:∃T,cK ⟨S,R⟩ ⟨2,a,pJ⟩=T:=⟨_,rfl⟩;obtain⟨p5,p6⟩:=p4 qA T hT;have t1:T.1.S=S:=by rw[<-hT];exact xX _ _
    have t2:SO T.1.rows:=by rw[<-hT];exact I5 c2 c3 a
    by_cases hte:T.2.2=0
    ·obtain⟨Zp,hD⟩:=p6 hte;rw[hD];exact HP g hh.mo rfl t1 t2 rfl Zp (.inr rfl) (by omega)
    ·rw[p5 hte];exact hh
 ·have:X2 d s nm ⟨2,a,pJ⟩=(d1,e):=wL hH he _;rw[this];exact hh
end Go.S
