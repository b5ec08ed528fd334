import Derived.Test.YtekoaiendgjkdaaGreatMB
set_option linter.unusedVariables false
set_option linter.unusedSimpArgs false
set_option linter.unusedSectionVars false
set_option maxRecDepth 100000
set_option maxHeartbeats 8000000
namespace Go.S
open Go.Sx Go.Proofs
theorem SC.DE{d:DB}(q:SC d){n:Nat}(hH:d.holds.length<=n)(hW:d.waits.length<=n):uR n d:=by
 refine⟨?_,q.oq,q.qF,fun t ht=>?_,hH,hW,fun x hx=>?_⟩
 ·have:=q.tw.le;omega
 ·have:=(q.tw.ok t ht).2.2.1.le;omega
 ·obtain⟨w,hw,he⟩:=q.hw x hx;have:=q.qF w hw;omega
theorem Fv{α:Type}{p:α->Bool}{x:α}:∀ {l:List α},x∈l.takeWhile p->p x=true
 | [],h=>by cases h
 |y::r,h=>by
  cases hp:p y with
  |true=>
   rw[List.takeWhile_cons_of_pos hp]at h;rcases List.mem_cons.1 h with rfl|h
   ·exact hp
   ·exact Fv h
  |false=>rw[List.takeWhile_cons_of_neg (by rw[hp];simp)]at h;cases h
theorem BS{α:Type}{p:α->Bool}{x:α}:∀ {l:List α},l[(l.takeWhile p).length]? =some x->p x=false
 | [],h=>by simp at h
 |y::r,h=>by
  cases hp:p y with
  |true=>rw[List.takeWhile_cons_of_pos hp,List.length_cons]at h;exact BS (l:=r) (by simpa using h)
  |false=>rw[List.takeWhile_cons_of_neg (by rw[hp];simp)]at h;simp at h;rw[<-h];exact hp
def Mo(d:DB):Prop:=∀w∈d.aq,w.marks.Pairwise (fun a b=>a.at_<=b.at_)
structure SJ(n:Nat)(d:DB):Prop where
 sc:SC d
 mo:Mo d
 hn:d.holds.length<=n
 wn:d.waits.length<=n
theorem SJ.DE{n:Nat}{d:DB}(q:SJ n d):uR n d:=q.sc.DE q.hn q.wn
theorem SJ.le{n m:Nat}{d:DB}(q:SJ n d)(h:n<=m):SJ m d:=⟨q.sc,q.mo,Nat.le_trans q.hn h,Nat.le_trans q.wn h⟩
theorem su{n:Nat}{d:DB}(q:SJ n d)(hd:bK)(hs:-2^63<=hd.s/\hd.s<2^63):SJ (n+1) (ax d hd).1:=by have h:=pK q.DE hd hs;exact⟨(zA q.sc hd hs).1,fun w hw=>q.mo w (h.sub.subset hw),h.ok.holds,h.ok.waits⟩
theorem EA{d:DB}(hI:SI d){s:Int}(hs:0<=s/\s<8)(hb:kE (cm d.aq s)=false):∃i,dm (cm d.aq s)=i/\i<=d.aq.length/\(∀w∈d.aq.take i,w.s<s)/\∀w∈d.aq.drop i,s<w.s:=by
 obtain⟨i,hi⟩:∃i,i=(d.aq.takeWhile fun w=>decide (w.s<s)).length:=⟨_,rfl⟩;have hle:i<=d.aq.length:=by rw[hi];exact(List.takeWhile_sublist _).length_le
 have RM:d.aq.take i=d.aq.takeWhile fun w=>decide (w.s<s):=by rw[hi];exact(List.prefix_iff_eq_take.1 (List.takeWhile_prefix _)).symm
 have Bo:∀w∈d.aq.take i,w.s<s:=fun w hw=>by
  rw[RM]at hw;have:=Fv hw;exact of_decide_eq_true this
 have dS:∀w,d.aq[i]? =some w->¬w.s<s:=fun w hw=>by
  rw[hi]at hw;have:=BS (p:=fun w:dr=>decide (w.s<s)) hw;exact of_decide_eq_false this
 have bU:∀w∈d.aq,w.s≠s:=fun w hw he=>by
  have:=(lj hI.oq hI.qF (s:=s) (by omega)).2 ⟨w,hw,he⟩;rw[hb]at this;cases this
 refine⟨i,E9 hI hs hle (fun j w hj hw=>Bo w (List.mem_of_getElem? (by rw[List.getElem?_take,if_pos hj];exact hw))) dS,hle,Bo,fun w hw=>?_⟩;obtain⟨j,hj⟩:=List.getElem?_of_mem hw;rw[List.getElem?_drop]at hj;obtain⟨w0,qY⟩:=aE (xs:=d.aq) (i:=i) (by have:=(List.getElem?_eq_some_iff.1 hj).1;omega);have h0:=dS w0 qY;have h1:=bU w0 (List.mem_of_getElem? qY);cases j with
 |zero=>rw[Nat.add_zero,qY]at hj;cases hj;omega
 |succ j=>have:=List.pairwise_iff_getElem.1 hI.oq i (i+(j+1)) (List.getElem?_eq_some_iff.1 qY).1 (List.getElem?_eq_some_iff.1 hj).1 (by omega);rw[(List.getElem?_eq_some_iff.1 qY).2,(List.getElem?_eq_some_iff.1 hj).2]at this;omega
theorem FK{n:Nat}{d:DB}(q:SJ n d)(hn:n<=2^17)(s:Int):SJ n (ed d s).1:=by
 unfold ed gj;split
 ·exact q
 ·rename_i h1;have hs:0<=s/\s<8:=by simp at h1;omega
  split
  ·exact q
  ·rename_i h2;have hb:kE (cm d.aq s)=false:=by simpa using h2
   obtain⟨i,hi,hle,Bo,YG⟩:=EA (q.sc.si q.DE hn) hs hb;rw[hi];have jE:∀w,w∈d.aq.take i++[(⟨s,[],[]⟩:dr)]++d.aq.drop i->w∈d.aq\/w=⟨s,[],[]⟩:=fun w hw=>by
    rcases List.mem_append.1 hw with hw|hw
    ·rcases List.mem_append.1 hw with hw|hw
     ·exact .inl (List.mem_of_mem_take hw)
     ·simp at hw;exact .inr hw
    ·exact .inl (List.mem_of_mem_drop hw)
   have fR:∀w,w∈d.aq->w∈d.aq.take i++[(⟨s,[],[]⟩:dr)]++d.aq.drop i:=fun w hw=>by
    rw[<-List.take_append_drop i d.aq]at hw;rcases List.mem_append.1 hw with hw|hw
    ·exact List.mem_append.2 (.inl (List.mem_append.2 (.inl hw)))
    ·exact List.mem_append.2 (.inr hw)
   refine⟨⟨q.sc.tw,?_,fun w hw=>?_,fun w hw=>?_,fun w hw=>?_,q.sc.hu,fun x hx=>?_,q.sc.hc,fun w hw c hc=>?_⟩,fun w hw=>?_,q.hn,q.wn⟩
   ·show(d.aq.take i++[(⟨s,[],[]⟩:dr)]++d.aq.drop i).Pairwise _;have Hr:=q.sc.oq;rw[<-List.take_append_drop i d.aq,List.pairwise_append]at Hr;obtain⟨s1,s2,s3⟩:=Hr;rw[List.append_assoc,List.pairwise_append];refine⟨s1,?_,fun a ha b hb=>?_⟩
    ·rw[List.singleton_append,List.pairwise_cons];exact⟨fun b hb=>YG b hb,s2⟩
    ·rcases List.mem_cons.1 (by simpa using hb:b∈(⟨s,[],[]⟩:dr)::d.aq.drop i)with rfl|hb
     ·exact Bo a ha
     ·exact s3 a ha b hb
   ·rcases jE w hw with h|rfl
    ·exact q.sc.qF w h
    ·exact hs
   ·rcases jE w hw with h|rfl
    ·exact q.sc.log w h
    ·exact⟨fun x hx=>(by cases hx),by simp⟩
   ·rcases jE w hw with h|rfl
    ·exact q.sc.MZ w h
    ·exact⟨by simp,fun x hx=>(by cases hx)⟩
   ·obtain⟨w,hw,he⟩:=q.sc.hw x hx;exact⟨w,fR w hw,he⟩
   ·rcases jE w hw with h|rfl
    ·exact q.sc.lg w h c hc
    ·cases hc
   ·rcases jE w hw with h|rfl
    ·exact q.mo w h
    ·exact List.Pairwise.nil
theorem C5{d:DB}{i:Nat}{w w':dr}(hi:d.aq[i]? =some w)(hs:w'.s=w.s):(∀x∈d.aq.set i w',x∈d.aq\/x=w')/\(∀x∈d.aq,∃y∈d.aq.set i w',y.s=x.s)/\((d.aq.Pairwise (fun a b=>a.s<b.s))->(d.aq.set i w').Pairwise (fun a b=>a.s<b.s)):=by
 have jG:=(List.getElem?_eq_some_iff.1 hi).1;refine⟨fun x hx=>List.mem_or_eq_of_mem_set hx,fun x hx=>?_,fun h=>?_⟩
 ·obtain⟨j,hj⟩:=List.getElem?_of_mem hx;by_cases Ns:i=j
  ·subst Ns;rw[hi]at hj;cases hj;exact⟨w',List.mem_iff_getElem?.2 ⟨i,List.getElem?_set_self jG⟩,hs⟩
  ·exact⟨x,List.mem_iff_getElem?.2 ⟨j,by rw[List.getElem?_set_ne Ns];exact hj⟩,rfl⟩
 ·rw[List.pairwise_iff_getElem];have e:∀j (hj:j<(d.aq.set i w').length),(d.aq.set i w')[j].s=(d.aq[j]'(by simpa using hj)).s:=fun j hj=>by
   rw[List.getElem_set];split
   ·rename_i e;subst e;rw[hs,<-(List.getElem?_eq_some_iff.1 hi).2]
   ·rfl
  intro a b ha hb EW;rw[e a ha,e b hb];exact List.pairwise_iff_getElem.1 h a b _ _ EW
theorem Eu{n:Nat}{hd:bK}{d1:DB}{i j:Nat}{w:dr}{t t':cA}(g:sJ n hd d1 i w j t)(hm:Mo d1)(hx:hd.x=true)(hS:t'.S=t.S)(hr:SO t'.rows){x:lD}(e1:x.table=hd.table)(e2:kK x.row)(e3:x.op=1\/x.op=2)(hl:w.log.length<60):
 SJ (n+1) ⟨d1.aB.set j t',d1.aq.set i ⟨w.s,w.log++[x],w.marks⟩,d1.holds,d1.waits⟩:=by
 have q:=g.sc;have hTS:(d1.aB.set j t').map (·.S)=d1.aB.map (·.S):=by
  apply List.ext_getElem?;intro k;rw[List.getElem?_map,List.getElem?_map,List.getElem?_set];split
  ·rename_i e;subst e;rw[g.tj];have:=(List.getElem?_eq_some_iff.1 g.tj).1;simp[this,hS]
  ·rfl
 obtain⟨w1,w2,w3⟩:=C5 (w':=⟨w.s,w.log++[x],w.marks⟩) g.wi rfl;have Ps:=List.mem_of_getElem? g.wi;refine⟨⟨q.tw.set g.tj hS hr,w3 q.oq,fun y hy=>?_,fun y hy=>?_,fun y hy=>?_,q.hu,fun z hz=>?_,q.hc,fun y hy c hc=>?_⟩,fun y hy=>?_,g.ok.holds,g.ok.waits⟩
 ·rcases w1 y hy with h|rfl
  ·exact q.qF y h
  ·exact q.qF w Ps
 ·rcases w1 y hy with h|rfl
  ·obtain⟨a,b⟩:=q.log y h;exact⟨fun z hz=>(a z hz).map hTS,b⟩
  ·obtain⟨a,b⟩:=q.log w Ps;refine⟨fun z hz=>?_,by simp;omega⟩;rcases List.mem_append.1 hz with hz|hz
   ·exact(a z hz).map hTS
   ·simp at hz;subst hz;exact yi.map ⟨e2,e3,t,List.mem_of_getElem? g.tj,by rw[e1];exact g.tn⟩ hTS
 ·rcases w1 y hy with h|rfl
  ·exact q.MZ y h
  ·obtain⟨a,b⟩:=q.MZ w Ps;refine⟨a,fun m hm=>?_⟩;obtain⟨k,h1,h2⟩:=b m hm;exact⟨k,h1,by simp;omega⟩
 ·obtain⟨y,hy,he⟩:=q.hw z hz;obtain⟨y2,Hh,zD⟩:=w2 y hy;exact⟨y2,Hh,zD.trans he⟩
 ·rcases w1 y hy with h|rfl
  ·exact q.lg y h c hc
  ·rcases List.mem_append.1 hc with hc|hc
   ·exact q.lg w Ps c hc
   ·simp at hc;subst hc;obtain⟨z,hz,a1,a2,a3⟩:=g.hl;exact⟨z,hz,a1.trans g.ws.symm,by rw[a2,e1],by rw[hx]at a3;simpa using a3⟩
 ·rcases w1 y hy with h|rfl
  ·exact hm y h
  ·exact hm w Ps
theorem JP{S:Ao}(h1:S.cols=bl)(h2:S.key=0){R:List Row}{r:Row}(h:SO R)(hr:kK r\/r.length≠2){T:cA×Int}(hT:bI ⟨S,R⟩ r=T):T.1.S=S/\SO T.1.rows:=by subst hT;exact⟨ph _ _,BT h1 h2 h hr⟩
theorem Of{n:Nat}{d:DB}(q:SJ n d)(s:Int)(nm:ByteArray){r:Row}(hs:-2^63<=s/\s<2^63)(hr:kK r\/r.length≠2):SJ (n+1) (ff d s nm r).1:=by
 have hh:=su q ⟨s,nm,true⟩ hs;obtain⟨⟨d1,e⟩,hH⟩:∃X,ax d ⟨s,nm,true⟩=X:=⟨_,rfl⟩;rw[hH]at hh;by_cases he:e=0
 ·subst he;obtain⟨i,w,j,⟨S,R⟩,g⟩:=xM q.sc q.DE hs hH;obtain⟨p1,p2⟩:=Dz hH g hr (D:=ff d s nm r) rfl;obtain⟨c1,c2,c3,-⟩:=g.sc.tw.ok _ (List.mem_of_getElem? g.tj);by_cases oW:(w.log.length:Int)>=60
  ·rw[p1 oW];exact hh
  ·obtain⟨T,hT⟩:∃T,bI ⟨S,R⟩ r=T:=⟨_,rfl⟩;obtain⟨p3,p4⟩:=p2 oW T hT;obtain⟨t1,t2⟩:=JP c1 c2 c3 hr hT;by_cases hte:T.2=0
   ·obtain⟨TI,hD⟩:=p4 hte;rw[hD];exact Eu g hh.mo rfl t1 t2 rfl TI (.inl rfl) (by omega)
   ·rw[p3 hte];exact hh
 ·have:ff d s nm r=(d1,e):=uH hH he _;rw[this];exact hh
end Go.S
