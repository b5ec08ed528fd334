import Derived.Test.YtekoaiendgjkdaaGreatWB
set_option linter.unusedVariables false
set_option linter.unusedSimpArgs false
set_option linter.unusedSectionVars false
set_option maxRecDepth 100000
set_option maxHeartbeats 8000000
namespace Go.S
open Go.Sx
def whT(k n:Nat):By:=match k with
 |0=>[97,32,60,32]++cj n
 |1=>[97,32,61,32]++cj n
 |2=>[98,32,105,115,32,110,117,108,108]
 |3=>[110,111,116,32,98,32,105,115,32,110,117,108,108,32,97,110,100,32,97,32,62,32]++cj n
 |_=>[98,32,61,32,110,117,108,108]
def whW(k n:Nat):List Wd:=match k with
 |0=>[wd [97],ud 60,sE n]
 |1=>[wd [97],ud 61,sE n]
 |2=>[wd [98],wd [105,115],wd [110,117,108,108]]
 |3=>[wd [110,111,116],wd [98],wd [105,115],wd [110,117,108,108],wd [97,110,100],wd [97],ud 62,sE n]
 |_=>[wd [98],ud 61,wd [110,117,108,108]]
def mj:Nd:=eJ (ax [97])
def qy:Nd:=eJ (ax [98])
def whE(k n:Nat):List Nd:=match k with
 |0=>[mj,lit (iN n),bin 10 0 1]
 |1=>[mj,lit (iN n),bin 8 0 1]
 |2=>[qy,un 5 0]
 |3=>[qy,un 5 0,un 3 1,mj,lit (iN n),bin 12 3 4,bin 7 2 5]
 |_=>[qy,lit v0,bin 8 0 1]
def selPre:By:=[115,101,108,101,99,116,32,97,32,102,114,111,109,32,116,97,32,119,104,101,114,101,32]
def delPre:By:=[100,101,108,101,116,101,32,102,114,111,109,32,116,97,32,119,104,101,114,101,32]
def selWs(ws:List Wd):List Wd:=wd [115,101,108,101,99,116]::wd [97]::wd [102,114,111,109]::wd [116,97]::wd [119,104,101,114,101]::ws
def delWs(ws:List Wd):List Wd:=wd [100,101,108,101,116,101]::wd [102,114,111,109]::wd [116,97]::wd [119,104,101,114,101]::ws
def selSt(k n:Nat):az:={ kind:=6,table:=iB 0,items:=[⟨0,[mj]⟩],bM:=whE k n,fw:=-1 }
def delSt(k n:Nat):az:={ kind:=5,table:=iB 0,bM:=whE k n }
def whB(k n:Nat)(a:Int)(v:dg):Bool:=match k with
 |0=>decide (a<n)
 |1=>decide (a=n)
 |2=>decide (v.k=0)
 |3=>decide (v.k≠0)&&decide (a>n)
 |_=>false
def sndV(r:Row):dg:=(r[1]?).getD v0
def whR(k n:Nat)(r:Row):Bool:=whB k n (aN r) (sndV r)
theorem AL.sr{m:Nat}{R:Nat->List Row}{log:List iX}{d:DB}(q:AL m R log d){t:Nat}(ht:t<3):SR (R t):=by have hg:=(q.aj.tab ht).2;have:=(q.ej.sj.sc.tw.ok _ (List.mem_of_getElem? hg)).2.2.1;exact this.sr
theorem at_mid{pre rest:List Row}{r:Row}(h:SR (pre++r::rest)):At (pre++r::rest) (kN r) pre.length/\B0 (pre++r::rest) (kN r) pre.length=true:=by
 have hg:(pre++r::rest)[pre.length]? =some r:=by simp
 have hp:=List.pairwise_append.1 h.pH;refine⟨⟨by simp,fun i row hi hr=>?_,fun i row hi hr=>?_⟩,?_⟩
 ·rw[List.getElem?_append_left hi]at hr;exact hp.2.2 row (List.mem_of_getElem? hr) r List.mem_cons_self
 ·rcases Nat.eq_or_lt_of_le hi with e|aK
  ·subst e;rw[hg]at hr;cases hr;exact Int.le_refl _
  ·rw[List.getElem?_append_right hi]at hr;obtain⟨j,hj⟩:∃j,i-pre.length=j+1:=⟨i-pre.length-1,by omega⟩;rw[hj]at hr;have:=List.rel_of_pairwise_cons hp.2.1 (List.mem_of_getElem? (show rest[j]? =some row from hr));omega
 ·unfold B0;rw[hg];exact decide_eq_true rfl
theorem AJ.take{R:Nat->List Row}{log:List iX}{d:DB}(q:AJ R log d){t:Nat}(ht:t<2)(hs:SR (R t)){pre rest:List Row}{a:Int}{v:dg}(hR:R t=pre++[iN a,v]::rest)(hl:log.length<60):
 ∃d',X2 d 0 (iB t) (iN a)=(d',0)/\AJ (Sw R t (pre++rest)) (log++[⟨iB t,2,[iN a,v]⟩]) d':=by
 have ht3:t<3:=by omega
 obtain⟨d1,hd,q1⟩:=q.hold ht3 true;obtain⟨ti,tg⟩:=q1.tab ht3;have hw:cA d1.au 0=cA [⟨0,log,[]⟩] 0:=by rw[q1.au]
 have hwi:dr (cA d1.au 0)=0:=by rw[hw];kernel_rfl
 have hwg:d1.au[0]? =some ⟨0,log,[]⟩:=by rw[q1.au];rfl
 have h1:X2 d 0 (iB t) (iN a)=(if decide ((ay d ⟨0,iB t,true⟩).2≠0)=true then ay d ⟨0,iB t,true⟩
  else match (ay d ⟨0,iB t,true⟩).1.aE[dr (aR (ay d ⟨0,iB t,true⟩).1.aE (iB t))]?,(ay d ⟨0,iB t,true⟩).1.au[dr (cA (ay d ⟨0,iB t,true⟩).1.au 0)]? with
  |some x,some w=>
   if decide ((LG (iN a) x).2.2≠19)&&decide ((w.log.length:Int)>=60)then((ay d ⟨0,iB t,true⟩).1,4)
   else if decide ((LG (iN a) x).2.2=0)=true then
    (⟨(ay d ⟨0,iB t,true⟩).1.aE.set (dr (aR (ay d ⟨0,iB t,true⟩).1.aE (iB t))) (LG (iN a) x).1,(ay d ⟨0,iB t,true⟩).1.au.set (dr (cA (ay d ⟨0,iB t,true⟩).1.au 0)) ⟨w.s,w.log++[⟨iB t,(LG (iN a) x).2.1.op,(LG (iN a) x).2.1.row⟩],w.marks⟩,(ay d ⟨0,iB t,true⟩).1.holds,(ay d ⟨0,iB t,true⟩).1.waits⟩,0)
   else((ay d ⟨0,iB t,true⟩).1,(LG (iN a) x).2.2)
  |_,_=>ay d ⟨0,iB t,true⟩):=rfl
 have hS:(aT t).key=0/\(aT t).only=false:=by
  match t,ht with
  |0,_=>exact⟨rfl,rfl⟩
  |1,_=>exact⟨rfl,rfl⟩
 obtain⟨qE,sy⟩:=at_mid (hR ▸ hs);have hT:cK ⟨aT t,R t⟩ (iN a)=(⟨aT t,pre++rest⟩,[iN a,v],0):=by
  rw[hR]at hs |-;have h:=Da hS.1 hs qE;rw[if_pos sy]at h;refine Eq.trans (show _=cK ⟨aT t,pre++[iN a,v]::rest⟩ ⟨2,kN [iN a,v],pJ⟩from rfl) (h.trans ?_);have e1:(pre++[iN a,v]::rest).take pre.length=pre:=List.take_left;have e2:(pre++[iN a,v]::rest).drop (pre.length+1)=rest:=by rw[<-List.drop_drop,List.drop_left];rfl
  have e3:(pre++[iN a,v]::rest)[pre.length]? =some [iN a,v]:=by simp
  rw[e1,e2,e3];rfl
 have xg:LG (iN a) ⟨aT t,R t⟩=(⟨aT t,pre++rest⟩,⟨jX,2,[iN a,v]⟩,0):=by unfold LG;rw[show(⟨aT t,R t⟩:cE).S.only=false from hS.2,hT];rfl
 have qA:¬(log.length:Int)>=60:=by omega
 rw[hd]at h1;simp only[ti,tg,hwi,hwg,xg,ne_eq,not_true_eq_false,decide_false,Bool.false_eq_true,if_false,decide_eq_false qA,Bool.and_false,decide_true,if_true]at h1;refine⟨_,h1,?_,?_,q1.holds,q1.waits⟩
 ·rw[q1.aE]
  match t,ht with
  |0,_=>rfl
  |1,_=>rfl
 ·rw[q1.au];rfl
theorem takes_all{t:Nat}(ht:t<2)(p:Row->Bool):∀(rest pre:List Row) (R:Nat->List Row) (log:List iX) (d:DB),AJ R log d->R t=pre++rest->SR (R t)->(∀r∈rest,CJ r)->log.length+(rest.filter p).length<=60->
 ∃R' DE d',sH 0 (iB t) (rest.filter p) d=(d',0)/\AJ R' DE d'/\R' t=pre++rest.filter (fun r=> !p r)/\(∀j,j≠t->R' j=R j)/\DE.length=log.length+(rest.filter p).length
 | [],pre,R,log,d,q,hR,_,_,_=>⟨R,log,d,rfl,q,hR,fun _ _=>rfl,rfl⟩
 |r::rest,pre,R,log,d,q,hR,hs,hrp,hl=>by
  have KP:=fun x hx=>hrp x (List.mem_cons_of_mem r hx);cases hp:p r with
  |false=>
   have e1:(r::rest).filter p=rest.filter p:=by rw[List.filter_cons,hp];rfl
   have e2:(r::rest).filter (fun r=> !p r)=r::rest.filter (fun r=> !p r):=by rw[List.filter_cons,hp];rfl
   rw[e1]at hl |-;obtain⟨R',DE,d',h1,h2,h3,h4,h5⟩:=takes_all ht p rest (pre++[r]) R log d q (by rw[hR];simp) hs KP hl;exact⟨R',DE,d',h1,h2,by rw[h3,e2];simp,h4,h5⟩
  |true=>
   have e1:(r::rest).filter p=r::rest.filter p:=by rw[List.filter_cons,hp];rfl
   have e2:(r::rest).filter (fun r=> !p r)=rest.filter (fun r=> !p r):=by rw[List.filter_cons,hp];rfl
   rw[e1]at hl |-;rw[e2];obtain⟨a,v,rfl,-⟩:=hrp r List.mem_cons_self;simp only[List.length_cons]at hl;obtain⟨d1,g1,g2⟩:=q.take ht hs hR (by omega);have hk:SL d (iB t) [iN a,v]=iN a:=by
    unfold SL;rw[q.held (by omega)]
    match t,ht with
    |0,_=>rfl
    |1,_=>rfl
   have fO:Sw R t (pre++rest) t=pre++rest:=by unfold Sw;rw[if_pos rfl]
   have dp:SR (pre++rest):=by rw[hR]at hs;refine hs.sub ?_;exact List.Sublist.append (List.Sublist.refl _) (List.sublist_cons_self _ _)
   obtain⟨R',DE,d',h1,h2,h3,h4,h5⟩:=takes_all ht p rest pre (Sw R t (pre++rest)) _ d1 g2 fO (by rw[fO];exact dp) KP (by simp only[List.length_append,List.length_cons,List.length_nil];omega);refine⟨R',DE,d',?_,h2,h3,fun j hj=>?_,?_⟩
   ·show(match X2 d 0 (iB t) (SL d (iB t) [iN a,v])with
     | (d',e)=>if e≠0 then(d',e)else sH 0 (iB t) (rest.filter p) d')=_
    rw[hk,g1];exact h1
   ·rw[h4 j hj];unfold Sw;rw[if_neg hj]
   ·rw[h5];simp only[List.length_append,List.length_cons,List.length_nil];omega
def upL:List ByteArray:=[⟨#[48]⟩,⟨#[49]⟩,⟨#[50]⟩,⟨#[51]⟩,⟨#[52]⟩,⟨#[53]⟩,⟨#[54]⟩,⟨#[55]⟩,⟨#[56]⟩]
def upT(s:ByteArray):ByteArray:=ax [117,112,100,97,116,101,32,116,97,32,115,101,116,32,97,32,61,32,97,32,43,32]++s
def stU(n:Nat):az:={ kind:=4,table:=iB 0,names:=[ax [97]],exprs:=[[mj,lit (iN n),bin 14 0 1]] }
theorem upL_get{i:Nat}{s:ByteArray}(h:upL[i]? =some s):dk ao (upT s)=(stU i,0)/\ek (upT s)=true/\s.size=1:=by
 match i with
 |0=>cases h;exact⟨by kernel_rfl,by kernel_rfl,rfl⟩
 |1=>cases h;exact⟨by kernel_rfl,by kernel_rfl,rfl⟩
 |2=>cases h;exact⟨by kernel_rfl,by kernel_rfl,rfl⟩
 |3=>cases h;exact⟨by kernel_rfl,by kernel_rfl,rfl⟩
 |4=>cases h;exact⟨by kernel_rfl,by kernel_rfl,rfl⟩
 |5=>cases h;exact⟨by kernel_rfl,by kernel_rfl,rfl⟩
 |6=>cases h;exact⟨by kernel_rfl,by kernel_rfl,rfl⟩
 |7=>cases h;exact⟨by kernel_rfl,by kernel_rfl,rfl⟩
 |8=>cases h;exact⟨by kernel_rfl,by kernel_rfl,rfl⟩
 |i+9=>cases h
theorem stU_ok{n:Nat}(hn:n<1000):eG (stU n):=
 ⟨fun n hn=>(by cases hn),fun n hn=>(by cases hn),fun e he=>(by
  rcases List.mem_cons.1 he with rfl|he
  ·intro nd MV;simp only[List.mem_cons,List.not_mem_nil,or_false]at MV;rcases MV with rfl|rfl|rfl
   ·exact Og
   ·exact qq (oJ (by omega))
   ·exact Dz ..
  ·cases he),fun i hi=>(by cases hi),by show 1<=2^20;decide,fun _=>rfl,yu,yu,Nat.zero_le _,by show 1<=2^20;decide⟩
def exU(n:Nat):List Nd:=[mj,lit (iN n),bin 14 0 1]
theorem exU_kind(n:Nat):fZ (exU n) dN=(2,0):=by
 have e:eN dN [mj,lit (iN n),bin 14 0 1] []=eN dN [lit (iN n),bin 14 0 1] [2]:=by kernel_rfl
 have e2:eN dN (exU n) []=([2,2,2],0):=by show eN dN [mj,lit (iN n),bin 14 0 1] []=_;rw[e,fV,rm,lO];exact(by kernel_rfl:eN dN [bin 14 0 1] [2,2]=([2,2,2],0))
 unfold fZ;rw[if_neg (by show ¬(3<1\/3>60);decide),e2];rfl
theorem stU_fits(n:Nat):jL (cL 0) (stU n)=0:=by
 have h1:jL (cL 0) (stU n)=if(if fI (exU n) dN 2≠0 then fI (exU n) dN 2 else 0)≠0 then(if fI (exU n) dN 2≠0 then fI (exU n) dN 2 else 0)else 0:=by kernel_rfl
 have h2:fI (exU n) dN 2=0:=by unfold fI;rw[exU_kind];rfl
 rw[h1,h2];rfl
def upR(n:Nat)(r:Row):Row:=[iN (aN r+n),sndV r]
theorem fresh_up{n:Nat}(hn:n<1000){X:List Row}{r:Row}(h:CJ r):Ef ⟨aT 0,X⟩ (stU n) r=(upR n r,0):=by
 obtain⟨a,v,rfl,h1,h2,-⟩:=h;have hnum:cO 14 a n=some (iN (a+n)):=by unfold cO;rw[if_neg (by decide),if_pos rfl];unfold pB;rw[if_pos (gA.2 (by omega))];rfl
 have MV:gL dN [iN a,v] (exU n) []=match cO 14 a n with
  |some w=>some [iN a,iN n,w]
  |none=>none:=by kernel_rfl
 have Ha:eA (exU n) dN [iN a,v]=(iN (a+n),0):=by unfold eA;rw[exU_kind,MV,hnum];rfl
 have Zf:bG [exU n] dN [iN a,v]=([iN (a+n)],0):=by unfold bG;rw[dZ Ha];rfl
 have e:Ef ⟨aT 0,X⟩ (stU n) [iN a,v]=match bG [exU n] dN [iN a,v]with
  | (l,e)=>(QB bB (l.zip [ax [97]]) [iN a,v],e):=rfl
 rw[e,Zf];show(QB bB [(iN (a+n),ax [97])] [iN a,v],(0:Int))=_;have e2:QB bB [(iN (a+n),ax [97])] [iN a,v]=[iN (a+n),v]:=by kernel_rfl
 rw[e2];rfl
theorem chosen_up{n:Nat}(hn:n<1000){X:List Row}:∀(l:List Row) (p:List Row×List Row),(∀r∈l,CJ r)->lJ [] dN (Ef ⟨aT 0,X⟩ (stU n)) l p=((p.1++l,p.2++l.map (upR n)),0)
 | [],p,_=>by simp[lJ]
 |r::l,p,h=>by
  have ha:=fresh_up hn (X:=X) (h r List.mem_cons_self);have e:lJ [] dN (Ef ⟨aT 0,X⟩ (stU n)) (r::l) p=match Ef ⟨aT 0,X⟩ (stU n) r with
   | (n1,e)=>if e≠0 then((p.1++[r],p.2++[n1]),e)else lJ [] dN (Ef ⟨aT 0,X⟩ (stU n)) l (p.1++[r],p.2++[n1]):=rfl
  rw[e,ha];show lJ [] dN (Ef ⟨aT 0,X⟩ (stU n)) l (p.1++[r],p.2++[upR n r])=_;rw[chosen_up hn l _ (fun r hr=>h r (List.mem_cons_of_mem _ hr))];simp
theorem at_end{R:List Row}{a:Int}(h:∀r∈R,kN r<a):At R a R.length/\B0 R a R.length=false:=by
 refine⟨⟨Nat.le_refl _,fun i row _ hr=>h row (List.mem_of_getElem? hr),fun i row hi hr=>?_⟩,?_⟩
 ·have:=(List.getElem?_eq_some_iff.1 hr).1;omega
 ·unfold B0;rw[List.getElem?_eq_none (Nat.le_refl _)]
theorem AJ.JA{R:Nat->List Row}{log:List iX}{d:DB}(q:AJ R log d)(hs:SR (R 0))(hl:(R 0).length<200){a:Int}{v:dg}(hf:bV bB [iN a,v]=0)(hb:∀r∈R 0,kN r<a):
 (log.length<60->∃d',fv d 0 (iB 0) [iN a,v]=(d',0)/\AJ (Sw R 0 (R 0++[[iN a,v]])) (log++[⟨iB 0,1,[iN a,v]⟩]) d')/\(60<=log.length->(fv d 0 (iB 0) [iN a,v]).2=4):=by
 obtain⟨d1,hd,q1⟩:=q.hold (t:=0) (by decide) true;obtain⟨ti,tg⟩:=q1.tab (t:=0) (by decide);have hw:cA d1.au 0=cA [⟨0,log,[]⟩] 0:=by rw[q1.au]
 have hwi:dr (cA d1.au 0)=0:=by rw[hw];kernel_rfl
 have hwg:d1.au[0]? =some ⟨0,log,[]⟩:=by rw[q1.au];rfl
 obtain⟨r,hr⟩:∃r,r=[iN a,v]:=⟨_,rfl⟩;have h1:fv d 0 (iB 0) r=(if decide ((ay d ⟨0,iB 0,true⟩).2≠0)=true then ay d ⟨0,iB 0,true⟩
  else match (ay d ⟨0,iB 0,true⟩).1.aE[dr (aR (ay d ⟨0,iB 0,true⟩).1.aE (iB 0))]?,(ay d ⟨0,iB 0,true⟩).1.au[dr (cA (ay d ⟨0,iB 0,true⟩).1.au 0)]? with
  |some x,some w=>
   if decide ((cJ r x).2.2≠19)&&decide ((w.log.length:Int)>=60)then((ay d ⟨0,iB 0,true⟩).1,4)
   else if decide ((cJ r x).2.2=0)=true then
    (⟨(ay d ⟨0,iB 0,true⟩).1.aE.set (dr (aR (ay d ⟨0,iB 0,true⟩).1.aE (iB 0))) (cJ r x).1,(ay d ⟨0,iB 0,true⟩).1.au.set (dr (cA (ay d ⟨0,iB 0,true⟩).1.au 0)) ⟨w.s,w.log++[⟨iB 0,(cJ r x).2.1.op,(cJ r x).2.1.row⟩],w.marks⟩,(ay d ⟨0,iB 0,true⟩).1.holds,(ay d ⟨0,iB 0,true⟩).1.waits⟩,0)
   else((ay d ⟨0,iB 0,true⟩).1,(cJ r x).2.2)
  |_,_=>ay d ⟨0,iB 0,true⟩):=rfl
 obtain⟨qE,sy⟩:=at_end hb;have hT:bI ⟨aT 0,R 0⟩ r=(⟨aT 0,R 0++[r]⟩,0):=by rw[hr];have h:=xY (S:=aT 0) rfl hs (a:=a) (v:=v) hf qE;rw[sy,if_neg (by decide),if_neg (by rw[decide_eq_true_eq];omega)]at h;rw[List.take_length,List.drop_length,List.append_nil]at h;exact h
 have xg:cJ r ⟨aT 0,R 0⟩=(⟨aT 0,R 0++[r]⟩,⟨jX,1,r⟩,0):=by unfold cJ;rw[hT]
 rw[<-hr];rw[hd]at h1;simp only[ti,tg,hwi,hwg,xg,ne_eq,not_true_eq_false,decide_false,Bool.false_eq_true,if_false,decide_true,if_true]at h1;refine⟨fun qA=>?_,fun qA=>?_⟩
 ·have hn:¬(log.length:Int)>=60:=by omega
  rw[decide_eq_false hn]at h1;simp only[Bool.and_false,Bool.false_eq_true,if_false]at h1;refine⟨_,h1,?_,?_,q1.holds,q1.waits⟩
  ·rw[q1.aE];rfl
  ·rw[q1.au];rfl
 ·have hn:(log.length:Int)>=60:=by omega
  rw[decide_eq_true hn]at h1;rw[h1];rfl
theorem puts_all:∀(L:List Row) (R:Nat->List Row) (log:List iX) (d:DB),AJ R log d->SR (R 0)->SR (R 0++L)->(∀r∈L,bV bB r=0)->(R 0).length+L.length<200->
 (log.length+L.length<=60->∃R' DE d',Jz 0 (iB 0) L d=(d',0)/\AJ R' DE d'/\R' 0=R 0++L/\DE.length=log.length+L.length)/\(60<log.length+L.length->log.length<=60->(Jz 0 (iB 0) L d).2=4)
 | [],R,log,d,q,_,_,_,_=>⟨fun _=>⟨R,log,d,rfl,q,by simp,rfl⟩,fun h h2=>by simp at h;omega⟩
 |r::L,R,log,d,q,hs,hsL,hf,hl=>by
  obtain⟨a,v,hr⟩:=hsL.form r (by simp);replace hr:r=[iN a,v]:=hr;have hb:∀x∈R 0,kN x<a:=fun x hx=>by
   have:=(List.pairwise_append.1 hsL.pH).2.2 x hx r List.mem_cons_self;rw[hr]at this;exact this
  have hpe:=q.JA hs (by simp only[List.length_cons]at hl;omega) (a:=a) (v:=v) (by rw[<-hr];exact hf r List.mem_cons_self) hb;rw[<-hr]at hpe;have fO:Sw R 0 (R 0++[r]) 0=R 0++[r]:=by unfold Sw;rw[if_pos rfl]
  have e:Jz 0 (iB 0) (r::L) d=match fv d 0 (iB 0) r with
   | (d',e)=>if e≠0 then(d',e)else Jz 0 (iB 0) L d':=rfl
  simp only[List.length_cons]at hl |-;have go:∀d1,AJ (Sw R 0 (R 0++[r])) (log++[⟨iB 0,1,r⟩]) d1->_:=fun d1 g2=>puts_all L (Sw R 0 (R 0++[r])) _ d1 g2 (by
   rw[fO];exact hsL.sub (List.Sublist.append (List.Sublist.refl _) (by simp))) (by rw[fO,List.append_assoc];exact hsL) (fun x hx=>hf x (List.mem_cons_of_mem _ hx)) (by rw[fO,List.length_append,List.length_singleton];omega)
  refine⟨fun qA=>?_,fun qA hle=>?_⟩
  ·obtain⟨d1,g1,g2⟩:=hpe.1 (by omega);obtain⟨R',DE,d',i1,i2,i3,i4⟩:=(go d1 g2).1 (by rw[List.length_append,List.length_singleton];omega);refine⟨R',DE,d',?_,i2,by rw[i3,fO];simp,by rw[i4,List.length_append,List.length_singleton];omega⟩;rw[e,g1];exact i1
  ·by_cases h0:log.length<60
   ·obtain⟨d1,g1,g2⟩:=hpe.1 h0;have i:=(go d1 g2).2 (by rw[List.length_append,List.length_singleton];omega) (by rw[List.length_append,List.length_singleton];omega);rw[e,g1];exact i
   ·have h4:=hpe.2 (by omega);rw[e];generalize fv d 0 (iB 0) r=P at *;obtain⟨d1,e1⟩:=P;have h4:e1=4:=h4;subst h4;rfl
theorem up_SR{n:Nat}{R:List Row}(h:SR R):SR (R.map (upR n)):=by
 refine⟨fun r hr=>?_,?_⟩
 ·obtain⟨x,hx,rfl⟩:=List.mem_map.1 hr;exact⟨_,_,rfl⟩
 ·rw[List.pairwise_map];refine h.pH.imp_of_mem (fun{x y} hx hy Ic=>?_);obtain⟨a,v,rfl⟩:=h.form x hx;obtain⟨b,w,rfl⟩:=h.form y hy;have Ic:a<b:=Ic;show a+n<b+n;omega
theorem up_fits{n:Nat}{r:Row}(h:CJ r):bV bB (upR n r)=0:=by
 obtain⟨a,v,rfl,h1,h2,hv⟩:=h;show bV bB [iN (a+n),v]=0;rcases hv with rfl| ⟨x,rfl,hx⟩
 ·exact pq rfl
 ·exact pq (Ei (by omega))
theorem up_do{n:Nat}(hn:n<1000){R:Nat->List Row}{log:List iX}{d:DB}(al:AL 25 R log d):
 (log.length+2*(R 0).length<=60->∃R' DE d1,AJ R' DE d1/\jD d 0 (stU n)=(d1,[],0)/\R' 0=(R 0).map (upR n)/\DE.length=log.length+2*(R 0).length)/\
 (60<log.length+2*(R 0).length->∃d1,AJ R log d1/\jD d 0 (stU n)=(d1,[],4)):=by
 obtain⟨d1,hd,q1⟩:=al.aj.hold (t:=0) (by decide) true;have Ag:=al.ln;have hle:=al.le;have aK:∀l:List Row,l.filter (fun _=>true)=l:=fun l=>by simp
 have hlf:∀l:List Row,l.filter (fun _=> !true)=[]:=fun l=>by simp
 have hch:=chosen_up hn (X:=R 0) (R 0) ([],[]) (al.rp 0 (by decide));obtain⟨N9,log2,d2,t1,t2,t3,-,t5⟩:=takes_all (t:=0) (by decide) (fun _=>true) (R 0) [] R log d1 q1 rfl (al.sr (by decide)) (al.rp 0 (by decide)) (by rw[aK];omega);rw[aK]at t1 t5;rw[hlf,List.nil_append]at t3;have hput:=puts_all ((R 0).map (upR n)) N9 log2 d2 t2 (by rw[t3];exact SR.nil) (by rw[t3,List.nil_append];exact up_SR (al.sr (by decide))) (fun r hr=>by
  obtain⟨x,hx,rfl⟩:=List.mem_map.1 hr;exact up_fits (al.rp 0 (by decide) x hx)) (by rw[t3,List.length_map];simp only[List.length_nil];omega)
 rw[List.length_map,t5]at hput;have e1:jD d 0 (stU n)=fH d 0 (stU n):=rfl;have hD:jD d 0 (stU n)=bK d1 (Jz 0 (iB 0) ((R 0).map (upR n)) d2):=by
  rw[e1];unfold fH;rw[show(stU n).table=iB 0 from rfl,hd];have hh:=q1.held (t:=0) (by decide);have hc:aJ ⟨aT 0,R 0⟩=dN:=rfl;have ho:(aT 0).only=false:=rfl;have hw:(stU n).bM=[]:=rfl;simp only[hh,hc,ho,hw,yK,stU_fits n,hch];show bK d1 (match sH 0 (iB 0) ([]++R 0) d1 with
   | (d,e)=>if e≠0 then(d,e)else Jz 0 (iB 0) ([]++(R 0).map (upR n)) d)=_
  rw[List.nil_append,List.nil_append,t1];rfl
 rw[hD];refine⟨fun h=>?_,fun h=>?_⟩
 ·obtain⟨R',DE,d',p1,p2,p3,p4⟩:=hput.1 (by omega);refine⟨R',DE,d',p2,by rw[p1];rfl,by rw[p3,t3,List.nil_append],by rw[p4];omega⟩
 ·have p:=hput.2 (by omega) (by omega);refine⟨d1,q1,?_⟩;unfold bK;rw[p];rfl
theorem stU_do(n:Nat)(d:DB):j8 d 0 (stU n):=j8.Yw rfl (updOk rfl)
open Go.Sx Go.Proofs
theorem gj.workAt{h:ad}{d:DB}{b1 b2 b3 b4:Option Addr}{n1 c1 n2 c2 n3 c3 n4 c4:Nat}(q:gj h (.agg #[.slice b1 n1 c1,.slice b2 n2 c2,.slice b3 n3 c3,.slice b4 n4 c4]) d){w:dO}(hw:d.au=[w]):n2=1/\∃f,Sl 55 cf h (.slice b2 n2 c2) [(w,f)]:=by
 obtain⟨_,_,_,_,_,_,_,_,_,_,_,_,ws,he,_,q2,_,_,hm⟩:=q.out;cases he;rw[hw]at hm;have hl:ws.length=1:=by have:=congrArg List.length hm;simpa using this
 match ws,hl with
 | [(w',f)],_=>
  have:w'=w:=by simpa using hm
  subst this;exact⟨q2.len,f,q2⟩
theorem isn_add{A:Ar}[hA:aV A]{z w:Int}{i j:Nat}(hz:aS z i)(hw:aS w j)(h:i+j<2^62):aS (A .bA .add .i64 z w) (i+j):=by have h1:=hz.eq;have h2:=hw.eq;constructor;rw[hA.bA];show IntKind.wrap .i64 (z+w)=_;rw[IntWalk.i64_in _ (by omega)];omega
theorem isn_dbl{A:Ar}[hA:aV A]{z:Int}{i:Nat}(hz:aS z i)(h:i<2^60):aS (A .bA .mul .i64 2 z) (2*i):=by have h1:=hz.eq;constructor;rw[hA.bA];show IntKind.wrap .i64 (2*z)=_;rw[IntWalk.i64_in _ (by omega)];omega
theorem updatesG{xs:List AG}{h:ad}{b:Option Addr}{n c:Nat}(q:xL lR h (.slice b n c) xs)(w:Int):Ct 7 [.slice b n c,.int .i64 w] h (fun v h'=>Le h h'/\v=.bool true):=by
 obtain⟨A,hA⟩:=Ar.ex;have AS:A .not true=false:=by rw[hA.not];rfl
 refine ah A (ar T7.aA T7.bm) Tryz.func7 rfl (by kernel_rfl) ?_;cbv;refine(zV h).mono (fun v h1 hR=>?_);obtain⟨l1,hv⟩:=hR;subst hv;cbv;rw[AS];cbv;refine FX (q.mono l1) (fun h2 b1 n1 c1 b2 n2 c2 b3 n3 c3 b4 n4 c4 R log d l2 ME al=>?_);cbv;refine qM w 9 (by decide) (by decide) h2 (fun zi i oK _ hi=>?_);cbv;intro nb h3 f3 e3;have l3:Le h2 h3:=by rw[e3];exact Le.set f3
 have s3:Sl 9 cB h3 (.slice (some ⟨nb,0,none⟩) 9 9) upL:=qS (l:=upL) ((congrFun e3 nb).trans af) (by decide);clear e3;obtain⟨sI,hsI⟩:=aI (xs:=upL) (i:=i) hi;obtain⟨ust,unc,usz⟩:=upL_get hsI;have cU:0<=zi/\zi<((9:Nat):Int):=oK.ix hi;have hzie:=oK.eq;obtain⟨tx,Q0⟩:∃c,A .cat ⟨#[117,112,100,97,116,101,32,116,97,32,115,101,116,32,97,32,61,32,97,32,43,32]⟩ sI=c:=⟨_,rfl⟩;have txe:tx=upT sI:=by rw[<-Q0,hA.cat];rfl
 rw[<-txe]at ust unc;have y1:((22+sI.size:Nat):Int)<=2^62:=by omega
 have uok:=stU_ok (n:=i) (by omega);have udo:=stU_do i d;obtain⟨up1,up2⟩:=up_do (n:=i) (by omega) al;have ej:=al.ej;have Dc:=al.aj.aE;have wrk0:=al.aj.au;have rp0:=al.rp 0 (by decide);have vQ:(R 0).length<=25:=by have:=al.ln;have:=al.le;omega
 have qJ:log.length<=25:=al.le;generalize stU i=ST at *;generalize hR0:R 0=R0 at *;clear txe al usz;cbv;refine⟨⟨rfl,cU⟩,?_⟩;cbv;refine s3.load hsI hzie (fun cs aC=>?_);replace aC:cs=[.string sI]:=aC;subst aC;cbv;refine⟨y1,?_⟩;cbv;rw[Q0];refine doT (ME.mono l3) ej (by decide) unc ust uok udo (fun h6 x1 m1 g1 x2 m2 g2 x3 m3 g3 x4 m4 g4 _ _ _ l6 EW _=>?_);have qd0:=(ME.mono l3).mono l6;have lt:=((l1.trans l2).trans l3).trans l6;obtain⟨D,hD⟩:∃D,jD d 0 ST=D:=⟨_,rfl⟩;rw[hD]at EW |-;rw[hD]at up1 up2;obtain⟨yb,DR,De⟩:=D;replace EW:gj h6 (.agg #[.slice x1 m1 g1,.slice x2 m2 g2,.slice x3 m3 g3,.slice x4 m4 g4]) yb:=EW;have Jw:=qd0.A7;have qtD:=EW.A7;obtain⟨nN,fw,qw0⟩:=qd0.workAt wrk0;have ma:n1=3:=by rw[Jw.len,Dc];rfl
 subst ma nN;have t0:d.aE[0]? =some ⟨aT 0,R0⟩:=by rw[Dc];rfl
 have ck0:b1.isSome=true/\(0:Int)<=0/\(0:Int)<((3:Nat):Int):=⟨Jw.bu (by omega),by omega,by omega⟩;have ckw:b2.isSome=true/\(0:Int)<=0/\(0:Int)<((1:Nat):Int):=⟨qw0.bu (by omega),by omega,by omega⟩;have hsum:∀u v:Nat,u=log.length->v=R0.length->∀zu zv,aS zu u->aS zv v->A .aG .gtr (A .bA .add .i64 zu (A .bA .mul .i64 2 zv)) 60=decide (60<log.length+2*R0.length):=fun u v hu hv zu zv h1 h2=>by
  have h3:=isn_add (A:=A) h1 (isn_dbl (A:=A) h2 (by omega)) (by omega);rw[bJ A,decide_eq_decide,h3.eq];omega
 have hsum2:∀u v l:Nat,u=log.length->v=R0.length->l=log.length+2*R0.length->∀zu zv zl,aS zu u->aS zv v->aS zl l->A .aG .eql zl (A .bA .add .i64 zu (A .bA .mul .i64 2 zv))=true:=fun u v l hu hv D6 zu zv zl h1 h2 h3=>by
  have h4:=isn_add (A:=A) h1 (isn_dbl (A:=A) h2 (by omega)) (by omega);rw[aw A,decide_eq_true_eq,h4.eq,h3.eq];omega
 clear ust unc uok udo hD ej s3 ME Dc wrk0;cbv;refine⟨ckw,?_⟩;cbv;refine qw0.eE (i:=0) rfl (n:=0) rfl (o:=1) (m:=1) (by decide) (fun cs aC=>?_);obtain⟨_,ln,_,_,_,_,rfl,ql,-,-⟩:=aC;have Ag:ln=log.length:=ql.len;cbv;refine⟨ck0,?_⟩;cbv;refine Jw.eE t0 (n:=0) rfl (o:=4) (m:=1) (by decide) (fun cs aC=>?_);obtain⟨_,_,_,u4,u5,u6,rfl,-,sr⟩:=aC;replace sr:Sl 59 aL h6 (.slice u4 u5 u6) R0:=sr;have Ig:u5=R0.length:=sr.len;have Fj:=hsum ln u5 Ag Ig _ _ (aS.nat (A:=A) ln) (aS.nat (A:=A) u5);cbv;rw[Fj];by_cases hbig:60<log.length+2*R0.length
 ·obtain⟨d1,aj,e⟩:=up2 hbig;cases e;have tabD:=aj.aE;rw[hR0]at tabD;have hm1:m1=3:=by rw[qtD.len,tabD];rfl
  subst hm1;have tD:yb.aE[0]? =some ⟨aT 0,R0⟩:=by rw[tabD];rfl
  have ckD:x1.isSome=true/\(0:Int)<=0/\(0:Int)<((3:Nat):Int):=⟨qtD.bu (by omega),by omega,by omega⟩;have f44:A .aG .eql 4 4=true:=by rw[aw A];rfl
  clear up1 up2 hsum hsum2 Fj;rw[decide_eq_true hbig];cbv;rw[f44];cbv;refine⟨ckD,?_⟩;cbv;refine qtD.eE tD (n:=0) rfl (o:=4) (m:=1) (by decide) (fun cs aC=>?_);obtain⟨_,_,_,p4,p5,p6,rfl,-,XL⟩:=aC;cbv;refine⟨ck0,?_⟩;cbv;refine Jw.eE t0 (n:=0) rfl (o:=4) (m:=1) (by decide) (fun cs aC=>?_);obtain⟨_,_,_,r4,r5,r6,rfl,-,s0⟩:=aC;cbv;refine SH XL s0 ?_;cbv;exact⟨lt,trivial⟩
 ·obtain⟨R',DE,d1,aj,e,hR',hlog⟩:=up1 (by omega);cases e;have tabD:=aj.aE;rw[hR']at tabD;obtain⟨tN,fD,qwD⟩:=EW.workAt aj.au;have hm1:m1=3:=by rw[qtD.len,tabD];rfl
  subst hm1 tN;have tD:yb.aE[0]? =some ⟨aT 0,R0.map (upR i)⟩:=by rw[tabD];rfl
  have ckD:x1.isSome=true/\(0:Int)<=0/\(0:Int)<((3:Nat):Int):=⟨qtD.bu (by omega),by omega,by omega⟩;have ckwD:x2.isSome=true/\(0:Int)<=0/\(0:Int)<((1:Nat):Int):=⟨qwD.bu (by omega),by omega,by omega⟩;have HA:A .aG .neq 0 0=false:=by rw[aB A];rfl
  have rJ:∀a:Int,0<=a->a<2000->A .bA .add .i64 a zi=a+(i:Int):=fun a h1 h2=>by
   rw[hA.bA];show IntKind.wrap .i64 (a+zi)=_;have:=oK.eq;rw[IntWalk.i64_in _ (by omega)];omega
  clear up1 up2 hsum Fj aj tabD EW qd0;obtain⟨I,bl⟩:∃I:Nat->Int->ad->Prop,∀m g h',I m g h'=∃j,aS g j/\j<=R0.length/\m=R0.length-j/\h'=h6:=⟨_,fun _ _ _=>rfl⟩;have hJ:I R0.length 0 h6:=by rw[bl];exact⟨0,⟨rfl⟩,Nat.zero_le _,rfl,rfl⟩
  rw[decide_eq_false hbig];cbv;rw[HA];cbv;refine⟨ckD,?_⟩;cbv;refine qtD.eE tD (n:=0) rfl (o:=4) (m:=1) (by decide) (fun cs aC=>?_);obtain⟨_,_,_,p4,p5,p6,rfl,-,XL⟩:=aC;have hp5:p5=u5:=by rw[Ig,XL.len];exact List.length_map ..
  subst hp5;cbv;refine⟨ck0,?_⟩;cbv;refine Jw.eE t0 (n:=0) rfl (o:=4) (m:=1) (by decide) (fun cs aC=>?_);obtain⟨_,_,_,r4,r5,r6,rfl,-,s0⟩:=aC;have Zr:r5=p5:=by rw[Ig];exact s0.len
  subst Zr;have fll:A .aG .neq (A .nat r5) (A .nat r5)=false:=by rw[aB A];simp
  cbv;rw[fll];cbv;refine aX.go (G:=Int) (fun g=>[(10,.v (.int .i64 g))]) (fun _=>[(5,[.slice b1 3 c1,.slice b2 1 c2,.slice b3 n3 c3,.slice b4 n4 c4]),(7,[.slice x1 3 g1,.slice x2 1 g2,.slice x3 m3 g3,.slice x4 m4 g4])]) (fun m g h'=>I m g h') R0.length 0 ⟨?_,?_,?_⟩ hJ ?_
  ·cbv
  ·cbv
  ·cbv
  ·intro m z h7 hI;rw[bl]at hI;cbv;obtain⟨j,hz,hj,hm,rfl⟩:=hI;refine⟨ck0,?_⟩;cbv;refine Jw.eE t0 (n:=0) rfl (o:=4) (m:=1) (by decide) (fun cs aC=>?_);obtain⟨_,_,_,v4,v5,v6,rfl,-,s1⟩:=aC;have MQ:v5=R0.length:=s1.len;have f1:A .aG .lss z (A .nat v5)=decide (j<R0.length):=by rw[MQ];exact hz.gy (aS.nat R0.length)
   cbv;rw[f1];by_cases aK:j<R0.length
   ·obtain⟨x,hx⟩:=aI (xs:=R0) (i:=j) aK;have fA:=hz.eq;obtain⟨a,v,CP,Rz,Fu,-⟩:=rp0 x (List.mem_of_getElem? hx);have hy:(R0.map (upR i))[j]? =some (upR i x):=by rw[List.getElem?_map,hx];rfl
    have hadd':=rJ a Rz Fu;obtain⟨ay,hay⟩:∃ay,ay=a+(i:Int):=⟨_,rfl⟩;have Y7:upR i x=[iN ay,v]:=by rw[CP,hay];rfl
    rw[Y7]at hy;rw[CP]at hx;rw[<-hay]at hadd';have dD:=hz.succ (A:=A) (by omega);obtain⟨z2,fN⟩:∃z2,A .bA .add .i64 z 1=z2:=⟨_,rfl⟩;rw[fN]at dD;obtain⟨mm,D4⟩:∃mm,mm=R0.length-(j+1):=⟨_,rfl⟩;have di:I mm z2 h7:=by rw[bl];exact⟨j+1,dD,aK,D4,rfl⟩
    have hlm:mm<m:=by omega
    have c20:(0:Int)<=0/\(0:Int)<((2:Nat):Int):=by decide
    have c21:(0:Int)<=1/\(1:Int)<((2:Nat):Int):=by decide
    have OP:0<=z/\z<(v5:Int):=by omega
    have fay:A .aG .neq ay ay=false:=by rw[aB A];simp
    have ev:A .not (A .and (A .aG .eql v.k v.k) (A .and (A .aG .eql v.n v.n) (A .and (A .iY .eql v.s v.s) true)))=false:=by rw[uM A v v,Cg];exact AS
    clear bl hJ rJ hay hsum2;rw[decide_eq_true aK];cbv;refine⟨ck0,?_⟩;cbv;refine Jw.eE t0 (n:=0) rfl (o:=4) (m:=1) (by decide) (fun cs aC=>?_);obtain⟨_,_,_,e4,e5,e6,rfl,-,s3⟩:=aC;replace s3:Sl 59 aL h7 (.slice e4 e5 e6) R0:=s3;have he5:e5=v5:=by rw[MQ];exact s3.len
    subst he5;cbv;refine⟨⟨s3.bu (by omega),OP⟩,?_⟩;cbv;refine iO s3 hx fA (fun xb xn xc qx=>?_);have KF:xn=2:=qx.len;subst KF;cbv;refine⟨ckD,?_⟩;cbv;refine qtD.eE tD (n:=0) rfl (o:=4) (m:=1) (by decide) (fun cs aC=>?_);obtain⟨_,_,_,d4,d5,d6,rfl,-,s4⟩:=aC;replace s4:Sl 59 aL h7 (.slice d4 d5 d6) (R0.map (upR i)):=s4;have hd5:d5=e5:=by rw[MQ,<-List.length_map (f:=upR i)];exact s4.len
    subst hd5;cbv;refine⟨⟨s4.bu (by omega),OP⟩,?_⟩;cbv;refine iO s4 hy fA (fun yb yn yc qy=>?_);have hyn:yn=2:=qy.len;subst hyn;have xsm:=qx.bu (by omega);have ysm:=qy.bu (by omega);cbv;refine⟨⟨ysm,c20⟩,?_⟩;cbv;refine qy.eE (i:=0) rfl (n:=0) rfl (o:=1) (m:=1) (by decide) (fun cs aC=>?_);replace aC:cs=[.int .i64 2,.int .i64 ay,.string b0]:=aC;subst aC;cbv;refine⟨⟨xsm,c20⟩,?_⟩;cbv;refine qx.eE (i:=0) rfl (n:=0) rfl (o:=1) (m:=1) (by decide) (fun cs aC=>?_);replace aC:cs=[.int .i64 2,.int .i64 a,.string b0]:=aC;subst aC;cbv;rw[hadd',fay];cbv;refine⟨⟨ysm,c21⟩,?_⟩;cbv;refine qy.load (i:=1) rfl (n:=1) rfl (fun cs aC=>?_);replace aC:cs=[.int .i64 v.k,.int .i64 v.n,.string v.s]:=aC;subst aC;cbv;refine⟨⟨xsm,c21⟩,?_⟩;cbv;refine qx.load (i:=1) rfl (n:=1) rfl (fun cs aC=>?_);replace aC:cs=[.int .i64 v.k,.int .i64 v.n,.string v.s]:=aC;subst aC;cbv;rw[ev];cbv;rw[fN];refine⟨mm,_,hlm,⟨?_,?_,?_⟩,di⟩
    ·cbv
    ·cbv
    ·cbv
   ·clear bl hJ rJ;rw[decide_eq_false aK];cbv;refine⟨ckwD,?_⟩;cbv;refine qwD.eE (i:=0) rfl (n:=0) rfl (o:=1) (m:=1) (by decide) (fun cs aC=>?_);obtain⟨_,lD,_,_,_,_,rfl,qlD,-,-⟩:=aC;have hlD:lD=log.length+2*R0.length:=by rw[<-hlog];exact qlD.len
    cbv;refine⟨ckw,?_⟩;cbv;refine qw0.eE (i:=0) rfl (n:=0) rfl (o:=1) (m:=1) (by decide) (fun cs aC=>?_);obtain⟨_,l0,_,_,_,_,rfl,ql0,-,-⟩:=aC;have hl00:l0=log.length:=ql0.len;cbv;refine⟨ck0,?_⟩;cbv;refine Jw.eE t0 (n:=0) rfl (o:=4) (m:=1) (by decide) (fun cs aC=>?_);obtain⟨_,_,_,w4,w5,w6,rfl,-,s2⟩:=aC;have hw5:w5=R0.length:=s2.len;have Ij:=hsum2 l0 w5 lD hl00 hw5 hlD _ _ _ (aS.nat (A:=A) l0) (aS.nat (A:=A) w5) (aS.nat (A:=A) lD);cbv;rw[Ij];exact⟨lt,rfl⟩
end Go.S
