import Derived.Test.YtekoaiendgjkdaaGreatWC
import Derived.Test.YtekoaiendgjkdaaGreatYB
set_option linter.unusedVariables false
set_option linter.unusedSimpArgs false
set_option linter.unusedSectionVars false
set_option maxRecDepth 100000
set_option maxHeartbeats 8000000
namespace Go.S
open Go.Sx
theorem Va{α:Type}{rel:α->α->Prop}:∀(n:Nat) {R:List α},R.Pairwise rel->∀x∈GL n R,∀y∈GL n R,x.2<y.2->rel x.1 y.1
 |_,[],_,x,hx,_,_,_=>by cases hx
 |n,r::R,h,x,hx,y,hy,uP=>by
  rw[List.pairwise_cons]at h;have hm:∀z∈GL (n+1) R,z.1∈R:=fun z hz=>by
   have:=List.mem_map_of_mem (f:=Prod.fst) hz;rwa[BE]at this
  rcases List.mem_cons.1 hx with e|hx
  ·rcases List.mem_cons.1 hy with e2|hy
   ·subst e e2;exact absurd uP (Nat.lt_irrefl _)
   ·subst e;exact h.1 _ (hm y hy)
  ·rcases List.mem_cons.1 hy with e2|hy
   ·have:=LG _ _ x hx;subst e2;replace uP:x.2<n:=uP;omega
   ·exact Va (n+1) h.2 x hx y hy uP
theorem LP{α:Type}{lt:α->α->Bool}(o:FQ lt){rel:α->α->Prop}{R:List α}(h:R.Pairwise rel):(gL lt R).Pairwise (fun u v=>lt u v=true\/(lt v u=false/\rel u v)):=by
 have h1:=GQ o (GK 0 R);rw[BE]at h1;rw[<-h1.2,List.pairwise_map];refine h1.1.imp_of_mem (fun{x y} hx hy uP=>?_);have mx:=(gh (SM lt) (GL 0 R)).subset hx;have my:=(gh (SM lt) (GL 0 R)).subset hy;rcases uP with uP| ⟨h2,h3⟩
 ·exact .inl uP
 ·exact .inr ⟨h2,Va 0 h x mx y my h3⟩
theorem QS(x y:Int):eR y x=- eR x y:=by
 unfold eR;by_cases h:x<y
 ·rw[if_neg (by simp;omega),if_pos (by simpa using h),if_pos (by simpa using h)];rfl
 ·by_cases h2:y<x
  ·rw[if_pos (by simpa using h2),if_neg (by simpa using h),if_pos (by simpa using h2)]
  ·rw[if_neg (by simpa using h2),if_neg (by simpa using h),if_neg (by simpa using h),if_neg (by simpa using h2)];rfl
theorem Gz(a b:cO):bC b a=- bC a b:=by
 have h1:=Di a.s b.s;rw[xh,xh,QS a.k b.k,QS a.n b.n];generalize eR a.k b.k=x;generalize eR a.n b.n=y;generalize eC a.s b.s=z at *;generalize eC b.s a.s=w at *;have hw:w=- z:=by omega
 subst hw;by_cases hx:x=0
 ·subst hx;rw[if_neg (show ¬(-(0:Int))≠0 by omega),if_neg (show ¬(0:Int)≠0 by omega)];by_cases hy:y=0
  ·subst hy;rw[if_neg (show ¬(-(0:Int))≠0 by omega),if_neg (show ¬(0:Int)≠0 by omega)];by_cases hz:z=0
   ·subst hz;rfl
   ·rw[if_pos (show -z≠0 by omega),if_pos hz]
  ·rw[if_pos (show -y≠0 by omega),if_pos hy]
 ·rw[if_pos (show -x≠0 by omega),if_pos hx]
theorem aQb.hJv{r:Row}(h:kL r):aQb (dXy r):=by
 obtain⟨a,v,rfl,-,-,rfl| ⟨x,rfl,hx⟩⟩:=h
 ·exact⟨fun _=>rfl,fun e=>(by cases e),by show(0:Nat)<=_;omega⟩
 ·refine⟨fun e=>absurd rfl e,fun _=>rfl,?_⟩;show(aM x).size<=_;rw[ep];omega
structure Du(st:aJ):Prop where
 kd:st.kind=6
 tb:st.table=gN 0
 jn:st.join=b0
 on:st.on=[]
 wh:st.bV=[]
theorem aZA{st:aJ}(s:Du st)(cols:List cK):∀(l out:List Row),cT st cols [[]] l out=(out++l,0)
 | [],out=>by show(out,(0:Int))=_;simp
 |a::l,out=>by
  have h1:∀r,dt st.on cols r=(true,0):=fun r=>by rw[s.on];rfl
  have h2:∀r,dt st.bV cols r=(true,0):=fun r=>by rw[s.wh];rfl
  have e:cT st cols [[]] (a::l) out=match gX st cols a [[]] out with
   | (out,e)=>if e≠0 then(out,e)else cT st cols [[]] l out:=rfl
  have e2:gX st cols a [[]] out=match dt st.on cols (a++[])with
   | (on,e)=>if e≠0 then(out,e)else if on=false then(out,0)else match dt st.bV cols (a++[])with
    | (is,e)=>if e≠0 then(out,e)else((if is=true then out++[a++[]]else out),0):=rfl
  rw[e,e2,h1,h2,List.append_nil];show cT st cols [[]] l (out++[a])=_;rw[aZA s cols l];simp
theorem eJD{st:aJ}(s:Du st){y:Qy}(hf:dp st aZ=(y,0)){l:List Row}(hl:l.length<=4000):jI st aZ l [[]]=if y.kK=true then dw st aZ y.group l else eJ st aZ y.order l:=by
 unfold jI;rw[hf];show(if l.length*1>4000 then([],4)else match cT st aZ [[]] l []with
  | (rows,e)=>if e≠0 then([],e)else if y.kK=true then dw st aZ y.group rows else eJ st aZ y.order rows)=_
 rw[if_neg (by omega),aZA s];rfl
theorem Du.aQB{st:aJ}(s:Du st){y:Qy}(hf:dp st aZ=(y,0))(hg:y.kK=true->Rp st y){R:Nat->List Row}{log:List dV}{d:DB}(q:AJ R log d):iE d 0 st:=iE.Kq s.kd (Hf s.jn (fun z hz=>by
 rw[DU q s.tb s.jn,hf]at hz;cases hz;exact⟨hg,fun _=>eKz⟩))
theorem Du.iD{st:aJ}(s:Du st){y:Qy}(hf:dp st aZ=(y,0)){m:Nat}{R:Nat->List Row}{log:List dV}{d:DB}(al:AL m R log d)(hm:m<=4000){l:List Row}{e:Int}(he:(if y.kK=true then dw st aZ y.group (R 0)else eJ st aZ y.order (R 0))=(l,e)):∃d1,AJ R log d1/\iD d 0 st=(d1,l,e):=by obtain⟨d1,q1,hd⟩:=LW al.aj s.kd s.tb s.jn;rw[eJD s hf (by have:=al.ln;have:=al.le;omega),he]at hd;exact⟨d1,q1,hd⟩
theorem AO{x:aJ}(hi:x.items.length≠0)(cols:List cK)(f:Row->Row):∀(rows out:List Row),(∀r∈rows,bS (x.items.map (·.e)) cols r=(f r,0))->eZ x cols rows out=(out++rows.map f,0)
 | [],out,_=>by simp[eZ]
 |r::rows,out,h=>by
  unfold eZ;rw[if_neg hi,h r List.mem_cons_self];show eZ x cols rows (out++[f r])=_;rw[AO hi cols f rows _ (fun r hr=>h r (List.mem_cons_of_mem _ hr))];simp
def bJG:ByteArray:=⟨#[115,101,108,101,99,116,32,98,44,32,97,32,102,114,111,109,32,116,97,32,111,114,100,101,114,32,98,121,32,98]⟩
def bJD:ByteArray:=⟨#[115,101,108,101,99,116,32,98,44,32,97,32,102,114,111,109,32,116,97,32,111,114,100,101,114,32,98,121,32,98,32,100,101,115,99]⟩
def GP(de:Bool):aJ:={ kind:=6,table:=gN 0,items:=[⟨0,[cB]⟩,⟨0,[cA]⟩],order:=aM [98],desc:=de,eG:=-1 }
theorem dXK:cL ao bJG=(GP false,0)/\bJ bJG=true:=⟨by kernel_rfl,by kernel_rfl⟩
theorem dXH:cL ao bJD=(GP true,0)/\bJ bJD=true:=⟨by kernel_rfl,by kernel_rfl⟩
theorem aXN(de:Bool):Du (GP de):=⟨rfl,rfl,rfl,rfl,rfl⟩
theorem Vk:∀de,dr (GP de)
 |true=>oL (by kernel_rfl)
 |false=>oL (by kernel_rfl)
theorem Kc:∀de,dp (GP de) aZ=(⟨-1,1,false⟩,0)
 |true=>by kernel_rfl
 |false=>by kernel_rfl
def cJm(r:Row):Row:=[dXy r,iN (aN r)]
theorem bJJ{r:Row}(h:kL r):bS [[cB],[cA]] aZ r=(cJm r,0):=by obtain⟨a,v,rfl,-⟩:=h;show bS [[cB],[cA]] aZ [iN a,v]=([v,iN a],0);kernel_rfl
theorem aZy(de:Bool){R0:List Row}(h:∀r∈R0,kL r):eJ (GP de) aZ 1 R0=((gL (wP 1 de) R0).map cJm,0):=by
 unfold eJ;rw[if_pos (by decide)];have e:bL (gL (wP 1 (GP de).desc) R0) (GP de).eG=gL (wP 1 de) R0:=by unfold bL;rw[if_pos (by show(-1:Int)<0;decide)];rfl
 rw[e,AO (x:=GP de) (by show ¬(2:Nat)=0;decide) aZ cJm _ _ (fun r hr=>bJJ (h r (oM hr)))];rfl
structure iKp(de:Bool)(r s:Row):Prop where
 ex:∃a v b w,r=[v,iN a]/\s=[w,iN b]/\aQb v/\aQb w/\(de=false->¬bC v w>0)/\(de=true->¬bC v w<0)/\(bC v w=0->a<b)
theorem JZ(de:Bool){R0:List Row}(h:∀r∈R0,kL r)(hs:SR R0){i:Nat}{r s:Row}(hr:((gL (wP 1 de) R0).map cJm)[i]? =some r)(KG:((gL (wP 1 de) R0).map cJm)[i+1]? =some s):iKp de r s:=by
 have hp:=LP (Ce 1 de) hs.jC;rw[List.getElem?_map]at hr KG;generalize hT:gL (wP 1 de) R0=T at *;obtain⟨u,hu,rfl⟩:=Option.map_eq_some_iff.1 hr;obtain⟨w,hw,rfl⟩:=Option.map_eq_some_iff.1 KG;have mu:kL u:=h u (by
  have:=List.mem_of_getElem? hu;rw[<-hT]at this;exact oM this)
 have mw:kL w:=h w (by
  have:=List.mem_of_getElem? hw;rw[<-hT]at this;exact oM this)
 obtain⟨fXQ,hu⟩:=List.getElem?_eq_some_iff.1 hu;obtain⟨fXP,hw⟩:=List.getElem?_eq_some_iff.1 hw;have key:=List.pairwise_iff_getElem.1 hp i (i+1) fXQ fXP (Nat.lt_succ_self i);rw[hu,hw]at key;have cu:=aQb.hJv mu;have cw:=aQb.hJv mw;obtain⟨a,v,rfl,-⟩:=mu;obtain⟨b,x,rfl,-⟩:=mw;replace cu:aQb v:=cu;replace cw:aQb x:=cw;have kJH:=Gz v x;have e1:wP 1 de [iN a,v] [iN b,x]=if de=true then decide (bC x v<0)else decide (bC v x<0):=by rw[tP];rfl
 have e2:wP 1 de [iN b,x] [iN a,v]=if de=true then decide (bC v x<0)else decide (bC x v<0):=by rw[tP];rfl
 rw[e1,e2]at key;replace key:(if de=true then decide (bC x v<0)else decide (bC v x<0))=true\/((if de=true then decide (bC v x<0)else decide (bC x v<0))=false/\a<b):=key;refine⟨a,v,b,x,rfl,rfl,cu,cw,fun e=>?_,fun e=>?_,fun e=>?_⟩
 ·subst e;simp only[Bool.false_eq_true,if_false,decide_eq_true_eq,decide_eq_false_iff_not]at key;omega
 ·subst e;simp only[if_true,decide_eq_true_eq,decide_eq_false_iff_not]at key;omega
 ·cases de with
  |true=>simp only[if_true,decide_eq_true_eq,decide_eq_false_iff_not]at key;omega
  |false=>simp only[Bool.false_eq_true,if_false,decide_eq_true_eq,decide_eq_false_iff_not]at key;omega
theorem dQf(de:Bool){R:Nat->List Row}{log:List dV}{d:DB}(al:AL 25 R log d):∃d1,AJ R log d1/\iD d 0 (GP de)=(d1,(gL (wP 1 de) (R 0)).map cJm,0):=
 (aXN de).iD (Kc de) al (by decide) (aZy de (al.rp 0 (by decide)))
theorem bQK(de:Bool){R:Nat->List Row}{log:List dV}{d:DB}(q:AJ R log d):iE d 0 (GP de):=(aXN de).aQB (Kc de) (fun h=>(by cases h)) q
theorem Ke{α:Type}(lt:α->α->Bool)(l:List α):(gL lt l).length=l.length:=(gh lt l).length_eq
open Go.Sx Go.Proofs
theorem tU{α:Type}{A:Ar}[bM A]{e e1:Nat}{s:Sh α}{h:ad}{b:Option Addr}{len cap:Nat}{xs:List (List α)}(q:Sl e (mW e1 s) h (.slice b len cap) xs){i:Nat}{x:List α}(hx:xs[i]? =some x){n:Int}(hn:n=(i:Int)){k:List Value->Prop}
 (hk:∀b1 n1 c1,Sl e1 s h (.slice b1 n1 c1) x->(∀h' k',Le h h'->k' [.slice b1 n1 c1]->Bn h' (A .mS b n 1) 1 k')->k [.slice b1 n1 c1]):Bn h (A .mS b n 1) 1 k:=by
 refine q.Ch hx hn (fun cs ay ag=>?_);obtain⟨v,rfl,hv⟩:=ay;obtain⟨b1,c1,rfl,-⟩:=hv.out;exact hk _ _ _ hv ag
theorem bJL{xs:List wK}{h:ad}{b:Option Addr}{n c:Nat}(q:zW kn h (.slice b n c) xs){sa sd:aJ}(ta:cL ao bJG=(sa,0)/\bJ bJG=true)(td:cL ao bJD=(sd,0)/\bJ bJD=true)(vi:dr sa)(aKd:dr sd)
 (MT:∀ {R log d},AJ R log d->iE d 0 sa/\iE d 0 sd) (PA PD:List Row->List Row) (NK:∀ {R log d},AL 25 R log d->(∃d1,AJ R log d1/\iD d 0 sa=(d1,PA (R 0),0))/\∃d1,AJ R log d1/\iD d 0 sd=(d1,PD (R 0),0)) (tG:∀R0,(PA R0).length=R0.length/\(PD R0).length=R0.length)
 (ig:∀ {R0:List Row},(∀r∈R0,kL r)->SR R0->(∀ {i r s},(PA R0)[i]? =some r->(PA R0)[i+1]? =some s->iKp false r s)/\(∀ {i r s},(PD R0)[i]? =some r->(PD R0)[i+1]? =some s->iKp true r s)):
 Ct 13 [.slice b n c] h (fun v h'=>Le h h'/\v=.bool true):=by
 obtain⟨A,hA⟩:=Ar.ex;have zd:A .not true=false:=by rw[hA.not];rfl
 refine ah A (ax kQd.aK kQd.bF) Tryz.func13 rfl (by kernel_rfl) ?_;cbv;refine(qU h).mono (fun v h1 hR=>?_);obtain⟨l1,hv⟩:=hR;subst hv;cbv;rw[zd];cbv;refine vR (q.mono l1) (fun h3 b1 n1 c1 b2 n2 c2 b3 n3 c3 b4 n4 c4 R log d l2 Hq al=>?_);obtain⟨⟨d1,cZD,MY⟩,d2,cZC,DG⟩:=NK al;obtain⟨WO,WN⟩:=MT al.aj;have ej:=al.ej;have aQf:=al.rp 0 (by decide);have gZR:=al.sr (t:=0) (by decide);have pG:=al.aj.az;have vN:(R 0).length<=25:=by have:=al.ln;have:=al.le;omega
 obtain⟨TH,cQG⟩:=tG (R 0);obtain⟨iKM,gZP⟩:=ig aQf gZR;clear NK MT tG ig al cZD cZC gZR;generalize PA (R 0)=P at *;generalize PD (R 0)=Q at *;generalize R 0=R0 at *;cbv;refine Lh Hq ej (by decide) ta.2 ta.1 vi WO (fun h6 x1 m1 y1 x2 m2 y2 x3 m3 y3 x4 m4 y4 pb pn pc l6 _ s6=>?_);rw[MY]at s6 |-;replace s6:Sl 59 aD h6 (.slice pb pn pc) P:=s6;cbv;refine Lh (Hq.mono l6) ej (by decide) td.2 td.1 aKd WN (fun h7 w1 k1 o1 w2 k2 o2 w3 k3 o3 w4 k4 o4 qb qn qc l7 _ s7=>?_);rw[DG]at s7 |-;replace s7:Sl 59 aD h7 (.slice qb qn qc) Q:=s7;have s6:=s6.mono (l7.t _);have Ac:=((Hq.mono l6).mono l7).xj;have lt:Le h h7:=((l1.trans l2).trans l6).trans l7;have um:A .aI .neq 0 0=false:=by rw[aC A];rfl
 clear WO WN MY DG ej ta td vi aKd Hq l1 l2 l6 l7 q;cbv;rw[um];cbv;rw[um];cbv;have lG:n1=3:=by rw[Ac.len,pG];rfl
 subst lG;have g0:d.az[0]? =some ⟨aF 0,R0⟩:=by rw[pG];rfl
 have Lp:b1.isSome=true/\(0:Int)<=0/\(0:Int)<((3:Nat):Int):=⟨Ac.aT (by omega),by omega,by omega⟩;have EV:pn=R0.length:=by rw[<-TH];exact s6.len
 have jXw:qn=R0.length:=by rw[<-cQG];exact s7.len
 have gKy:A .aI .neq (A .nat pn) (A .nat pn)=false:=by rw[aC A];simp
 refine⟨Lp,?_⟩;cbv;refine Ac.cC g0 (n:=0) rfl (o:=4) (m:=1) (by decide) (fun cs ay=>?_);obtain⟨_,_,_,u4,u5,u6,rfl,-,sr⟩:=ay;have Th:u5=pn:=by rw[EV];exact sr.len
 subst Th;have kJO:qn=u5:=by omega
 subst kJO;clear pG g0 Ac sr Lp;obtain⟨I,aY⟩:∃I:Nat->Int->ad->Prop,∀m g h',I m g h'=∃i,aS g (i+1)/\m=qn-(i+1)/\h'=h7:=⟨_,fun _ _ _=>rfl⟩;have hJ:I (qn-1) 1 h7:=by rw[aY];exact⟨0,⟨rfl⟩,rfl,rfl⟩
 cbv;rw[gKy];cbv;rw[gKy];cbv;refine aX.go (G:=Int) (fun g=>[(10,.v (.int .i64 g))]) (fun _=>[(3,[.slice b1 3 c1,.slice b2 n2 c2,.slice b3 n3 c3,.slice b4 n4 c4]),(4,[.slice x1 m1 y1,.slice x2 m2 y2,.slice x3 m3 y3,.slice x4 m4 y4]),(7,[.slice w1 k1 o1,.slice w2 k2 o2,.slice w3 k3 o3,.slice w4 k4 o4])]) (fun m g h'=>I m g h') (qn-1) 1 ⟨?_,?_,?_⟩ hJ ?_
 ·cbv
 ·cbv
 ·cbv
 ·intro m z h8 hI;rw[aY]at hI;cbv;obtain⟨i,hz,hm,rfl⟩:=hI;have f1:A .aI .lss z (A .nat qn)=decide (i+1<qn):=hz.iJ (aS.nat qn);rw[f1];by_cases aP:i+1<qn
  ·obtain⟨r,hr⟩:=aE (xs:=P) (i:=i) (by omega);obtain⟨s,hs⟩:=aE (xs:=P) (i:=i+1) (by omega);obtain⟨u,hu⟩:=aE (xs:=Q) (i:=i) (by omega);obtain⟨w,hw⟩:=aE (xs:=Q) (i:=i+1) (by omega);obtain⟨ar,v1,as_,v2,er,es,lXy,lXx,ka,-,hKg⟩:=(iKM hr hs).ex;obtain⟨au,v3,aw,v4,eu,ew,lXw,lXv,-,kb,hKb⟩:=(gZP hu hw).ex;have hKh:=ka rfl;have hKd:=kb rfl;rw[er]at hr;rw[es]at hs;rw[eu]at hu;rw[ew]at hw;have cN:=hz.eq;obtain⟨z1,jV⟩:∃z1,A .bB .sub .i64 z 1=z1:=⟨_,rfl⟩;have bZl:aS z1 i:=by rw[<-jV];exact ff (A:=A) hz (⟨rfl⟩:aS 1 1) (by omega) (by omega)
   have MF:=bZl.eq;have cZ:=hz.succ (A:=A) (by omega);obtain⟨z2,dL⟩:∃z2,A .bB .add .i64 z 1=z2:=⟨_,rfl⟩;rw[dL]at cZ;obtain⟨mm,sf⟩:∃mm,mm=qn-(i+1+1):=⟨_,rfl⟩;have cD:I mm z2 h8:=by rw[aY];exact⟨i+1,cZ,sf,rfl⟩
   have sh:mm<m:=by omega
   have Ns:(0:Int)<=0/\(0:Int)<((2:Nat):Int):=by decide
   have aQD:(0:Int)<=1/\(1:Int)<((2:Nat):Int):=by decide
   have RR:pb.isSome=true/\0<=z/\z<(qn:Int):=⟨s6.aT (by omega),hz.ix aP⟩;have dQk:qb.isSome=true/\0<=z/\z<(qn:Int):=⟨s7.aT (by omega),hz.ix aP⟩;have fJF:pb.isSome=true/\0<=z1/\z1<(qn:Int):=⟨s6.aT (by omega),bZl.ix (by omega)⟩;have eQZ:qb.isSome=true/\0<=z1/\z1<(qn:Int):=⟨s7.aT (by omega),bZl.ix (by omega)⟩;clear aY hJ iKM gZP ka kb er es eu ew;rw[decide_eq_true aP];cbv;rw[jV];refine⟨fJF,?_⟩;cbv;refine tU s6 hr MF (fun lKK lXs lKJ hZZ fJU=>?_);have iXA:lXs=2:=hZZ.len;subst iXA;have iJH:=hZZ.aT (by omega);cbv;refine⟨⟨iJH,Ns⟩,?_⟩;cbv;refine hZZ.Ch (i:=0) rfl (n:=0) rfl (fun cs ay dQy=>?_);replace ay:cs=[.int .i64 v1.k,.int .i64 v1.n,.string v1.s]:=ay;subst ay;cbv;refine⟨RR,?_⟩;cbv;refine tU s6 hs cN (fun lKI lXr lKH eKl dQx=>?_);have iXz:lXr=2:=eKl.len;subst iXz;have iJD:=eKl.aT (by omega);cbv;refine⟨⟨iJD,Ns⟩,?_⟩;cbv;refine eKl.Ch (i:=0) rfl (n:=0) rfl (fun cs ay fJT=>?_);replace ay:cs=[.int .i64 v2.k,.int .i64 v2.n,.string v2.s]:=ay;subst ay;cbv;rw[jV];refine⟨eQZ,?_⟩;cbv;refine tU s7 hu MF (fun lKG fJr lKF hZY dQw=>?_);have iXy:fJr=2:=hZY.len;subst iXy;have iJC:=hZY.aT (by omega);cbv;refine⟨⟨iJC,Ns⟩,?_⟩;cbv;refine hZY.Ch (i:=0) rfl (n:=0) rfl (fun cs ay dQv=>?_);replace ay:cs=[.int .i64 v3.k,.int .i64 v3.n,.string v3.s]:=ay;subst ay;cbv;refine⟨dQk,?_⟩;cbv;refine tU s7 hw cN (fun lKE lXq lKD hZX jJP=>?_);have iXx:lXq=2:=hZX.len;subst iXx;have iJB:=hZX.aT (by omega);cbv;refine⟨⟨iJB,Ns⟩,?_⟩;cbv;refine hZX.Ch (i:=0) rfl (n:=0) rfl (fun cs ay jJO=>?_);replace ay:cs=[.int .i64 v4.k,.int .i64 v4.n,.string v4.s]:=ay;subst ay;cbv;refine IA lXy lXx (fun C hC=>?_);rw[<-hC]at hKh hKg;have lXb:A .aI .gtr C 0=false:=by rw[bO A];exact decide_eq_false hKh
   have lXa:A .aI .eql C 0=decide (C=0):=aA A ..;have kKQ:C=0->A .aI .geq ar as_=false:=fun e=>by rw[cf A];exact decide_eq_false (by have:=hKg e;omega)
   clear hC hKh hKg;cbv;repeat ((first|refine fJU _ _ (Le.refl _) ?_|refine dQy _ _ (Le.refl _) ?_|refine dQx _ _ (Le.refl _) ?_|refine fJT _ _ (Le.refl _) ?_|refine dQw _ _ (Le.refl _) ?_|refine dQv _ _ (Le.refl _) ?_|refine jJP _ _ (Le.refl _) ?_|refine jJO _ _ (Le.refl _) ?_);cbv;refine⟨⟨_,rfl,rfl⟩,?_⟩;cbv)
   refine IA lXw lXv (fun G hG=>?_);rw[<-hG]at hKd hKb;have jZY:A .aI .lss G 0=false:=by rw[bm A];exact decide_eq_false hKd
   have jZX:A .aI .eql G 0=decide (G=0):=aA A ..;have jXW:G=0->A .aI .geq au aw=false:=fun e=>by rw[cf A];exact decide_eq_false (by have:=hKb e;omega)
   clear hG hKd hKb;cbv;repeat ((first|refine fJU _ _ (Le.refl _) ?_|refine dQy _ _ (Le.refl _) ?_|refine dQx _ _ (Le.refl _) ?_|refine fJT _ _ (Le.refl _) ?_|refine dQw _ _ (Le.refl _) ?_|refine dQv _ _ (Le.refl _) ?_|refine jJP _ _ (Le.refl _) ?_|refine jJO _ _ (Le.refl _) ?_);cbv;refine⟨⟨_,rfl,rfl⟩,?_⟩;cbv)
   rw[lXb];cbv;rw[lXa];by_cases NO:C=0
   ·rw[decide_eq_true NO];cbv;rw[jV];refine⟨fJF,?_⟩;cbv;refine bZ s6 hr MF (fun zb zn zc qz=>?_);have nP:zn=2:=qz.len;subst nP;have aQJ:=qz.aT (by omega);cbv;refine⟨⟨aQJ,aQD⟩,?_⟩;cbv;refine qz.cC (i:=1) rfl (n:=1) rfl (o:=1) (m:=1) (by decide) (fun cs ay=>?_);replace ay:cs=[.int .i64 2,.int .i64 ar,.string b0]:=ay;subst ay;cbv;refine⟨RR,?_⟩;cbv;refine bZ s6 hs cN (fun zb zn zc qz=>?_);have nP:zn=2:=qz.len;subst nP;have aQJ:=qz.aT (by omega);cbv;refine⟨⟨aQJ,aQD⟩,?_⟩;cbv;refine qz.cC (i:=1) rfl (n:=1) rfl (o:=1) (m:=1) (by decide) (fun cs ay=>?_);replace ay:cs=[.int .i64 2,.int .i64 as_,.string b0]:=ay;subst ay;cbv;rw[kKQ NO];cbv;rw[jZY];cbv;rw[jZX];by_cases YV:G=0
    ·rw[decide_eq_true YV];cbv;rw[jV];refine⟨eQZ,?_⟩;cbv;refine bZ s7 hu MF (fun zb zn zc qz=>?_);have nP:zn=2:=qz.len;subst nP;have aQJ:=qz.aT (by omega);cbv;refine⟨⟨aQJ,aQD⟩,?_⟩;cbv;refine qz.cC (i:=1) rfl (n:=1) rfl (o:=1) (m:=1) (by decide) (fun cs ay=>?_);replace ay:cs=[.int .i64 2,.int .i64 au,.string b0]:=ay;subst ay;cbv;refine⟨dQk,?_⟩;cbv;refine bZ s7 hw cN (fun zb zn zc qz=>?_);have nP:zn=2:=qz.len;subst nP;have aQJ:=qz.aT (by omega);cbv;refine⟨⟨aQJ,aQD⟩,?_⟩;cbv;refine qz.cC (i:=1) rfl (n:=1) rfl (o:=1) (m:=1) (by decide) (fun cs ay=>?_);replace ay:cs=[.int .i64 2,.int .i64 aw,.string b0]:=ay;subst ay;cbv;rw[jXW YV];cbv;rw[dL];refine⟨mm,_,sh,⟨?_,?_,?_⟩,cD⟩
     ·cbv
     ·cbv
     ·cbv
    ·rw[decide_eq_false YV];cbv;rw[dL];refine⟨mm,_,sh,⟨?_,?_,?_⟩,cD⟩
     ·cbv
     ·cbv
     ·cbv
   ·rw[decide_eq_false NO];cbv;rw[jZY];cbv;rw[jZX];by_cases YV:G=0
    ·rw[decide_eq_true YV];cbv;rw[jV];refine⟨eQZ,?_⟩;cbv;refine bZ s7 hu MF (fun zb zn zc qz=>?_);have nP:zn=2:=qz.len;subst nP;have aQJ:=qz.aT (by omega);cbv;refine⟨⟨aQJ,aQD⟩,?_⟩;cbv;refine qz.cC (i:=1) rfl (n:=1) rfl (o:=1) (m:=1) (by decide) (fun cs ay=>?_);replace ay:cs=[.int .i64 2,.int .i64 au,.string b0]:=ay;subst ay;cbv;refine⟨dQk,?_⟩;cbv;refine bZ s7 hw cN (fun zb zn zc qz=>?_);have nP:zn=2:=qz.len;subst nP;have aQJ:=qz.aT (by omega);cbv;refine⟨⟨aQJ,aQD⟩,?_⟩;cbv;refine qz.cC (i:=1) rfl (n:=1) rfl (o:=1) (m:=1) (by decide) (fun cs ay=>?_);replace ay:cs=[.int .i64 2,.int .i64 aw,.string b0]:=ay;subst ay;cbv;rw[jXW YV];cbv;rw[dL];refine⟨mm,_,sh,⟨?_,?_,?_⟩,cD⟩
     ·cbv
     ·cbv
     ·cbv
    ·rw[decide_eq_false YV];cbv;rw[dL];refine⟨mm,_,sh,⟨?_,?_,?_⟩,cD⟩
     ·cbv
     ·cbv
     ·cbv
  ·clear aY hJ;rw[decide_eq_false aP];cbv;exact⟨lt,trivial⟩
theorem gZO{xs:List wK}{h:ad}{b:Option Addr}{n c:Nat}(q:zW kn h (.slice b n c) xs):Ct 13 [.slice b n c] h (fun v h'=>Le h h'/\v=.bool true):=
 bJL q dXK dXH (Vk false) (Vk true) (fun aj=>⟨bQK false aj,bQK true aj⟩) (fun R0=>(gL (wP 1 false) R0).map cJm) (fun R0=>(gL (wP 1 true) R0).map cJm) (fun al=>⟨dQf false al,dQf true al⟩) (fun R0=>⟨by rw[List.length_map,Ke],by rw[List.length_map,Ke]⟩) (fun hr hs=>⟨fun{i r s} h1 h2=>JZ false hr hs h1 h2,fun{i r s} h1 h2=>JZ true hr hs h1 h2⟩)
end Go.S
