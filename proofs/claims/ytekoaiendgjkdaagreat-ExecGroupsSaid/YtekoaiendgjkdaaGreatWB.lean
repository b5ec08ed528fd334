import Derived.Test.YtekoaiendgjkdaaGreatWA
import Derived.Test.YtekoaiendgjkdaaGreatQA
import Derived.Test.YtekoaiendgjkdaaGreatI2a
import Derived.Test.YtekoaiendgjkdaaGreatGB
import Derived.Test.YtekoaiendgjkdaaGreatQF
set_option linter.unusedVariables false
set_option linter.unusedSimpArgs false
set_option linter.unusedSectionVars false
set_option maxRecDepth 100000
set_option maxHeartbeats 8000000
namespace Go.S
open Go.Sx Go.Proofs
theorem uv(a:Int)(n:Nat)(hn:0<n)(mY:n<=2^40)(h:ad){k:Value->ad->Prop}(hk:∀z i,aS z i->i=(a % (n:Int)).toNat->i<n->k (.int .i64 z) h):Ct 75 [.int .i64 a,.int .i64 (n:Int)] h k:=by
 obtain⟨A,hA⟩:=Ar.ex;obtain⟨m,hm⟩:∃m:Int,m=(n:Int):=⟨_,rfl⟩;rw[<-hm];have RF:m≠0:=by omega
 have Tq:A .bB .rem .i64 a m=a.tmod m:=by rw[hA.bB];rfl
 have lY:a.tmod m<m:=by have:=mJF a (show 0<m by omega);omega
 have jq:-m<a.tmod m:=by have:=mJE a (show 0<m by omega);omega
 have Qi:a % m=if a.tmod m<0 then a.tmod m+m else a.tmod m:=by
  rw[mJD];have h1:=mZB a RF;have h2:=mZA a (show 0<m by omega);by_cases hc:0<=a\/m ∣ a
  ·rw[if_pos hc];rw[if_neg (by omega)];omega
  ·rw[if_neg hc];have:(m.natAbs:Int)=m:=by omega
   rw[this,if_pos (by omega)];omega
 generalize ht:a.tmod m=t at *;generalize eu:A .aI .lss t 0=u;have fu:=eu;rw[bm A]at eu;have key:∀z:Int,z=a % m->k (.int .i64 z) h:=fun z hz=>by
  have h1:=mZB a RF;have h2:=mZA a (show 0<m by omega);refine hk z (a % (n:Int)).toNat ⟨?_⟩ rfl ?_
  ·rw[<-hm];omega
  ·rw[<-hm];omega
 have nW:t<0->A .bB .add .i64 t m=t+m:=fun h=>by
  rw[hA.bB];simp only[bB];rw[IntWalk.i64_in _ (by omega)]
 refine ah A (ax jKh.aK jKh.bF) Tryz.func75 rfl (by kernel_rfl) ?_;cbv;refine⟨RF,?_⟩;cbv;rw[Tq];rw[fu];cases u with
 |true=>have Bb:=mQB eu;have sJ:=key (t+m) (by rw[Qi,if_pos Bb]);cbv;rw[nW Bb];exact sJ
 |false=>have Bb:=mQI eu;have sJ:=key t (by rw[Qi,if_neg Bb]);cbv;exact sJ
def aXC(t:Nat):UInt8:=UInt8.ofNat (97+t)
def xY(t:Nat):By:=[105,110,115,101,114,116,32,105,110,116,111,32,116]++(aXC t::[32,118,97,108,117,101,115,32,40])
def AH(n x y t:Nat):By:=xY t++(if n<3 then dk x++([44,32,39,118]++(dk y++[39,41]))else dk x++([32,43,32]++(dk y++[44,32,110,117,108,108,41])))
def bJz:List ByteArray:=[aM [116,97],aM [116,98],aM [116,99]]
theorem aXB{t:Nat}{s:ByteArray}(h:bJz[t]? =some s):s=aM [116,aXC t]:=by
 match t with
 |0=>cases h;rfl
 |1=>cases h;rfl
 |2=>cases h;rfl
 |t+3=>cases h
def dXv:List ByteArray:=[aM [116,98],aM [116,99],aM [116,97]]
theorem hZu{n:Nat}{zn:Int}(hn:aS zn n)(kJY:n<4)(a b:Int)(h:ad){k:Value->ad->Prop}(hk:∀h',Le h h'->k (.string (aM (AH n (a % 30).toNat (b % 30).toNat (b % 3).toNat))) h'):Ct 37 [.int .i64 zn,.int .i64 a,.int .i64 b] h k:=by
 obtain⟨A,hA⟩:=Ar.ex;refine ah A (ax jKL.aK jKL.bF) Tryz.func37 rfl (by kernel_rfl) ?_;cbv;intro jQC h1 f1 e1;have l1:Le h h1:=by rw[e1];exact Le.set f1
 have s1:Sl 9 dX h1 (.slice (some ⟨jQC,0,none⟩) 3 3) bJz:=sZ (l:=bJz) ((congrFun e1 jQC).trans ae) (by decide);clear e1;cbv;refine uv b 3 (by decide) (by decide) h1 (fun iKu t1 jV RC wE=>?_);have rQ:0<=iKu/\iKu<((3:Nat):Int):=jV.ix wE;obtain⟨nm,wD⟩:=aE (xs:=bJz) (i:=t1) wE;have hKU:=jV.eq;cbv;refine⟨⟨rfl,rQ⟩,?_⟩;cbv;refine s1.load wD hKU (fun cs ay=>?_);replace ay:cs=[.string nm]:=ay;subst ay;cbv;intro Dz h2 f2 e2;have l2:Le h1 h2:=by rw[e2];exact Le.set f2
 have s2:Sl 9 dX h2 (.slice (some ⟨Dz,0,none⟩) 3 3) dXv:=sZ (l:=dXv) ((congrFun e2 Dz).trans ae) (by decide);clear e2;cbv;refine uv b 3 (by decide) (by decide) h2 (fun iKt t2 dL RB pz=>?_);have jo:0<=iKt/\iKt<((3:Nat):Int):=dL.ix pz;obtain⟨un,FC⟩:=aE (xs:=dXv) (i:=t2) pz;have FA:=dL.eq;cbv;refine⟨⟨rfl,jo⟩,?_⟩;cbv;refine s2.load FC FA (fun cs ay=>?_);replace ay:cs=[.string un]:=ay;subst ay;cbv;refine uv a 30 (by decide) (by decide) h2 (fun zx x kJe hx kKf=>?_);have fQL:zx=(x:Int):=kJe.eq;cbv;refine yr x zx fQL (by omega) h2 (fun h3 l3=>?_);obtain⟨xs,Cp⟩:∃xs,aM (dk x)=xs:=⟨_,rfl⟩;rw[Cp];cbv;refine uv b 30 (by decide) (by decide) h3 (fun zy y kJd hy bZI=>?_);have fQK:zy=(y:Int):=kJd.eq;cbv;refine yr y zy fQK (by omega) h3 (fun h4 l4=>?_);obtain⟨ys,aQk⟩:∃ys,aM (dk y)=ys:=⟨_,rfl⟩;rw[aQk];have kQm:xs.size<=3:=by rw[<-Cp,ep];exact nL x (by omega)
 have kQl:ys.size<=3:=by rw[<-aQk,ep];exact nL y (by omega)
 have dKb:=aXB wD;have kQy:nm.size=2:=by rw[dKb];rfl
 have aQC:∀a b:ByteArray,(A .cat a b).size=a.size+b.size:=fun a b=>IK a b;obtain⟨w1,EU⟩:∃c,A .cat ⟨#[32,119,104,101,114,101,32,97,32,61,32]⟩ xs=c:=⟨_,rfl⟩;obtain⟨w2,vj⟩:∃c,A .cat ⟨#[32,119,104,101,114,101,32,97,32,62,32]⟩ xs=c:=⟨_,rfl⟩;obtain⟨w3,dJI⟩:∃c,A .cat w2 ⟨#[32,97,110,100,32,98,32,105,115,32,110,117,108,108]⟩=c:=⟨_,rfl⟩;obtain⟨w4,jXn⟩:∃c,A .cat ⟨#[32,119,104,101,114,101,32,110,111,116,32,40,97,32,60,32]⟩ xs=c:=⟨_,rfl⟩;obtain⟨w5,kJs⟩:∃c,A .cat w4 ⟨#[41,32,111,114,32,98,32,61,32,39,99,39]⟩=c:=⟨_,rfl⟩;obtain⟨w6,cJW⟩:∃c,A .cat ⟨#[32,119,104,101,114,101,32,97,32,43,32,49,32,60,61,32]⟩ xs=c:=⟨_,rfl⟩;obtain⟨w7,gJK⟩:∃c,A .cat w6 ⟨#[32,42,32,50]⟩=c:=⟨_,rfl⟩;have kQG:((11+xs.size:Nat):Int)<=2^62:=by omega
 have kQq:w1.size=11+xs.size:=by rw[<-EU,aQC];rfl
 have kQF:((11+xs.size:Nat):Int)<=2^62:=by omega
 have kQp:w2.size=11+xs.size:=by rw[<-vj,aQC];rfl
 have kQE:((w2.size+14:Nat):Int)<=2^62:=by omega
 have kQD:((16+xs.size:Nat):Int)<=2^62:=by omega
 have kQo:w4.size=16+xs.size:=by rw[<-jXn,aQC];rfl
 have kQC:((w4.size+12:Nat):Int)<=2^62:=by omega
 have kQB:((16+xs.size:Nat):Int)<=2^62:=by omega
 have kQn:w6.size=16+xs.size:=by rw[<-cJW,aQC];rfl
 have kQA:((w6.size+4:Nat):Int)<=2^62:=by omega
 obtain⟨WL,cKJ⟩:∃WL:List ByteArray,WL=[⟨#[]⟩,w1,w3,w5,w7,⟨#[32,119,104,101,114,101,32,98,32,60,32,39,100,39]⟩]:=⟨_,rfl⟩;have hq:A .bB .quo .i64 a 7=A .bB .quo .i64 a 7:=rfl;obtain⟨zq,dJr⟩:∃zq,A .bB .quo .i64 a 7=zq:=⟨_,rfl⟩;obtain⟨q1,Ts⟩:∃c,A .cat ⟨#[105,110,115,101,114,116,32,105,110,116,111,32]⟩ nm=c:=⟨_,rfl⟩;obtain⟨q2,cKf⟩:∃c,A .cat q1 ⟨#[32,118,97,108,117,101,115,32,40]⟩=c:=⟨_,rfl⟩;obtain⟨q3,bZD⟩:∃c,A .cat q2 xs=c:=⟨_,rfl⟩;obtain⟨q4,fXq⟩:∃c,A .cat q3 ⟨#[44,32,39,118]⟩=c:=⟨_,rfl⟩;obtain⟨q5,We⟩:∃c,A .cat q4 ys=c:=⟨_,rfl⟩;obtain⟨q6,aKp⟩:∃c,A .cat q5 ⟨#[39,41]⟩=c:=⟨_,rfl⟩;obtain⟨r4,iQz⟩:∃c,A .cat q3 ⟨#[32,43,32]⟩=c:=⟨_,rfl⟩;obtain⟨r5,iQy⟩:∃c,A .cat r4 ys=c:=⟨_,rfl⟩;obtain⟨r6,jXv⟩:∃c,A .cat r5 ⟨#[44,32,110,117,108,108,41]⟩=c:=⟨_,rfl⟩;have kQx:q1.size=12+nm.size:=by rw[<-Ts,aQC]<;>rfl
 have kQw:q2.size=q1.size+9:=by rw[<-cKf,aQC]<;>rfl
 have kQv:q3.size=q2.size+xs.size:=by rw[<-bZD,aQC]<;>rfl
 have kQu:q4.size=q3.size+4:=by rw[<-fXq,aQC]<;>rfl
 have kQt:q5.size=q4.size+ys.size:=by rw[<-We,aQC]<;>rfl
 have kQs:r4.size=q3.size+3:=by rw[<-iQz,aQC]<;>rfl
 have kQr:r5.size=r4.size+ys.size:=by rw[<-iQy,aQC]<;>rfl
 have gZz:((12+nm.size:Nat):Int)<=2^62:=by omega
 have gZy:((q1.size+9:Nat):Int)<=2^62:=by omega
 have gZx:((q2.size+xs.size:Nat):Int)<=2^62:=by omega
 have hQt:((q3.size+4:Nat):Int)<=2^62:=by omega
 have hQs:((q4.size+ys.size:Nat):Int)<=2^62:=by omega
 have hQr:((q5.size+2:Nat):Int)<=2^62:=by omega
 have kQJ:((q3.size+3:Nat):Int)<=2^62:=by omega
 have kQI:((r4.size+ys.size:Nat):Int)<=2^62:=by omega
 have kQH:((r5.size+7:Nat):Int)<=2^62:=by omega
 have ap:∀x y:By,A .cat (aM x) (aM y)=aM (x++y):=fun x y=>by rw[hA.cat];exact py x y
 have g1:q1=aM ([105,110,115,101,114,116,32,105,110,116,111,32]++[116,aXC t1]):=by rw[<-Ts,dKb];exact ap [105,110,115,101,114,116,32,105,110,116,111,32] _
 have g2:q2=aM (xY t1):=by rw[<-cKf,g1];exact ap _ [32,118,97,108,117,101,115,32,40]
 have g3:q3=aM (xY t1++dk x):=by rw[<-bZD,g2,<-Cp];exact ap _ _
 have g4:q4=aM (xY t1++dk x++[44,32,39,118]):=by rw[<-fXq,g3];exact ap _ [44,32,39,118]
 have g5:q5=aM (xY t1++dk x++[44,32,39,118]++dk y):=by rw[<-We,g4,<-aQk];exact ap _ _
 have g6:q6=aM (AH 0 x y t1):=by rw[<-aKp,g5];refine(ap _ [39,41]).trans ?_;unfold AH;rw[if_pos (by decide)];simp only[mXd]
 have k4:r4=aM (xY t1++dk x++[32,43,32]):=by rw[<-iQz,g3];exact ap _ [32,43,32]
 have k5:r5=aM (xY t1++dk x++[32,43,32]++dk y):=by rw[<-iQy,k4,<-aQk];exact ap _ _
 have k6:r6=aM (AH 3 x y t1):=by rw[<-jXv,k5];refine(ap _ [44,32,110,117,108,108,41]).trans ?_;unfold AH;rw[if_neg (by decide)];simp only[mXd]
 have eZs:n<3->AH n x y t1=AH 0 x y t1:=fun h=>by unfold AH;rw[if_pos h,if_pos (by decide)]
 have hX:x=(a % 30).toNat:=hx;have hY:y=(b % 30).toNat:=hy;have hT:t1=(b % 3).toNat:=RC;have cKy:n<3->∀h',Le h h'->k (.string q6) h':=fun h3 h' l=>by rw[g6,<-eZs h3,hX,hY,hT];exact hk h' l
 have cKx:n=3->∀h',Le h h'->k (.string r6) h':=fun h3 h' l=>by rw[k6,<-h3,hX,hY,hT];exact hk h' l
 have nP:=hn.eq;clear g1 g2 g3 g4 g5 g6 k4 k5 k6 eZs hX hY hT hx hy RC RB dKb ap aQC hk Cp aQk fQL fQK kQy kQm kQl kQx kQw kQv kQu kQt kQs kQr kQq kQp kQo kQn wD FC;cbv;refine⟨kQG,?_⟩;cbv;rw[EU];refine⟨kQF,?_⟩;cbv;rw[vj];refine⟨kQE,?_⟩;cbv;rw[dJI];refine⟨kQD,?_⟩;cbv;rw[jXn];refine⟨kQC,?_⟩;cbv;rw[kJs];refine⟨kQB,?_⟩;cbv;rw[cJW];refine⟨kQA,?_⟩;cbv;rw[gJK];intro fQa h5 f5 e5;have l5:Le h4 h5:=by rw[e5];exact Le.set f5
 have s5:Sl 9 dX h5 (.slice (some ⟨fQa,0,none⟩) 6 6) WL:=by rw[cKJ];exact sZ (l:=[⟨#[]⟩,w1,w3,w5,w7,⟨#[32,119,104,101,114,101,32,98,32,60,32,39,100,39]⟩]) ((congrFun e5 fQa).trans ae) (by simp)
 have iXY:WL.length=6:=by rw[cKJ];rfl
 clear e5 cKJ;cbv;refine⟨by decide,?_⟩;cbv;rw[dJr];refine uv zq 6 (by decide) (by decide) h5 (fun iKs t3 ui YM DE=>?_);have sK:0<=iKs/\iKs<((6:Nat):Int):=ui.ix DE;obtain⟨ww,kJo⟩:=aE (xs:=WL) (i:=t3) (by rw[iXY];exact DE);have Te:=ui.eq;cbv;refine⟨⟨rfl,sK⟩,?_⟩;cbv;refine s5.load kJo Te (fun cs ay=>?_);replace ay:cs=[.string ww]:=ay;subst ay;cbv;refine uv zn 24 (by decide) (by decide) h5 (fun zm m aJZ hm sh=>?_);have HX:m=n:=by have:=hn.eq;rw[hm,this];omega
 subst HX;have kJf:=aJZ.eq;have lt:Le h h5:=(((l1.trans l2).trans l3).trans l4).trans l5;have gKA:A .aI .eql zm 0=decide (m=0):=by rw[aA A,decide_eq_decide];omega
 have iJm:A .aI .eql zm 1=decide (m=1):=by rw[aA A,decide_eq_decide];omega
 have aQz:A .aI .eql zm 2=decide (m=2):=by rw[aA A,decide_eq_decide];omega
 have lQZ:A .aI .eql zm 3=decide (m=3):=by rw[aA A,decide_eq_decide];omega
 have dKS:m<3->k (.string q6) h5:=fun h3=>cKy h3 h5 lt;have fZF:m=3->k (.string r6) h5:=fun h3=>cKx h3 h5 lt;have cKl:m=0\/m=1\/m=2\/m=3:=by omega
 clear cKy cKx s5 s1 s2;rcases cKl with rfl|rfl|rfl|rfl
 ·have hf:=dKS (by omega);clear dKS fZF;cbv;rw[gKA,kS (by decide)];cbv;refine⟨gZz,?_⟩;cbv;rw[Ts];refine⟨gZy,?_⟩;cbv;rw[cKf];refine⟨gZx,?_⟩;cbv;rw[bZD];refine⟨hQt,?_⟩;cbv;rw[fXq];refine⟨hQs,?_⟩;cbv;rw[We];refine⟨hQr,?_⟩;cbv;rw[aKp];exact hf
 ·have hf:=dKS (by omega);clear dKS fZF;cbv;rw[gKA,nM (by decide)];cbv;rw[iJm,kS (by decide)];cbv;refine⟨gZz,?_⟩;cbv;rw[Ts];refine⟨gZy,?_⟩;cbv;rw[cKf];refine⟨gZx,?_⟩;cbv;rw[bZD];refine⟨hQt,?_⟩;cbv;rw[fXq];refine⟨hQs,?_⟩;cbv;rw[We];refine⟨hQr,?_⟩;cbv;rw[aKp];exact hf
 ·have hf:=dKS (by omega);clear dKS fZF;cbv;rw[gKA,nM (by decide)];cbv;rw[iJm,nM (by decide)];cbv;rw[aQz,kS (by decide)];cbv;refine⟨gZz,?_⟩;cbv;rw[Ts];refine⟨gZy,?_⟩;cbv;rw[cKf];refine⟨gZx,?_⟩;cbv;rw[bZD];refine⟨hQt,?_⟩;cbv;rw[fXq];refine⟨hQs,?_⟩;cbv;rw[We];refine⟨hQr,?_⟩;cbv;rw[aKp];exact hf
 ·have hf:=fZF rfl;clear dKS fZF;cbv;rw[gKA,nM (by decide)];cbv;rw[iJm,nM (by decide)];cbv;rw[aQz,nM (by decide)];cbv;rw[lQZ,kS (by decide)];cbv;refine⟨gZz,?_⟩;cbv;rw[Ts];refine⟨gZy,?_⟩;cbv;rw[cKf];refine⟨gZx,?_⟩;cbv;rw[bZD];refine⟨kQJ,?_⟩;cbv;rw[iQz];refine⟨kQI,?_⟩;cbv;rw[iQy];refine⟨kQH,?_⟩;cbv;rw[jXv];exact hf
open Go.Sx
structure wK where
 s:Int
 n:Int
 a:Int
 b:Int
def kn:Sh wK where
 n:=4
 R _ cs v:=cs=[.int .i64 v.s,.int .i64 v.n,.int .i64 v.a,.int .i64 v.b]
 len:=by rintro h cs x rfl;rfl
 one:=by rintro h cs x rfl;rfl
 tys:=[]
 mono:=fun _ q=>q
def gN(t:Nat):ByteArray:=aM [116,aXC t]
def Ei(t:Nat)(ws:List Wd):List Wd:=wd [105,110,115,101,114,116]::wd [105,110,116,111]::wd [116,aXC t]::wd [118,97,108,117,101,115]::Ax 40::ws
theorem cH.xY{t:Nat}(ht:t<3){r:By}{ws:List Wd}(h:cH r ws):cH (xY t++r) (Ei t ws):=by
 match t,ht with
 |0,_=>exact cH.name [110,115,101,114,116] rfl rfl rfl (cH.sp (cH.name [110,116,111] rfl rfl rfl (cH.sp (cH.name [97] rfl rfl rfl (cH.sp (cH.name [97,108,117,101,115] rfl rfl rfl (cH.sp (cH.sign rfl (by decide) (by decide) h))))))))
 |1,_=>exact cH.name [110,115,101,114,116] rfl rfl rfl (cH.sp (cH.name [110,116,111] rfl rfl rfl (cH.sp (cH.name [98] rfl rfl rfl (cH.sp (cH.name [97,108,117,101,115] rfl rfl rfl (cH.sp (cH.sign rfl (by decide) (by decide) h))))))))
 |2,_=>exact cH.name [110,115,101,114,116] rfl rfl rfl (cH.sp (cH.name [110,116,111] rfl rfl rfl (cH.sp (cH.name [99] rfl rfl rfl (cH.sp (cH.name [97,108,117,101,115] rfl rfl rfl (cH.sp (cH.sign rfl (by decide) (by decide) h))))))))
def tV(t:Nat)(es:List (List Nd)):aJ:={ kind:=3,table:=gN t,exprs:=es }
theorem hZo{t:Nat}(ht:t<3)(a:Int)(x:By):rD ao (Ei t [ur a,Ax 44,dQR x,Ax 41]++[oH])=(tV t [[lit (iN a)],[lit (iT x)]],0):=by
 match t,ht with
 |0,_=>show _=_;kernel_rfl
 |1,_=>show _=_;kernel_rfl
 |2,_=>show _=_;kernel_rfl
theorem hZn{t:Nat}(ht:t<3)(a b:Int):rD ao (Ei t [ur a,Ax 43,ur b,Ax 44,wd [110,117,108,108],Ax 41]++[oH])=(tV t [[lit (iN a),lit (iN b),bin 14 0 1],[lit v0]],0):=by
 match t,ht with
 |0,_=>show _=_;kernel_rfl
 |1,_=>show _=_;kernel_rfl
 |2,_=>show _=_;kernel_rfl
theorem Kz{t:Nat}{es:List (List Nd)}(h:∀e∈es,iY e)(hl:es.length<=6):dr (tV t es):=
 ⟨fun n hn=>(by cases hn),fun n hn=>(by cases hn),h,fun i hi=>(by cases hi),by show es.length<=_;omega,fun hk=>absurd hk (by show ¬(3:Int)=4;decide),iX,iX,mQr _,mQr _⟩
theorem aQY{a b c:Int}(hn:eD 14 a b=some (iN c)):bS [[lit (iN a),lit (iN b),bin 14 0 1],[lit v0]] [] []=([iN c,v0],0):=by
 have hk:jv [lit (iN a),lit (iN b),bin 14 0 1] []=(2,0):=by
  have e:eK [] [lit (iN a),lit (iN b),bin 14 0 1] []=eK [] [bin 14 0 1] [2,2]:=by rw[gP,pK,np];show eK [] (lit (iN b)::[bin 14 0 1]) [2]=_;rw[gP,pK,np];rfl
  unfold jv;rw[if_neg (by simp),e];have e2:eK [] [bin 14 0 1] [2,2]=([2,2,2],0):=by kernel_rfl
  rw[e2];rfl
 have e1:gM [] [] [lit (iN a),lit (iN b),bin 14 0 1] []=match eD 14 a b with
  |some v=>some [iN a,iN b,v]
  |none=>none:=by kernel_rfl
 have hv:eP [lit (iN a),lit (iN b),bin 14 0 1] [] []=(iN c,0):=by unfold eP;rw[hk,e1,hn];rfl
 unfold bS;rw[iG hv,iG (lC RY _ _)];rfl
def ud(n x y:Nat):Row:=if n<3 then [iN x,iT (118::dk y)]else [iN ((x:Int)+y),v0]
theorem bXR{n x y t:Nat}(hn:n<4)(hx:x<1000)(hy:y<1000)(ht:t<3):∃es,cL ao (aM (AH n x y t))=(tV t es,0)/\bJ (aM (AH n x y t))=true/\dr (tV t es)/\bS es [] []=(ud n x y,0):=by
 have hl:(xY t).length=23:=rfl;have lx:=nL x hx;have ly:=nL y hy;have nn:∀(v:cO),kM v->iY [lit v]:=fun v hv n hn=>by
  rcases mQs.1 hn with rfl|hn
  ·exact rJ hv
  ·cases hn
 have key:∀ {r:By} {ws:List Wd} {st:aJ},r.length<=100->cH r ws->rD ao (Ei t ws++[oH])=(st,0)->cL ao (aM (xY t++r))=(st,0)/\bJ (aM (xY t++r))=true:=fun{r ws st} hr h hs=>by
  have hw:iq (aM (xY t++r))=(Ei t ws++[oH],0):=wW (by rw[ep,nX];omega) (show cH (xY t++r) (Ei t ws)from cH.xY ht h);refine⟨(xy hw).trans hs,?_⟩;unfold bJ;rw[hw];rfl
 by_cases h3:n<3
 ·have e1:AH n x y t=xY t++(dk x++(44::32::(DZ (118::dk y)++[41]))):=by
   have hq:Dx (dk y)=dk y:=by
    have:∀l:By,l.all fq=true->Dx l=l:=fun l=>by
     induction l with
     |nil=>intro _;rfl
     |cons c l ih=>intro h;rw[mXS,mQG]at h;have:=Nk h.1;show(if c.toNat=39 then _ else _)=_;rw[if_neg (by omega),ih h.2]
    exact this _ (QK y)
   have cKf:Dx (118::dk y)=118::dk y:=by show(if(118:UInt8).toNat=39 then _ else 118::Dx (dk y))=_;rw[if_neg (by decide),hq]
   unfold AH;rw[if_pos h3];unfold DZ;rw[cKf];simp
  have jXf:(118::dk y:By).length<=60:=by simp only[mQx];omega
  obtain⟨h1,h2⟩:=key (r:=dk x++(44::32::(DZ (118::dk y)++[41]))) (by
   have:=Mb (118::dk y);simp only[DZ,nX,mQx,mQK]at this |-;omega) (cH.cXV x (by omega) rfl (cH.comma (DY jXf rfl cH.close))) (hZo ht x (118::dk y))
  rw[e1];refine⟨_,h1,h2,Kz (by simpa using ⟨nn _ (vZ (by omega)),nn _ (HQ _)⟩) (by simp),?_⟩;unfold ud;rw[if_pos h3];exact Bw (np x) (xd jXf)
 ·have e1:AH n x y t=xY t++(dk x++(32::43::32::(dk y++(44::32::([110,117,108,108]++[41]))))):=by unfold AH;rw[if_neg h3];simp
  obtain⟨h1,h2⟩:=key (r:=dk x++(32::43::32::(dk y++(44::32::([110,117,108,108]++[41]))))) (by
   simp only[nX,mQx,mQK];omega) (cH.cXV x (by omega) rfl (cH.sp (cH.sign rfl (by decide) (by decide) (cH.sp (cH.cXV y (by omega) rfl (cH.comma (Mh rfl cH.close))))))) (hZn ht x y)
  rw[e1];have hn:eD 14 x y=some (iN ((x:Int)+y)):=by unfold eD;rw[if_neg (by decide),if_pos rfl];unfold xK;rw[if_pos (jP.2 (by omega))];rfl
  refine⟨_,h1,h2,Kz ?_ (by simp),?_⟩
  ·intro e he;rcases mQs.1 he with rfl|he
   ·intro n hn;simp only[mQs,mZY,or_false]at hn;rcases hn with rfl|rfl|rfl
    ·exact rJ (vZ (by omega))
    ·exact rJ (vZ (by omega))
    ·exact xN ..
   ·rcases mQs.1 he with rfl|he
    ·exact nn _ kA
    ·cases he
  ·unfold ud;rw[if_neg h3];exact aQY hn
theorem ZW{n x y:Nat}(hx:x<1000)(hy:y<1000):dg bp (ud n x y)=0/\fS (ud n x y):=by
 have ly:=nL y hy;unfold ud;split
 ·refine⟨zD (Un (by simp only[mQx];omega)),fun v hv=>?_⟩;rcases mQs.1 hv with rfl|hv
  ·exact vZ (by omega)
  ·rcases mQs.1 hv with rfl|hv
   ·exact HQ _
   ·cases hv
 ·refine⟨zD rfl,fun v hv=>?_⟩;rcases mQs.1 hv with rfl|hv
  ·exact vZ (by omega)
  ·rcases mQs.1 hv with rfl|hv
   ·exact kA
   ·cases hv
structure AJ(R:Nat->List Row)(log:List dV)(d:DB):Prop where
 az:d.az=[⟨aF 0,R 0⟩,⟨aF 1,R 1⟩,⟨aF 2,R 2⟩]
 aq:d.aq=[⟨0,log,[]⟩]
 holds:∀h∈d.holds,h.s=0
 waits:d.waits=[]
theorem AJ.hold{R:Nat->List Row}{log:List dV}{d:DB}(q:AJ R log d){t:Nat}(ht:t<3)(x:Bool):∃d',aL d ⟨0,gN t,x⟩=(d',0)/\AJ R log d':=by
 obtain⟨h1,h2,h3,h4⟩:=q;obtain⟨T,W,H,Wt⟩:=d;simp only at h1 h2 h3 h4;subst h1 h2 h4;have yT:Hw ⟨[⟨aF 0,R 0⟩,⟨aF 1,R 1⟩,⟨aF 2,R 2⟩],[⟨0,log,[]⟩],H,[]⟩ ⟨0,gN t,x⟩=true:=by
  match t,ht with
  |0,_=>show _=_;kernel_rfl
  |1,_=>show _=_;kernel_rfl
  |2,_=>show _=_;kernel_rfl
 have CH:H.any (eL ⟨0,gN t,x⟩)=false:=by rw[mJi];intro o ho;unfold eL;have:=h3 o ho;simp[this]
 have mO:bP H ⟨0,gN t,x⟩=true:=by unfold bP;rw[CH];simp
 have fV:∀o∈cV H ⟨0,gN t,x⟩,o.s=0:=by
  intro o ho;unfold cV at ho;rw[if_pos mO]at ho;split at ho
  ·exact h3 o ho
  ·split at ho
   ·rcases mXx ho with ho|rfl
    ·exact h3 o ho
    ·rfl
   ·rcases mQv.1 ho with ho|ho
    ·exact h3 o ho
    ·rw[mQA]at ho;subst ho;rfl
 refine⟨⟨[⟨aF 0,R 0⟩,⟨aF 1,R 1⟩,⟨aF 2,R 2⟩],[⟨0,log,[]⟩],cV H ⟨0,gN t,x⟩,[]⟩,?_,rfl,rfl,fV,rfl⟩;unfold aL;rw[if_pos yT];show jK (H.length+1) _ _=_;unfold jK;rw[if_pos mO];have:df H [] ⟨0,gN t,x⟩=[]:=by unfold df;rw[if_pos mO];rfl
 simp only[this]
theorem AJ.held{R:Nat->List Row}{log:List dV}{d:DB}(q:AJ R log d){t:Nat}(ht:t<3):cI d (gN t)=⟨aF t,R t⟩:=by
 have h:cI d (gN t)=(([⟨aF 0,R 0⟩,⟨aF 1,R 1⟩,⟨aF 2,R 2⟩]:List cW).find? fun x=>decide (x.S.name=gN t)).getD ⟨⟨b0,[],0,false⟩,[]⟩:=by unfold cI;rw[q.az]
 rw[h]
 match t,ht with
 |0,_=>show _=_;kernel_rfl
 |1,_=>show _=_;kernel_rfl
 |2,_=>show _=_;kernel_rfl
theorem AJ.dXw{R:Nat->List Row}{log:List dV}{d:DB}(q:AJ R log d){t:Nat}(ht:t<3):di (aQ d.az (gN t))=t/\d.az[t]? =some ⟨aF t,R t⟩:=by
 rw[q.az]
 match t,ht with
 |0,_=>exact⟨by kernel_rfl,rfl⟩
 |1,_=>exact⟨by kernel_rfl,rfl⟩
 |2,_=>exact⟨by kernel_rfl,rfl⟩
def OG(R:Nat->List Row)(t:Nat)(X:List Row):Nat->List Row:=fun j=>if j=t then X else R j
theorem AJ.put{R:Nat->List Row}{log:List dV}{d:DB}(q:AJ R log d){t:Nat}(ht:t<3)(r:Row):∃d' e,fF d 0 (gN t) r=(d',e)/\(e≠0->AJ R log d')/\(e=0->AJ (OG R t (bK ⟨aF t,R t⟩ r).1.rows) (log++[⟨gN t,1,r⟩]) d'/\(bK ⟨aF t,R t⟩ r).2=0):=by
 obtain⟨d1,hd,q1⟩:=q.hold ht true;obtain⟨ti,tg⟩:=q1.dXw ht;have hw:bQ d1.aq 0=bQ [⟨0,log,[]⟩] 0:=by rw[q1.aq]
 have aKg:di (bQ d1.aq 0)=0:=by rw[hw];kernel_rfl
 have dJH:d1.aq[0]? =some ⟨0,log,[]⟩:=by rw[q1.aq];rfl
 have h1:fF d 0 (gN t) r=(if decide ((aL d ⟨0,gN t,true⟩).2≠0)=true then aL d ⟨0,gN t,true⟩
  else match (aL d ⟨0,gN t,true⟩).1.az[di (aQ (aL d ⟨0,gN t,true⟩).1.az (gN t))]?,(aL d ⟨0,gN t,true⟩).1.aq[di (bQ (aL d ⟨0,gN t,true⟩).1.aq 0)]? with
  |some x,some w=>
   if decide ((dK r x).2.2≠19)&&decide ((w.log.length:Int)>=60)then((aL d ⟨0,gN t,true⟩).1,4)
   else if decide ((dK r x).2.2=0)=true then
    (⟨(aL d ⟨0,gN t,true⟩).1.az.set (di (aQ (aL d ⟨0,gN t,true⟩).1.az (gN t))) (dK r x).1,(aL d ⟨0,gN t,true⟩).1.aq.set (di (bQ (aL d ⟨0,gN t,true⟩).1.aq 0)) ⟨w.s,w.log++[⟨gN t,(dK r x).2.1.op,(dK r x).2.1.row⟩],w.marks⟩,(aL d ⟨0,gN t,true⟩).1.holds,(aL d ⟨0,gN t,true⟩).1.waits⟩,0)
   else((aL d ⟨0,gN t,true⟩).1,(dK r x).2.2)
  |_,_=>aL d ⟨0,gN t,true⟩):=rfl
 rw[hd]at h1;simp only[ti,tg,aKg,dJH,ne_eq,not_true_eq_false,decide_false,mXY,if_false]at h1;obtain⟨P,hP⟩:∃P,bK ⟨aF t,R t⟩ r=P:=⟨_,rfl⟩;have Gm:dK r ⟨aF t,R t⟩=(P.1,⟨jb,1,r⟩,P.2):=by unfold dK;rw[hP]
 have iZe:P.1.S=aF t:=by
  rw[<-hP];unfold bK;split
  ·rfl
  ·split
   ·rfl
   ·split<;>rfl
 rw[Gm]at h1;obtain⟨⟨PS,PR⟩,pe⟩:=P;have iZe:PS=aF t:=iZe;subst iZe;rw[hP];simp only at h1;split at h1
 ·exact⟨_,_,h1,fun _=>q1,fun e=>absurd e (by decide)⟩
 ·split at h1
  ·rename_i h0;have h0:pe=0:=mQB h0;refine⟨_,_,h1,fun e=>absurd rfl e,fun _=>⟨⟨?_,?_,q1.holds,q1.waits⟩,h0⟩⟩
   ·rw[q1.az]
    match t,ht with
    |0,_=>rfl
    |1,_=>rfl
    |2,_=>rfl
   ·rw[q1.aq];rfl
  ·rename_i h0;have h0:pe≠0:=fun e=>h0 (kS e);exact⟨_,_,h1,fun _=>q1,fun e=>absurd e h0⟩
theorem eQJ(d:DB)(t:Nat)(es:List (List Nd)):iD d 0 (tV t es)=match aL d ⟨0,gN t,true⟩with
 | (d,e)=>if e≠0 then(d,[],e)else cP d (match bS es [] []with
  | (r,e)=>if e≠0 then(d,e)else fF d 0 (gN t) r):=rfl
def kL(r:Row):Prop:=∃(a:Int) (v:cO),r=[iN a,v]/\0<=a/\a<2000/\(v=v0\/∃x,v=iT x/\x.length<=10)
theorem bXS{n x y:Nat}(hx:x<1000)(hy:y<1000):kL (ud n x y):=by
 have ly:=nL y hy;unfold ud;split
 ·exact⟨_,_,rfl,by omega,by omega,.inr ⟨_,rfl,by simp only[mQx];omega⟩⟩
 ·exact⟨_,_,rfl,by omega,by omega,.inl rfl⟩
structure AL(m:Nat)(R:Nat->List Row)(log:List dV)(d:DB):Prop where
 aj:AJ R log d
 ej:EJ (2*m) d
 rp:∀t,t<3->∀r∈R t,kL r
 ln:(R 0).length+(R 1).length+(R 2).length=log.length
 le:log.length<=m
theorem XC{S:FR}{R:List Row}{r:Row}(h:(bK ⟨S,R⟩ r).2=0):∃i,(bK ⟨S,R⟩ r).1.rows=R.take i++[r]++R.drop i:=by
 unfold bK at h |-;split at h
 ·rename_i h1;exact absurd h (mQB h1)
 ·rename_i h1;rw[if_neg h1];split at h
  ·cases h
  ·rename_i h2;rw[if_neg h2];split at h
   ·cases h
   ·rename_i h3;rw[if_neg h3];exact⟨_,rfl⟩
theorem AL.step{m:Nat}{R:Nat->List Row}{log:List dV}{d:DB}(q:AL m R log d)(hm:m<=100){n x y t:Nat}(hx:x<1000)(hy:y<1000)(ht:t<3){es:List (List Nd)}(hv:bS es [] []=(ud n x y,0)):∃R' vC,AL (m+1) R' vC (iD d 0 (tV t es)).1:=by
 obtain⟨d1,hd,q1⟩:=q.aj.hold ht true;have WH:EJ (2*m+1) d1:=by have:=q.ej.hold ⟨0,gN t,true⟩ (by show(-2^63:Int)<=0/\(0:Int)<2^63;decide);rw[hd]at this;exact this
 obtain⟨hf,hr⟩:=ZW (n:=n) hx hy;have Jy:=bXS (n:=n) hx hy;generalize ud n x y=r at *;obtain⟨d2,e,hp,p1,p2⟩:=q1.put ht r;have eQG:EJ (2*m+2) d2:=by have:=WH.put (s:=0) (gN t) (by decide) hr;rw[hp]at this;exact this
 have hD:iD d 0 (tV t es)=cP d1 (d2,e):=by rw[eQJ,hd,hv];show cP d1 (fF d1 0 (gN t) r)=_;rw[hp]
 rw[hD];unfold cP;by_cases he:e≠0
 ·rw[if_pos he];exact⟨R,log,q1,WH.le (by omega),q.rp,q.ln,by have:=q.le;omega⟩
 ·rw[if_neg he];have he:e=0:=mQW.1 he;obtain⟨g1,g2⟩:=p2 he;obtain⟨i,hi⟩:=XC g2;have hl:(bK ⟨aF t,R t⟩ r).1.rows.length=(R t).length+1:=by rw[hi];simp only[nX,mQw,mQX,mQx,mQK];omega
  refine⟨_,_,g1,eQG.le (by omega),?_,?_,by have:=q.le;simp only[nX,mQx,mQK];omega⟩
  ·intro j hj r' uj;unfold OG at uj;split at uj
   ·rename_i e;subst e;rw[hi]at uj;rcases mQv.1 uj with uj|uj
    ·rcases mQv.1 uj with uj|uj
     ·exact q.rp j hj r' (mXN uj)
     ·rw[mQA]at uj;subst uj;exact Jy
    ·exact q.rp j hj r' (mXU uj)
   ·exact q.rp j hj r' uj
  ·have:=q.ln;simp only[nX,mQx,mQK];unfold OG
   match t,ht with
   |0,_=>simp only[if_true,hl];simp;omega
   |1,_=>simp only[if_true,hl];simp;omega
   |2,_=>simp only[if_true,hl];simp;omega
theorem AL.start:AL 0 (fun _=>[]) [] Cn:=⟨⟨by kernel_rfl,by kernel_rfl,(fun h hh=>by cases hh),by kernel_rfl⟩,ME,(fun t _ r hr=>by cases hr),rfl,mQt _⟩
structure gKW where
 b1:Option Addr
 n1:Nat
 c1:Nat
 b2:Option Addr
 n2:Nat
 c2:Nat
 b3:Option Addr
 n3:Nat
 c3:Nat
 b4:Option Addr
 n4:Nat
 c4:Nat
def gKW.v(g:gKW):Value:=.agg #[.slice g.b1 g.n1 g.c1,.slice g.b2 g.n2 g.c2,.slice g.b3 g.n3 g.c3,.slice g.b4 g.n4 g.c4]
theorem eXt{xs:List wK}{h:ad}{b:Option Addr}{n c:Nat}(q:zW kn h (.slice b n c) xs){d0:DB}{be:Int}(hd:dy eY 0=(d0,be))(bQc:AL 0 (fun _=>[]) [] d0)
 {k:Value->ad->Prop} (hk:∀h' b1 n1 c1 b2 n2 c2 b3 n3 c3 b4 n4 c4 R log d,Le h h'->ik h' (.agg #[.slice b1 n1 c1,.slice b2 n2 c2,.slice b3 n3 c3,.slice b4 n4 c4]) d->AL 25 R log d->k (.agg #[.slice b1 n1 c1,.slice b2 n2 c2,.slice b3 n3 c3,.slice b4 n4 c4]) h'):
 Ct 18 [.slice b n c] h k:=by
 obtain⟨A,hA⟩:=Ar.ex;have hlen:=q.len;have sM:=q.bound;refine ah A (ax kQa.aK kQa.bF) Tryz.func18 rfl (by kernel_rfl) ?_;cbv;refine FZ (fun h2 b1 n1 c1 b2 n2 c2 b3 n3 c3 b4 n4 c4 d1 m1 e1 d2 m2 e2 d3 m3 e3 d4 m4 e4 l2 vh _=>?_);cbv;refine uX vh 0 (rE.sj.Ko.small (by decide)) hd (fun h3 b1 n1 c1 b2 n2 c2 b3 n3 c3 b4 n4 c4 l3 Hq=>?_);replace Hq:ik h3 (.agg #[.slice b1 n1 c1,.slice b2 n2 c2,.slice b3 n3 c3,.slice b4 n4 c4]) d0:=Hq;have rL:=l2.trans l3;clear hd vh l2 l3;obtain⟨I,aY⟩:∃I:Nat->Int×gKW->ad->Prop,∀m g h',I m g h'=∃i R log d,aS g.1 i/\i<=25/\i<=n/\m=25-i/\Le h h'/\ik h' g.2.v d/\AL i R log d:=⟨_,fun _ _ _=>rfl⟩;have hJ:I 25 (0,⟨b1,n1,c1,b2,n2,c2,b3,n3,c3,b4,n4,c4⟩) h3:=by rw[aY];exact⟨0,_,_,d0,⟨rfl⟩,by omega,mQr _,rfl,rL,Hq,bQc⟩
 clear Hq rL bQc;cbv;refine aX.go (G:=Int×gKW) (fun g=>[(5,.v (.int .i64 g.1))]) (fun g=>[(2,[.slice none 0 0,.slice none 0 0,.slice none 0 0,.slice none 0 0]),(3,[.slice g.2.b1 g.2.n1 g.2.c1,.slice g.2.b2 g.2.n2 g.2.c2,.slice g.2.b3 g.2.n3 g.2.c3,.slice g.2.b4 g.2.n4 g.2.c4]),(4,[.slice d1 m1 e1,.slice d2 m2 e2,.slice d3 m3 e3,.slice d4 m4 e4])]) (fun m g h'=>I m g h') 25 (0,⟨b1,n1,c1,b2,n2,c2,b3,n3,c3,b4,n4,c4⟩) ⟨?_,?_,?_⟩ hJ ?_
 ·cbv
 ·cbv
 ·cbv
 ·intro m g h4 hI;rw[aY]at hI;cbv;obtain⟨i,R,log,d,hz,kKw,fZ,hm,hl,qd,al⟩:=hI;obtain⟨z,a1,i1,j1,a2,i2,j2,a3,i3,j3,a4,i4,j4⟩:=g;replace hz:aS z i:=hz;replace qd:ik h4 (.agg #[.slice a1 i1 j1,.slice a2 i2 j2,.slice a3 i3 j3,.slice a4 i4 j4]) d:=qd;have f1:A .aI .lss z (A .nat n)=decide (i<n):=hz.iJ (aS.nat n);have f2:A .aI .lss z 25=decide (i<25):=by rw[bm A,decide_eq_decide];have:=hz.eq;omega
  have cZ:=hz.succ (A:=A) (by omega);have cN:=hz.eq;have hle:=al.le;have af:=hk h4 a1 i1 j1 a2 i2 j2 a3 i3 j3 a4 i4 j4 R log d hl qd ⟨al.aj,al.ej.le (by omega),al.rp,al.ln,by omega⟩;by_cases aP:i<n
  ·by_cases dKX:i<25
   ·obtain⟨x,hx⟩:=aE (xs:=xs) (i:=i) (by omega);obtain⟨hXY,xn,xa,xb⟩:=x;have cJ:b.isSome=true/\0<=z/\z<(n:Int):=⟨q.aT (by omega),hz.ix aP⟩;obtain⟨z2,dL⟩:∃z2,A .bB .add .i64 z 1=z2:=⟨_,rfl⟩;rw[dL]at cZ;have cD:∀h5 b1 n1 c1 b2 n2 c2 b3 n3 c3 b4 n4 c4 R' vC d',Le h4 h5->ik h5 (.agg #[.slice b1 n1 c1,.slice b2 n2 c2,.slice b3 n3 c3,.slice b4 n4 c4]) d'->AL (i+1) R' vC d'->I (25-(i+1)) (z2,⟨b1,n1,c1,b2,n2,c2,b3,n3,c3,b4,n4,c4⟩) h5:=fun h5 b1 n1 c1 b2 n2 c2 b3 n3 c3 b4 n4 c4 R' vC d' l q' gKV=>by
     rw[aY];exact⟨i+1,R',vC,d',cZ,dKX,aP,rfl,hl.trans l,q',gKV⟩
    have sH:25-(i+1)<m:=by omega
    obtain⟨es,ig,DC,gJI,hv⟩:=bXR (n:=(xn % 4).toNat) (x:=(xa % 30).toNat) (y:=(xb % 30).toNat) (t:=(xb % 3).toNat) (by omega) (by omega) (by omega) (by omega);obtain⟨R',vC,gKV⟩:=al.step (by omega) (n:=(xn % 4).toNat) (x:=(xa % 30).toNat) (y:=(xb % 30).toNat) (t:=(xb % 3).toNat) (by omega) (by omega) (by omega) hv;have ej:=al.ej;have jm:2*i+700<2^18:=by omega
    obtain⟨tx,Tj⟩:∃tx,tx=aM (AH (xn % 4).toNat (xa % 30).toNat (xb % 30).toNat (xb % 3).toNat):=⟨_,rfl⟩;have eZs:∀z4 m4,aS z4 m4->m4=(xn % ((4:Nat):Int)).toNat->m4<4->∀h {k:Value->ad->Prop},(∀h',Le h h'->k (.string tx) h')->Ct 37 [.int .i64 z4,.int .i64 xa,.int .i64 xb] h k:=fun z4 m4 h1 h2 h3 h k hk=>hZu h1 h3 xa xb h (fun h' l=>by
     have:=hk h' l;rw[Tj]at this;rw[h2];exact this)
    rw[<-Tj]at ig DC;clear Tj hv;have Gm:iE d 0 (tV (xb % 3).toNat es):=iE.no (by show(3:Int)≠6;decide) (by show(3:Int)≠4;decide) (by show(3:Int)≠5;decide);generalize tV (xb % 3).toNat es=st at *;rw[f1,kS aP];cbv;rw[f2,kS dKX];cbv;refine⟨cJ,?_⟩;cbv;refine(q.mono hl).vD hx cN (o:=1) (m:=1) (by decide) (fun cs ay ag=>?_);replace ay:cs=[.int .i64 hXY,.int .i64 xn,.int .i64 xa,.int .i64 xb]:=ay;subst ay;cbv;refine⟨cJ,?_⟩;cbv;refine(q.mono hl).vD hx cN (o:=2) (m:=1) (by decide) (fun cs ay dQy=>?_);replace ay:cs=[.int .i64 hXY,.int .i64 xn,.int .i64 xa,.int .i64 xb]:=ay;subst ay;cbv;refine⟨cJ,?_⟩;cbv;refine(q.mono hl).vD hx cN (o:=3) (m:=1) (by decide) (fun cs ay dQx=>?_);replace ay:cs=[.int .i64 hXY,.int .i64 xn,.int .i64 xa,.int .i64 xb]:=ay;subst ay;cbv;refine nk xn 4 (by decide) (by decide) h4 (fun z4 m4 cJU cKl cKr=>?_);cbv;refine dQx _ _ (Le.refl _) ?_;cbv;refine⟨⟨_,rfl,rfl⟩,?_⟩;cbv;refine dQy _ _ (Le.refl _) ?_;cbv;refine⟨⟨_,rfl,rfl⟩,?_⟩;cbv;refine eZs z4 m4 cJU cKl cKr h4 (fun h5 l5=>?_);cbv;refine UH DC ig (fun h6 w l6 qs=>?_);have eKi:=qs;obtain⟨b5,n5,c5,b6,n6,c6,b7,n7,c7,b8,n8,c8,b9,n9,c9,gW,jD,gT,hw,-⟩:=eKi.out;subst hw;replace qs:aQG h6 _ st:=qs;have Rx:=l5.trans l6;have Mc:=qd.mono Rx;clear ig DC ag dQy dQx eZs;cbv;refine iJL (s:=0) Mc gJI ej jm (by decide) Gm qs (fun h7 x1 u1 y1 x2 u2 y2 x3 u3 y3 x4 u4 y4 _ _ _ l7 gJd _=>?_);have jd:=cD h7 x1 u1 y1 x2 u2 y2 x3 u3 y3 x4 u4 y4 R' vC _ (Rx.trans l7) gJd gKV;generalize iD d 0 st=D at *;obtain⟨D1,DR,De⟩:=D;clear cD aY hJ hk af gJd gKV;cbv;rw[dL];refine⟨_,(_,_),sH,⟨?_,?_,?_⟩,jd⟩
    ·cbv
    ·cbv
    ·cbv
   ·rw[f1,kS aP];clear aY hJ hk;cbv;rw[f2,nM dKX];cbv;exact af
  ·rw[f1,nM aP];clear aY hJ hk;cbv;exact af
theorem vR{xs:List wK}{h:ad}{b:Option Addr}{n c:Nat}(q:zW kn h (.slice b n c) xs)
 {k:Value->ad->Prop} (hk:∀h' b1 n1 c1 b2 n2 c2 b3 n3 c3 b4 n4 c4 R log d,Le h h'->ik h' (.agg #[.slice b1 n1 c1,.slice b2 n2 c2,.slice b3 n3 c3,.slice b4 n4 c4]) d->AL 25 R log d->k (.agg #[.slice b1 n1 c1,.slice b2 n2 c2,.slice b3 n3 c3,.slice b4 n4 c4]) h'):
 Ct 18 [.slice b n c] h k:=eXt q (d0:=Cn) (be:=(dy eY 0).2) rfl AL.start hk
theorem DW{X:List Row}{h:ad}{b1 b2:Option Addr}{n1 c1 n2 c2:Nat}(q1:Sl 59 aD h (.slice b1 n1 c1) X)(q2:Sl 59 aD h (.slice b2 n2 c2) X){k:Value->ad->Prop}(hk:k (.bool true) h):
 Ct 21 [.slice b1 n1 c1,.slice b2 n2 c2] h k:=by
 obtain⟨A,hA⟩:=Ar.ex;have e1:=q1.len;have e2:=q2.len;have hb:=q1.bound.1;have dKf:n2=n1:=by omega
 subst dKf;have zd:A .not true=false:=by rw[hA.not];rfl
 have iJh:A .aI .neq (A .nat n2) (A .nat n2)=false:=by rw[aC A];simp
 obtain⟨I,aY⟩:∃I:Nat->Int->ad->Prop,∀m g h',I m g h'=∃j,aS g j/\m=n2-j/\j<=n2/\h'=h:=⟨_,fun _ _ _=>rfl⟩;have hJ:I n2 0 h:=by rw[aY];exact⟨0,⟨rfl⟩,rfl,mQr _,rfl⟩
 refine ah A (ax jKY.aK jKY.bF) Tryz.func21 rfl (by kernel_rfl) ?_;cbv;rw[iJh];cbv;refine aX.go (G:=Int) (fun g=>[(5,.v (.int .i64 g))]) (fun _=>[]) (fun m g h'=>I m g h') n2 0 ⟨?_,?_,?_⟩ hJ ?_
 ·cbv
 ·cbv
 ·cbv
 ·intro m z h' hI;rw[aY]at hI;cbv;obtain⟨j,hz,hm,hj,rfl⟩:=hI;have f1:A .aI .lss z (A .nat n2)=decide (j<n2):=hz.iJ (aS.nat n2);rw[f1];by_cases aP:j<n2
  ·obtain⟨x,hx⟩:=aE (xs:=X) (i:=j) (by omega);have rQ:b1.isSome=true/\0<=z/\z<(n2:Int):=⟨q1.aT (by omega),hz.ix aP⟩;have jo:b2.isSome=true/\0<=z/\z<(n2:Int):=⟨q2.aT (by omega),hz.ix aP⟩;have cN:=hz.eq;have cZ:=hz.succ (A:=A) (by omega);obtain⟨z2,dL⟩:∃z2,A .bB .add .i64 z 1=z2:=⟨_,rfl⟩;rw[dL]at cZ;have cD:I (n2-(j+1)) z2 h':=by rw[aY];exact⟨j+1,cZ,rfl,aP,rfl⟩
   have iV:n2-(j+1)<m:=by omega
   clear aY hJ hk;rw[kS aP];cbv;refine⟨rQ,?_⟩;cbv;refine bZ q1 hx cN (fun x1 m1 k1 s1=>?_);cbv;refine⟨jo,?_⟩;cbv;refine bZ q2 hx cN (fun x2 m2 k2 s2=>?_);cbv;refine Hg s1 s2 ?_;cbv;rw[zd];cbv;rw[dL];refine⟨_,_,iV,⟨?_,?_,?_⟩,cD⟩
   ·cbv
   ·cbv
   ·cbv
  ·rw[nM aP];clear aY hJ;cbv;exact hk
def aZ:List cK:=aR (dZ 0)
theorem bQW(t:Nat)(X:List Row):aR ⟨aF t,X⟩=aR (dZ t):=rfl
theorem KZ(t:Nat)(X:List Row)(st:aJ):mR ⟨aF t,X⟩ st=mR (dZ t) st:=rfl
theorem DU{R:Nat->List Row}{log:List dV}{d:DB}(q:AJ R log d){st:aJ}(ht:st.table=gN 0)(hj:st.join=b0):gI (fH 0 (cQ st) d).1 st=aZ:=by
 obtain⟨d1,hd,q1⟩:=q.hold (t:=0) (by decide) false;have h1:(fH 0 (cQ st) d).1=d1:=by
  unfold cQ;rw[if_pos hj,ht];show(match aL d ⟨0,gN 0,false⟩with
   | (d',e)=>if e≠0 then(d',e)else(d',0):DB×Int).1=d1
  rw[hd];rfl
 rw[h1];unfold gI;rw[if_pos hj,ht,q1.held (by decide),mQF];rfl
theorem LW{R:Nat->List Row}{log:List dV}{d:DB}(q:AJ R log d){st:aJ}(h6:st.kind=6)(ht:st.table=gN 0)(hj:st.join=b0):∃d1,AJ R log d1/\iD d 0 st=match jI st aZ (R 0) [[]]with
 | (l,e)=>(d1,l,e):=by
 obtain⟨d1,hd,q1⟩:=q.hold (t:=0) (by decide) false;refine⟨d1,q1,?_⟩;have h1:iD d 0 st=gH d 0 st:=by unfold iD;rw[if_neg (by rw[h6];decide),if_neg (by rw[h6];decide),if_neg (by rw[h6];decide),if_neg (by rw[h6];decide),if_neg (by rw[h6];decide),if_neg (by rw[h6];decide),if_neg (by rw[h6];decide),if_pos h6]
 rw[h1];unfold gH;rw[if_neg (by rw[hj,ht];decide),ht,hd];show(if st.join=b0 then _ else _)=_;rw[if_pos hj];have h2:=q1.held (t:=0) (by decide);rw[h2];rfl
theorem ux(x y:Int):bC (iN x) (iN y)=eR x y:=by
 unfold bC;have h1:eR (iN x).k (iN y).k=0:=rfl;have h2:eC (iN x).s (iN y).s=0:=by kernel_rfl
 rw[h1,h2];show(if decide ((0:Int)≠0)=true then 0 else if decide (eR x y≠0)=true then eR x y else if decide ((0:Int)≠0)=true then 0 else 0)=_;by_cases h:eR x y=0
 ·simp[h]
 ·simp[h]
def aN(r:Row):Int:=(r.headD v0).n
def jn(a:Row)(bs:List Row):List Row:=(bs.filter fun b=>decide (aN a<=aN b)).map (a++·)
theorem AP{x:aJ}(hi:x.items.length=0)(cols:List cK):∀(rows out:List Row),eZ x cols rows out=(out++rows,0)
 | [],out=>by simp[eZ]
 |r::rows,out=>by
  unfold eZ;rw[if_pos hi,AP hi cols rows];simp
end Go.S
