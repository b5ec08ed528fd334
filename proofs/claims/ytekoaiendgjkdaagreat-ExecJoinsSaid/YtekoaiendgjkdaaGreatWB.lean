import Derived.Test.YtekoaiendgjkdaaGreatWA
import Derived.Test.YtekoaiendgjkdaaGreatQA
import Derived.Test.YtekoaiendgjkdaaGreatI2a
import Derived.Test.YtekoaiendgjkdaaGreatGB
import Derived.Test.YtekoaiendgjkdaaGreatQF
set_option linter.unusedVariables false
set_option linter.unusedSimpArgs false
set_option linter.unusedSectionVars false
set_option maxRecDepth 100000
set_option maxHeartbeats 8000000
namespace Go.S
open Go.Sx Go.Proofs
theorem mi(a:Int)(n:Nat)(hn:0<n)(nN:n<=2^40)(h:ad){k:Value->ad->Prop}(hk:∀z i,aS z i->i=(a % (n:Int)).toNat->i<n->k (.int .i64 z) h):Ct 75 [.int .i64 a,.int .i64 (n:Int)] h k:=by
 obtain⟨A,hA⟩:=Ar.ex;obtain⟨m,hm⟩:∃m:Int,m=(n:Int):=⟨_,rfl⟩;rw[<-hm];have KW:m≠0:=by omega
 have DU:A .bA .rem .i64 a m=a.tmod m:=by rw[hA.bA];rfl
 have ll:a.tmod m<m:=by have:=Int.tmod_lt_of_pos a (show 0<m by omega);omega
 have jS:-m<a.tmod m:=by have:=Int.lt_tmod_of_pos a (show 0<m by omega);omega
 have BU:a % m=if a.tmod m<0 then a.tmod m+m else a.tmod m:=by
  rw[Int.tmod_eq_emod];have h1:=Int.emod_nonneg a KW;have h2:=Int.emod_lt_of_pos a (show 0<m by omega);by_cases hc:0<=a\/m ∣ a
  ·rw[if_pos hc];rw[if_neg (by omega)];omega
  ·rw[if_neg hc];have:(m.natAbs:Int)=m:=by omega
   rw[this,if_pos (by omega)];omega
 generalize ht:a.tmod m=t at *;generalize eu:A .aG .lss t 0=u;have fu:=eu;rw[bE A]at eu;have key:∀z:Int,z=a % m->k (.int .i64 z) h:=fun z hz=>by
  have h1:=Int.emod_nonneg a KW;have h2:=Int.emod_lt_of_pos a (show 0<m by omega);refine hk z (a % (n:Int)).toNat ⟨?_⟩ rfl ?_
  ·rw[<-hm];omega
  ·rw[<-hm];omega
 have rJ:t<0->A .bA .add .i64 t m=t+m:=fun h=>by
  rw[hA.bA];simp only[bA];rw[IntWalk.i64_in _ (by omega)]
 refine ah A (ar T75.aA T75.bm) Tryz.func75 rfl (by kernel_rfl) ?_;cbv;refine⟨KW,?_⟩;cbv;rw[DU];rw[fu];cases u with
 |true=>have Ae:=of_decide_eq_true eu;have nh:=key (t+m) (by rw[BU,if_pos Ae]);cbv;rw[rJ Ae];exact nh
 |false=>have Ae:=of_decide_eq_false eu;have nh:=key t (by rw[BU,if_neg Ae]);cbv;exact nh
def Ja(t:Nat):UInt8:=UInt8.ofNat (97+t)
def oI(t:Nat):By:=[105,110,115,101,114,116,32,105,110,116,111,32,116]++(Ja t::[32,118,97,108,117,101,115,32,40])
def pT(n x y t:Nat):By:=oI t++(if n<3 then cj x++([44,32,39,118]++(cj y++[39,41]))else cj x++([32,43,32]++(cj y++[44,32,110,117,108,108,41])))
def NL:List ByteArray:=[ax [116,97],ax [116,98],ax [116,99]]
theorem I9{t:Nat}{s:ByteArray}(h:NL[t]? =some s):s=ax [116,Ja t]:=by
 match t with
 |0=>cases h;rfl
 |1=>cases h;rfl
 |2=>cases h;rfl
 |t+3=>cases h
def So:List ByteArray:=[ax [116,98],ax [116,99],ax [116,97]]
theorem sqlK{n:Nat}{zn:Int}(hn:aS zn n)(hn4:n<4)(a b:Int)(h:ad){k:Value->ad->Prop}(hk:∀h',Le h h'->k (.string (ax (pT n (a % 30).toNat (b % 30).toNat (b % 3).toNat))) h'):Ct 37 [.int .i64 zn,.int .i64 a,.int .i64 b] h k:=by
 obtain⟨A,hA⟩:=Ar.ex;refine ah A (ar T37.aA T37.bm) Tryz.func37 rfl (by kernel_rfl) ?_;cbv;intro nb1 h1 f1 e1;have l1:Le h h1:=by rw[e1];exact Le.set f1
 have s1:Sl 9 cB h1 (.slice (some ⟨nb1,0,none⟩) 3 3) NL:=qS (l:=NL) ((congrFun e1 nb1).trans af) (by decide);clear e1;cbv;refine mi b 3 (by decide) (by decide) h1 (fun zt1 t1 mJ Q4 AO=>?_);have rI:0<=zt1/\zt1<((3:Nat):Int):=mJ.ix AO;obtain⟨nm,yE⟩:=aI (xs:=NL) (i:=t1) AO;have hze1:=mJ.eq;cbv;refine⟨⟨rfl,rI⟩,?_⟩;cbv;refine s1.load yE hze1 (fun cs aC=>?_);replace aC:cs=[.string nm]:=aC;subst aC;cbv;intro xd h2 f2 e2;have l2:Le h1 h2:=by rw[e2];exact Le.set f2
 have s2:Sl 9 cB h2 (.slice (some ⟨xd,0,none⟩) 3 3) So:=qS (l:=So) ((congrFun e2 xd).trans af) (by decide);clear e2;cbv;refine mi b 3 (by decide) (by decide) h2 (fun zt2 t2 fN Zj tO=>?_);have kW:0<=zt2/\zt2<((3:Nat):Int):=fN.ix tO;obtain⟨un,hun⟩:=aI (xs:=So) (i:=t2) tO;have hze2:=fN.eq;cbv;refine⟨⟨rfl,kW⟩,?_⟩;cbv;refine s2.load hun hze2 (fun cs aC=>?_);replace aC:cs=[.string un]:=aC;subst aC;cbv;refine mi a 30 (by decide) (by decide) h2 (fun zx x hzx hx hlx=>?_);have Y1:zx=(x:Int):=hzx.eq;cbv;refine wF x zx Y1 (by omega) h2 (fun h3 l3=>?_);obtain⟨xs,uK⟩:∃xs,ax (cj x)=xs:=⟨_,rfl⟩;rw[uK];cbv;refine mi b 30 (by decide) (by decide) h3 (fun zy y hzy hy hly=>?_);have Y0:zy=(y:Int):=hzy.eq;cbv;refine wF y zy Y0 (by omega) h3 (fun h4 l4=>?_);obtain⟨ys,Ib⟩:∃ys,ax (cj y)=ys:=⟨_,rfl⟩;rw[Ib];have zxs:xs.size<=3:=by rw[<-uK,dn];exact lF x (by omega)
 have zys:ys.size<=3:=by rw[<-Ib,dn];exact lF y (by omega)
 have UU:=I9 yE;have znm:nm.size=2:=by rw[UU];rfl
 have IA:∀a b:ByteArray,(A .cat a b).size=a.size+b.size:=fun a b=>Cv a b;obtain⟨w1,tL⟩:∃c,A .cat ⟨#[32,119,104,101,114,101,32,97,32,61,32]⟩ xs=c:=⟨_,rfl⟩;obtain⟨w2,pN⟩:∃c,A .cat ⟨#[32,119,104,101,114,101,32,97,32,62,32]⟩ xs=c:=⟨_,rfl⟩;obtain⟨w3,UA⟩:∃c,A .cat w2 ⟨#[32,97,110,100,32,98,32,105,115,32,110,117,108,108]⟩=c:=⟨_,rfl⟩;obtain⟨w4,hw4⟩:∃c,A .cat ⟨#[32,119,104,101,114,101,32,110,111,116,32,40,97,32,60,32]⟩ xs=c:=⟨_,rfl⟩;obtain⟨w5,hw5⟩:∃c,A .cat w4 ⟨#[41,32,111,114,32,98,32,61,32,39,99,39]⟩=c:=⟨_,rfl⟩;obtain⟨w6,QY⟩:∃c,A .cat ⟨#[32,119,104,101,114,101,32,97,32,43,32,49,32,60,61,32]⟩ xs=c:=⟨_,rfl⟩;obtain⟨w7,hw7⟩:∃c,A .cat w6 ⟨#[32,42,32,50]⟩=c:=⟨_,rfl⟩;have yw1:((11+xs.size:Nat):Int)<=2^62:=by omega
 have zw1:w1.size=11+xs.size:=by rw[<-tL,IA];rfl
 have yw2:((11+xs.size:Nat):Int)<=2^62:=by omega
 have zw2:w2.size=11+xs.size:=by rw[<-pN,IA];rfl
 have yw3:((w2.size+14:Nat):Int)<=2^62:=by omega
 have yw4:((16+xs.size:Nat):Int)<=2^62:=by omega
 have zw4:w4.size=16+xs.size:=by rw[<-hw4,IA];rfl
 have yw5:((w4.size+12:Nat):Int)<=2^62:=by omega
 have yw6:((16+xs.size:Nat):Int)<=2^62:=by omega
 have zw6:w6.size=16+xs.size:=by rw[<-QY,IA];rfl
 have yw7:((w6.size+4:Nat):Int)<=2^62:=by omega
 obtain⟨WL,hWL⟩:∃WL:List ByteArray,WL=[⟨#[]⟩,w1,w3,w5,w7,⟨#[32,119,104,101,114,101,32,98,32,60,32,39,100,39]⟩]:=⟨_,rfl⟩;have hq:A .bA .quo .i64 a 7=A .bA .quo .i64 a 7:=rfl;obtain⟨zq,hzq⟩:∃zq,A .bA .quo .i64 a 7=zq:=⟨_,rfl⟩;obtain⟨q1,Hf⟩:∃c,A .cat ⟨#[105,110,115,101,114,116,32,105,110,116,111,32]⟩ nm=c:=⟨_,rfl⟩;obtain⟨q2,Rb⟩:∃c,A .cat q1 ⟨#[32,118,97,108,117,101,115,32,40]⟩=c:=⟨_,rfl⟩;obtain⟨q3,MS⟩:∃c,A .cat q2 xs=c:=⟨_,rfl⟩;obtain⟨q4,Zt⟩:∃c,A .cat q3 ⟨#[44,32,39,118]⟩=c:=⟨_,rfl⟩;obtain⟨q5,Ra⟩:∃c,A .cat q4 ys=c:=⟨_,rfl⟩;obtain⟨q6,Zs⟩:∃c,A .cat q5 ⟨#[39,41]⟩=c:=⟨_,rfl⟩;obtain⟨r4,hr4⟩:∃c,A .cat q3 ⟨#[32,43,32]⟩=c:=⟨_,rfl⟩;obtain⟨r5,Zr⟩:∃c,A .cat r4 ys=c:=⟨_,rfl⟩;obtain⟨r6,hr6⟩:∃c,A .cat r5 ⟨#[44,32,110,117,108,108,41]⟩=c:=⟨_,rfl⟩;have zq1:q1.size=12+nm.size:=by rw[<-Hf,IA]<;>rfl
 have zq2:q2.size=q1.size+9:=by rw[<-Rb,IA]<;>rfl
 have zq3:q3.size=q2.size+xs.size:=by rw[<-MS,IA]<;>rfl
 have zq4:q4.size=q3.size+4:=by rw[<-Zt,IA]<;>rfl
 have zq5:q5.size=q4.size+ys.size:=by rw[<-Ra,IA]<;>rfl
 have zr4:r4.size=q3.size+3:=by rw[<-hr4,IA]<;>rfl
 have zr5:r5.size=r4.size+ys.size:=by rw[<-Zr,IA]<;>rfl
 have yq1:((12+nm.size:Nat):Int)<=2^62:=by omega
 have yq2:((q1.size+9:Nat):Int)<=2^62:=by omega
 have yq3:((q2.size+xs.size:Nat):Int)<=2^62:=by omega
 have yq4:((q3.size+4:Nat):Int)<=2^62:=by omega
 have yq5:((q4.size+ys.size:Nat):Int)<=2^62:=by omega
 have yq6:((q5.size+2:Nat):Int)<=2^62:=by omega
 have yr4:((q3.size+3:Nat):Int)<=2^62:=by omega
 have yr5:((r4.size+ys.size:Nat):Int)<=2^62:=by omega
 have yr6:((r5.size+7:Nat):Int)<=2^62:=by omega
 have ap:∀x y:By,A .cat (ax x) (ax y)=ax (x++y):=fun x y=>by rw[hA.cat];exact kn x y
 have g1:q1=ax ([105,110,115,101,114,116,32,105,110,116,111,32]++[116,Ja t1]):=by rw[<-Hf,UU];exact ap [105,110,115,101,114,116,32,105,110,116,111,32] _
 have g2:q2=ax (oI t1):=by rw[<-Rb,g1];exact ap _ [32,118,97,108,117,101,115,32,40]
 have g3:q3=ax (oI t1++cj x):=by rw[<-MS,g2,<-uK];exact ap _ _
 have g4:q4=ax (oI t1++cj x++[44,32,39,118]):=by rw[<-Zt,g3];exact ap _ [44,32,39,118]
 have g5:q5=ax (oI t1++cj x++[44,32,39,118]++cj y):=by rw[<-Ra,g4,<-Ib];exact ap _ _
 have g6:q6=ax (pT 0 x y t1):=by rw[<-Zs,g5];refine(ap _ [39,41]).trans ?_;unfold pT;rw[if_pos (by decide)];simp only[List.append_assoc]
 have k4:r4=ax (oI t1++cj x++[32,43,32]):=by rw[<-hr4,g3];exact ap _ [32,43,32]
 have k5:r5=ax (oI t1++cj x++[32,43,32]++cj y):=by rw[<-Zr,k4,<-Ib];exact ap _ _
 have k6:r6=ax (pT 3 x y t1):=by rw[<-hr6,k5];refine(ap _ [44,32,110,117,108,108,41]).trans ?_;unfold pT;rw[if_neg (by decide)];simp only[List.append_assoc]
 have Xr:n<3->pT n x y t1=pT 0 x y t1:=fun h=>by unfold pT;rw[if_pos h,if_pos (by decide)]
 have hX:x=(a % 30).toNat:=hx;have hY:y=(b % 30).toNat:=hy;have hT:t1=(b % 3).toNat:=Q4;have Rp:n<3->∀h',Le h h'->k (.string q6) h':=fun h3 h' l=>by rw[g6,<-Xr h3,hX,hY,hT];exact hk h' l
 have Ro:n=3->∀h',Le h h'->k (.string r6) h':=fun h3 h' l=>by rw[k6,<-h3,hX,hY,hT];exact hk h' l
 have Ff:=hn.eq;clear g1 g2 g3 g4 g5 g6 k4 k5 k6 Xr hX hY hT hx hy Q4 Zj UU ap IA hk uK Ib Y1 Y0 znm zxs zys zq1 zq2 zq3 zq4 zq5 zr4 zr5 zw1 zw2 zw4 zw6 yE hun;cbv;refine⟨yw1,?_⟩;cbv;rw[tL];refine⟨yw2,?_⟩;cbv;rw[pN];refine⟨yw3,?_⟩;cbv;rw[UA];refine⟨yw4,?_⟩;cbv;rw[hw4];refine⟨yw5,?_⟩;cbv;rw[hw5];refine⟨yw6,?_⟩;cbv;rw[QY];refine⟨yw7,?_⟩;cbv;rw[hw7];intro YD h5 f5 e5;have l5:Le h4 h5:=by rw[e5];exact Le.set f5
 have s5:Sl 9 cB h5 (.slice (some ⟨YD,0,none⟩) 6 6) WL:=by rw[hWL];exact qS (l:=[⟨#[]⟩,w1,w3,w5,w7,⟨#[32,119,104,101,114,101,32,98,32,60,32,39,100,39]⟩]) ((congrFun e5 YD).trans af) (by simp)
 have hWl:WL.length=6:=by rw[hWL];rfl
 clear e5 hWL;cbv;refine⟨by decide,?_⟩;cbv;rw[hzq];refine mi zq 6 (by decide) (by decide) h5 (fun zt3 t3 Fg ht3 xD=>?_);have ur:0<=zt3/\zt3<((6:Nat):Int):=Fg.ix xD;obtain⟨ww,hww⟩:=aI (xs:=WL) (i:=t3) (by rw[hWl];exact xD);have hze3:=Fg.eq;cbv;refine⟨⟨rfl,ur⟩,?_⟩;cbv;refine s5.load hww hze3 (fun cs aC=>?_);replace aC:cs=[.string ww]:=aC;subst aC;cbv;refine mi zn 24 (by decide) (by decide) h5 (fun zm m Y2 hm hlm=>?_);have KV:m=n:=by have:=hn.eq;rw[hm,this];omega
 subst KV;have hzm2:=Y2.eq;have lt:Le h h5:=(((l1.trans l2).trans l3).trans l4).trans l5;have fe0:A .aG .eql zm 0=decide (m=0):=by rw[aw A,decide_eq_decide];omega
 have fe1:A .aG .eql zm 1=decide (m=1):=by rw[aw A,decide_eq_decide];omega
 have fe2:A .aG .eql zm 2=decide (m=2):=by rw[aw A,decide_eq_decide];omega
 have fe3:A .aG .eql zm 3=decide (m=3):=by rw[aw A,decide_eq_decide];omega
 have VD:m<3->k (.string q6) h5:=fun h3=>Rp h3 h5 lt;have hA4:m=3->k (.string r6) h5:=fun h3=>Ro h3 h5 lt;have hm4:m=0\/m=1\/m=2\/m=3:=by omega
 clear Rp Ro s5 s1 s2;rcases hm4 with rfl|rfl|rfl|rfl
 ·have hf:=VD (by omega);clear VD hA4;cbv;rw[fe0,decide_eq_true (by decide)];cbv;refine⟨yq1,?_⟩;cbv;rw[Hf];refine⟨yq2,?_⟩;cbv;rw[Rb];refine⟨yq3,?_⟩;cbv;rw[MS];refine⟨yq4,?_⟩;cbv;rw[Zt];refine⟨yq5,?_⟩;cbv;rw[Ra];refine⟨yq6,?_⟩;cbv;rw[Zs];exact hf
 ·have hf:=VD (by omega);clear VD hA4;cbv;rw[fe0,decide_eq_false (by decide)];cbv;rw[fe1,decide_eq_true (by decide)];cbv;refine⟨yq1,?_⟩;cbv;rw[Hf];refine⟨yq2,?_⟩;cbv;rw[Rb];refine⟨yq3,?_⟩;cbv;rw[MS];refine⟨yq4,?_⟩;cbv;rw[Zt];refine⟨yq5,?_⟩;cbv;rw[Ra];refine⟨yq6,?_⟩;cbv;rw[Zs];exact hf
 ·have hf:=VD (by omega);clear VD hA4;cbv;rw[fe0,decide_eq_false (by decide)];cbv;rw[fe1,decide_eq_false (by decide)];cbv;rw[fe2,decide_eq_true (by decide)];cbv;refine⟨yq1,?_⟩;cbv;rw[Hf];refine⟨yq2,?_⟩;cbv;rw[Rb];refine⟨yq3,?_⟩;cbv;rw[MS];refine⟨yq4,?_⟩;cbv;rw[Zt];refine⟨yq5,?_⟩;cbv;rw[Ra];refine⟨yq6,?_⟩;cbv;rw[Zs];exact hf
 ·have hf:=hA4 rfl;clear VD hA4;cbv;rw[fe0,decide_eq_false (by decide)];cbv;rw[fe1,decide_eq_false (by decide)];cbv;rw[fe2,decide_eq_false (by decide)];cbv;rw[fe3,decide_eq_true (by decide)];cbv;refine⟨yq1,?_⟩;cbv;rw[Hf];refine⟨yq2,?_⟩;cbv;rw[Rb];refine⟨yq3,?_⟩;cbv;rw[MS];refine⟨yr4,?_⟩;cbv;rw[hr4];refine⟨yr5,?_⟩;cbv;rw[Zr];refine⟨yr6,?_⟩;cbv;rw[hr6];exact hf
open Go.Sx
structure AG where
 s:Int
 n:Int
 a:Int
 b:Int
def lR:Sh AG where
 n:=4
 R _ cs v:=cs=[.int .i64 v.s,.int .i64 v.n,.int .i64 v.a,.int .i64 v.b]
 len:=by rintro h cs x rfl;rfl
 one:=by rintro h cs x rfl;rfl
 tys:=[]
 mono:=fun _ q=>q
def iB(t:Nat):ByteArray:=ax [116,Ja t]
def sU(t:Nat)(ws:List Wd):List Wd:=wd [105,110,115,101,114,116]::wd [105,110,116,111]::wd [116,Ja t]::wd [118,97,108,117,101,115]::ud 40::ws
theorem cN.oI{t:Nat}(ht:t<3){r:By}{ws:List Wd}(h:cN r ws):cN (oI t++r) (sU t ws):=by
 match t,ht with
 |0,_=>exact cN.name [110,115,101,114,116] rfl rfl rfl (cN.sp (cN.name [110,116,111] rfl rfl rfl (cN.sp (cN.name [97] rfl rfl rfl (cN.sp (cN.name [97,108,117,101,115] rfl rfl rfl (cN.sp (cN.sign rfl (by decide) (by decide) h))))))))
 |1,_=>exact cN.name [110,115,101,114,116] rfl rfl rfl (cN.sp (cN.name [110,116,111] rfl rfl rfl (cN.sp (cN.name [98] rfl rfl rfl (cN.sp (cN.name [97,108,117,101,115] rfl rfl rfl (cN.sp (cN.sign rfl (by decide) (by decide) h))))))))
 |2,_=>exact cN.name [110,115,101,114,116] rfl rfl rfl (cN.sp (cN.name [110,116,111] rfl rfl rfl (cN.sp (cN.name [99] rfl rfl rfl (cN.sp (cN.name [97,108,117,101,115] rfl rfl rfl (cN.sp (cN.sign rfl (by decide) (by decide) h))))))))
def lU(t:Nat)(es:List (List Nd)):az:={ kind:=3,table:=iB t,exprs:=es }
theorem stT1{t:Nat}(ht:t<3)(a:Int)(x:By):nC ao (sU t [sE a,ud 44,R9 x,ud 41]++[mG])=(lU t [[lit (iN a)],[lit (iT x)]],0):=by
 match t,ht with
 |0,_=>show _=_;kernel_rfl
 |1,_=>show _=_;kernel_rfl
 |2,_=>show _=_;kernel_rfl
theorem stT2{t:Nat}(ht:t<3)(a b:Int):nC ao (sU t [sE a,ud 43,sE b,ud 44,wd [110,117,108,108],ud 41]++[mG])=(lU t [[lit (iN a),lit (iN b),bin 14 0 1],[lit v0]],0):=by
 match t,ht with
 |0,_=>show _=_;kernel_rfl
 |1,_=>show _=_;kernel_rfl
 |2,_=>show _=_;kernel_rfl
theorem yC{t:Nat}{es:List (List Nd)}(h:∀e∈es,mI e)(hl:es.length<=6):eG (lU t es):=
 ⟨fun n hn=>(by cases hn),fun n hn=>(by cases hn),h,fun i hi=>(by cases hi),by show es.length<=_;omega,fun hk=>absurd hk (by show ¬(3:Int)=4;decide),yu,yu,Nat.zero_le _,Nat.zero_le _⟩
theorem IS{a b c:Int}(hn:cO 14 a b=some (iN c)):bG [[lit (iN a),lit (iN b),bin 14 0 1],[lit v0]] [] []=([iN c,v0],0):=by
 have hk:fZ [lit (iN a),lit (iN b),bin 14 0 1] []=(2,0):=by
  have e:eN [] [lit (iN a),lit (iN b),bin 14 0 1] []=eN [] [bin 14 0 1] [2,2]:=by rw[fV,rm,lO];show eN [] (lit (iN b)::[bin 14 0 1]) [2]=_;rw[fV,rm,lO];rfl
  unfold fZ;rw[if_neg (by simp),e];have e2:eN [] [bin 14 0 1] [2,2]=([2,2,2],0):=by kernel_rfl
  rw[e2];rfl
 have e1:gL [] [] [lit (iN a),lit (iN b),bin 14 0 1] []=match cO 14 a b with
  |some v=>some [iN a,iN b,v]
  |none=>none:=by kernel_rfl
 have hv:eA [lit (iN a),lit (iN b),bin 14 0 1] [] []=(iN c,0):=by unfold eA;rw[hk,e1,hn];rfl
 unfold bG;rw[dZ hv,dZ (gu CZ _ _)];rfl
def lY(n x y:Nat):Row:=if n<3 then [iN x,iT (118::cj y)]else [iN ((x:Int)+y),v0]
theorem Ms{n x y t:Nat}(hn:n<4)(hx:x<1000)(hy:y<1000)(ht:t<3):∃es,dk ao (ax (pT n x y t))=(lU t es,0)/\ek (ax (pT n x y t))=true/\eG (lU t es)/\bG es [] []=(lY n x y,0):=by
 have hl:(oI t).length=23:=rfl;have lx:=lF x hx;have ly:=lF y hy;have nn:∀(v:dg),lj v->mI [lit v]:=fun v hv n hn=>by
  rcases List.mem_cons.1 hn with rfl|hn
  ·exact qq hv
  ·cases hn
 have key:∀ {r:By} {ws:List Wd} {st:az},r.length<=100->cN r ws->nC ao (sU t ws++[mG])=(st,0)->dk ao (ax (oI t++r))=(st,0)/\ek (ax (oI t++r))=true:=fun{r ws st} hr h hs=>by
  have hw:iE (ax (oI t++r))=(sU t ws++[mG],0):=AX (by rw[dn,List.length_append];omega) (show cN (oI t++r) (sU t ws)from cN.oI ht h);refine⟨(Ba hw).trans hs,?_⟩;unfold ek;rw[hw];rfl
 by_cases h3:n<3
 ·have e1:pT n x y t=oI t++(cj x++(44::32::(sM (118::cj y)++[41]))):=by
   have hq:sq (cj y)=cj y:=by
    have:∀l:By,l.all cT=true->sq l=l:=fun l=>by
     induction l with
     |nil=>intro _;rfl
     |cons c l ih=>intro h;rw[List.all_cons,Bool.and_eq_true]at h;have:=Et h.1;show(if c.toNat=39 then _ else _)=_;rw[if_neg (by omega),ih h.2]
    exact this _ (Cl y)
   have Rb:sq (118::cj y)=118::cj y:=by show(if(118:UInt8).toNat=39 then _ else 118::sq (cj y))=_;rw[if_neg (by decide),hq]
   unfold pT;rw[if_pos h3];unfold sM;rw[Rb];simp
  have hy4:(118::cj y:By).length<=60:=by simp only[List.length_cons];omega
  obtain⟨h1,h2⟩:=key (r:=cj x++(44::32::(sM (118::cj y)++[41]))) (by
   have:=zG (118::cj y);simp only[sM,List.length_append,List.length_cons,List.length_nil]at this |-;omega) (cN.RT x (by omega) rfl (cN.comma (sL hy4 rfl cN.close))) (stT1 ht x (118::cj y))
  rw[e1];refine⟨_,h1,h2,yC (by simpa using ⟨nn _ (oJ (by omega)),nn _ (vL _)⟩) (by simp),?_⟩;unfold lY;rw[if_pos h3];exact qN (lO x) (oe hy4)
 ·have e1:pT n x y t=oI t++(cj x++(32::43::32::(cj y++(44::32::([110,117,108,108]++[41]))))):=by unfold pT;rw[if_neg h3];simp
  obtain⟨h1,h2⟩:=key (r:=cj x++(32::43::32::(cj y++(44::32::([110,117,108,108]++[41]))))) (by
   simp only[List.length_append,List.length_cons,List.length_nil];omega) (cN.RT x (by omega) rfl (cN.sp (cN.sign rfl (by decide) (by decide) (cN.sp (cN.RT y (by omega) rfl (cN.comma (zJ rfl cN.close))))))) (stT2 ht x y)
  rw[e1];have hn:cO 14 x y=some (iN ((x:Int)+y)):=by unfold cO;rw[if_neg (by decide),if_pos rfl];unfold pB;rw[if_pos (gA.2 (by omega))];rfl
  refine⟨_,h1,h2,yC ?_ (by simp),?_⟩
  ·intro e he;rcases List.mem_cons.1 he with rfl|he
   ·intro n hn;simp only[List.mem_cons,List.not_mem_nil,or_false]at hn;rcases hn with rfl|rfl|rfl
    ·exact qq (oJ (by omega))
    ·exact qq (oJ (by omega))
    ·exact Dz ..
   ·rcases List.mem_cons.1 he with rfl|he
    ·exact nn _ lA
    ·cases he
  ·unfold lY;rw[if_neg h3];exact IS hn
theorem HX{n x y:Nat}(hx:x<1000)(hy:y<1000):bV bB (lY n x y)=0/\fM (lY n x y):=by
 have ly:=lF y hy;unfold lY;split
 ·refine⟨pq (Ei (by simp only[List.length_cons];omega)),fun v hv=>?_⟩;rcases List.mem_cons.1 hv with rfl|hv
  ·exact oJ (by omega)
  ·rcases List.mem_cons.1 hv with rfl|hv
   ·exact vL _
   ·cases hv
 ·refine⟨pq rfl,fun v hv=>?_⟩;rcases List.mem_cons.1 hv with rfl|hv
  ·exact oJ (by omega)
  ·rcases List.mem_cons.1 hv with rfl|hv
   ·exact lA
   ·cases hv
structure AJ(R:Nat->List Row)(log:List iX)(d:DB):Prop where
 aE:d.aE=[⟨aT 0,R 0⟩,⟨aT 1,R 1⟩,⟨aT 2,R 2⟩]
 au:d.au=[⟨0,log,[]⟩]
 holds:∀h∈d.holds,h.s=0
 waits:d.waits=[]
theorem AJ.hold{R:Nat->List Row}{log:List iX}{d:DB}(q:AJ R log d){t:Nat}(ht:t<3)(x:Bool):∃d',ay d ⟨0,iB t,x⟩=(d',0)/\AJ R log d':=by
 obtain⟨h1,h2,h3,h4⟩:=q;obtain⟨T,W,H,Wt⟩:=d;simp only at h1 h2 h3 h4;subst h1 h2 h4;have AM:Dv ⟨[⟨aT 0,R 0⟩,⟨aT 1,R 1⟩,⟨aT 2,R 2⟩],[⟨0,log,[]⟩],H,[]⟩ ⟨0,iB t,x⟩=true:=by
  match t,ht with
  |0,_=>show _=_;kernel_rfl
  |1,_=>show _=_;kernel_rfl
  |2,_=>show _=_;kernel_rfl
 have sY:H.any (fY ⟨0,iB t,x⟩)=false:=by rw[List.any_eq_false];intro o ho;unfold fY;have:=h3 o ho;simp[this]
 have oM:bF H ⟨0,iB t,x⟩=true:=by unfold bF;rw[sY];simp
 have jJ:∀o∈cd H ⟨0,iB t,x⟩,o.s=0:=by
  intro o ho;unfold cd at ho;rw[if_pos oM]at ho;split at ho
  ·exact h3 o ho
  ·split at ho
   ·rcases List.mem_or_eq_of_mem_set ho with ho|rfl
    ·exact h3 o ho
    ·rfl
   ·rcases List.mem_append.1 ho with ho|ho
    ·exact h3 o ho
    ·rw[List.mem_singleton]at ho;subst ho;rfl
 refine⟨⟨[⟨aT 0,R 0⟩,⟨aT 1,R 1⟩,⟨aT 2,R 2⟩],[⟨0,log,[]⟩],cd H ⟨0,iB t,x⟩,[]⟩,?_,rfl,rfl,jJ,rfl⟩;unfold ay;rw[if_pos AM];show gH (H.length+1) _ _=_;unfold gH;rw[if_pos oM];have:cV H [] ⟨0,iB t,x⟩=[]:=by unfold cV;rw[if_pos oM];rfl
 simp only[this]
theorem AJ.held{R:Nat->List Row}{log:List iX}{d:DB}(q:AJ R log d){t:Nat}(ht:t<3):bO d (iB t)=⟨aT t,R t⟩:=by
 have h:bO d (iB t)=(([⟨aT 0,R 0⟩,⟨aT 1,R 1⟩,⟨aT 2,R 2⟩]:List cE).find? fun x=>decide (x.S.name=iB t)).getD ⟨⟨b0,[],0,false⟩,[]⟩:=by unfold bO;rw[q.aE]
 rw[h]
 match t,ht with
 |0,_=>show _=_;kernel_rfl
 |1,_=>show _=_;kernel_rfl
 |2,_=>show _=_;kernel_rfl
theorem AJ.tab{R:Nat->List Row}{log:List iX}{d:DB}(q:AJ R log d){t:Nat}(ht:t<3):dr (aR d.aE (iB t))=t/\d.aE[t]? =some ⟨aT t,R t⟩:=by
 rw[q.aE]
 match t,ht with
 |0,_=>exact⟨by kernel_rfl,rfl⟩
 |1,_=>exact⟨by kernel_rfl,rfl⟩
 |2,_=>exact⟨by kernel_rfl,rfl⟩
def Sw(R:Nat->List Row)(t:Nat)(X:List Row):Nat->List Row:=fun j=>if j=t then X else R j
theorem AJ.put{R:Nat->List Row}{log:List iX}{d:DB}(q:AJ R log d){t:Nat}(ht:t<3)(r:Row):∃d' e,fv d 0 (iB t) r=(d',e)/\(e≠0->AJ R log d')/\(e=0->AJ (Sw R t (bI ⟨aT t,R t⟩ r).1.rows) (log++[⟨iB t,1,r⟩]) d'/\(bI ⟨aT t,R t⟩ r).2=0):=by
 obtain⟨d1,hd,q1⟩:=q.hold ht true;obtain⟨ti,tg⟩:=q1.tab ht;have hw:cA d1.au 0=cA [⟨0,log,[]⟩] 0:=by rw[q1.au]
 have hwi:dr (cA d1.au 0)=0:=by rw[hw];kernel_rfl
 have hwg:d1.au[0]? =some ⟨0,log,[]⟩:=by rw[q1.au];rfl
 have h1:fv d 0 (iB t) r=(if decide ((ay d ⟨0,iB t,true⟩).2≠0)=true then ay d ⟨0,iB t,true⟩
  else match (ay d ⟨0,iB t,true⟩).1.aE[dr (aR (ay d ⟨0,iB t,true⟩).1.aE (iB t))]?,(ay d ⟨0,iB t,true⟩).1.au[dr (cA (ay d ⟨0,iB t,true⟩).1.au 0)]? with
  |some x,some w=>
   if decide ((cJ r x).2.2≠19)&&decide ((w.log.length:Int)>=60)then((ay d ⟨0,iB t,true⟩).1,4)
   else if decide ((cJ r x).2.2=0)=true then
    (⟨(ay d ⟨0,iB t,true⟩).1.aE.set (dr (aR (ay d ⟨0,iB t,true⟩).1.aE (iB t))) (cJ r x).1,(ay d ⟨0,iB t,true⟩).1.au.set (dr (cA (ay d ⟨0,iB t,true⟩).1.au 0)) ⟨w.s,w.log++[⟨iB t,(cJ r x).2.1.op,(cJ r x).2.1.row⟩],w.marks⟩,(ay d ⟨0,iB t,true⟩).1.holds,(ay d ⟨0,iB t,true⟩).1.waits⟩,0)
   else((ay d ⟨0,iB t,true⟩).1,(cJ r x).2.2)
  |_,_=>ay d ⟨0,iB t,true⟩):=rfl
 rw[hd]at h1;simp only[ti,tg,hwi,hwg,ne_eq,not_true_eq_false,decide_false,Bool.false_eq_true,if_false]at h1;obtain⟨P,hP⟩:∃P,bI ⟨aT t,R t⟩ r=P:=⟨_,rfl⟩;have xg:cJ r ⟨aT t,R t⟩=(P.1,⟨jX,1,r⟩,P.2):=by unfold cJ;rw[hP]
 have hPS:P.1.S=aT t:=by
  rw[<-hP];unfold bI;split
  ·rfl
  ·split
   ·rfl
   ·split<;>rfl
 rw[xg]at h1;obtain⟨⟨PS,PR⟩,pe⟩:=P;have hPS:PS=aT t:=hPS;subst hPS;rw[hP];simp only at h1;split at h1
 ·exact⟨_,_,h1,fun _=>q1,fun e=>absurd e (by decide)⟩
 ·split at h1
  ·rename_i h0;have h0:pe=0:=of_decide_eq_true h0;refine⟨_,_,h1,fun e=>absurd rfl e,fun _=>⟨⟨?_,?_,q1.holds,q1.waits⟩,h0⟩⟩
   ·rw[q1.aE]
    match t,ht with
    |0,_=>rfl
    |1,_=>rfl
    |2,_=>rfl
   ·rw[q1.au];rfl
  ·rename_i h0;have h0:pe≠0:=fun e=>h0 (decide_eq_true e);exact⟨_,_,h1,fun _=>q1,fun e=>absurd e h0⟩
theorem Wn(d:DB)(t:Nat)(es:List (List Nd)):jD d 0 (lU t es)=match ay d ⟨0,iB t,true⟩with
 | (d,e)=>if e≠0 then(d,[],e)else bK d (match bG es [] []with
  | (r,e)=>if e≠0 then(d,e)else fv d 0 (iB t) r):=rfl
def CJ(r:Row):Prop:=∃(a:Int) (v:dg),r=[iN a,v]/\0<=a/\a<2000/\(v=v0\/∃x,v=iT x/\x.length<=10)
theorem Mt{n x y:Nat}(hx:x<1000)(hy:y<1000):CJ (lY n x y):=by
 have ly:=lF y hy;unfold lY;split
 ·exact⟨_,_,rfl,by omega,by omega,.inr ⟨_,rfl,by simp only[List.length_cons];omega⟩⟩
 ·exact⟨_,_,rfl,by omega,by omega,.inl rfl⟩
structure AL(m:Nat)(R:Nat->List Row)(log:List iX)(d:DB):Prop where
 aj:AJ R log d
 ej:EJ (2*m) d
 rp:∀t,t<3->∀r∈R t,CJ r
 ln:(R 0).length+(R 1).length+(R 2).length=log.length
 le:log.length<=m
theorem Gk{S:AU}{R:List Row}{r:Row}(h:(bI ⟨S,R⟩ r).2=0):∃i,(bI ⟨S,R⟩ r).1.rows=R.take i++[r]++R.drop i:=by
 unfold bI at h |-;split at h
 ·rename_i h1;exact absurd h (of_decide_eq_true h1)
 ·rename_i h1;rw[if_neg h1];split at h
  ·cases h
  ·rename_i h2;rw[if_neg h2];split at h
   ·cases h
   ·rename_i h3;rw[if_neg h3];exact⟨_,rfl⟩
theorem AL.step{m:Nat}{R:Nat->List Row}{log:List iX}{d:DB}(q:AL m R log d)(hm:m<=100){n x y t:Nat}(hx:x<1000)(hy:y<1000)(ht:t<3){es:List (List Nd)}(hv:bG es [] []=(lY n x y,0)):∃R' DE,AL (m+1) R' DE (jD d 0 (lU t es)).1:=by
 obtain⟨d1,hd,q1⟩:=q.aj.hold ht true;have FE:EJ (2*m+1) d1:=by have:=q.ej.hold ⟨0,iB t,true⟩ (by show(-2^63:Int)<=0/\(0:Int)<2^63;decide);rw[hd]at this;exact this
 obtain⟨hf,hr⟩:=HX (n:=n) hx hy;have hrp:=Mt (n:=n) hx hy;generalize lY n x y=r at *;obtain⟨d2,e,hp,p1,p2⟩:=q1.put ht r;have ej2:EJ (2*m+2) d2:=by have:=FE.put (s:=0) (iB t) (by decide) hr;rw[hp]at this;exact this
 have hD:jD d 0 (lU t es)=bK d1 (d2,e):=by rw[Wn,hd,hv];show bK d1 (fv d1 0 (iB t) r)=_;rw[hp]
 rw[hD];unfold bK;by_cases he:e≠0
 ·rw[if_pos he];exact⟨R,log,q1,FE.le (by omega),q.rp,q.ln,by have:=q.le;omega⟩
 ·rw[if_neg he];have he:e=0:=Decidable.not_not.1 he;obtain⟨g1,g2⟩:=p2 he;obtain⟨i,hi⟩:=Gk g2;have hl:(bI ⟨aT t,R t⟩ r).1.rows.length=(R t).length+1:=by rw[hi];simp only[List.length_append,List.length_take,List.length_drop,List.length_cons,List.length_nil];omega
  refine⟨_,_,g1,ej2.le (by omega),?_,?_,by have:=q.le;simp only[List.length_append,List.length_cons,List.length_nil];omega⟩
  ·intro j hj r' xA;unfold Sw at xA;split at xA
   ·rename_i e;subst e;rw[hi]at xA;rcases List.mem_append.1 xA with xA|xA
    ·rcases List.mem_append.1 xA with xA|xA
     ·exact q.rp j hj r' (List.mem_of_mem_take xA)
     ·rw[List.mem_singleton]at xA;subst xA;exact hrp
    ·exact q.rp j hj r' (List.mem_of_mem_drop xA)
   ·exact q.rp j hj r' xA
  ·have:=q.ln;simp only[List.length_append,List.length_cons,List.length_nil];unfold Sw
   match t,ht with
   |0,_=>simp only[if_true,hl];simp;omega
   |1,_=>simp only[if_true,hl];simp;omega
   |2,_=>simp only[if_true,hl];simp;omega
theorem AL.start:AL 0 (fun _=>[]) [] ru:=⟨⟨by kernel_rfl,by kernel_rfl,(fun h hh=>by cases hh),by kernel_rfl⟩,zZ,(fun t _ r hr=>by cases hr),rfl,Nat.le_refl _⟩
structure V12 where
 b1:Option Addr
 n1:Nat
 c1:Nat
 b2:Option Addr
 n2:Nat
 c2:Nat
 b3:Option Addr
 n3:Nat
 c3:Nat
 b4:Option Addr
 n4:Nat
 c4:Nat
def V12.v(g:V12):Value:=.agg #[.slice g.b1 g.n1 g.c1,.slice g.b2 g.n2 g.c2,.slice g.b3 g.n3 g.c3,.slice g.b4 g.n4 g.c4]
theorem WS{xs:List AG}{h:ad}{b:Option Addr}{n c:Nat}(q:xL lR h (.slice b n c) xs){d0:DB}{be:Int}(hd:ey ed 0=(d0,be))(XD:AL 0 (fun _=>[]) [] d0)
 {k:Value->ad->Prop} (hk:∀h' b1 n1 c1 b2 n2 c2 b3 n3 c3 b4 n4 c4 R log d,Le h h'->gj h' (.agg #[.slice b1 n1 c1,.slice b2 n2 c2,.slice b3 n3 c3,.slice b4 n4 c4]) d->AL 25 R log d->k (.agg #[.slice b1 n1 c1,.slice b2 n2 c2,.slice b3 n3 c3,.slice b4 n4 c4]) h'):
 Ct 18 [.slice b n c] h k:=by
 obtain⟨A,hA⟩:=Ar.ex;have hlen:=q.len;have vZ:=q.bound;refine ah A (ar T18.aA T18.bm) Tryz.func18 rfl (by kernel_rfl) ?_;cbv;refine zA (fun h2 b1 n1 c1 b2 n2 c2 b3 n3 c3 b4 n4 c4 d1 m1 e1 d2 m2 e2 d3 m3 e3 d4 m4 e4 l2 ME _=>?_);cbv;refine oV ME 0 (og.sj.CM.small (by decide)) hd (fun h3 b1 n1 c1 b2 n2 c2 b3 n3 c3 b4 n4 c4 l3 AH=>?_);replace AH:gj h3 (.agg #[.slice b1 n1 c1,.slice b2 n2 c2,.slice b3 n3 c3,.slice b4 n4 c4]) d0:=AH;have xw:=l2.trans l3;clear hd ME l2 l3;obtain⟨I,bl⟩:∃I:Nat->Int×V12->ad->Prop,∀m g h',I m g h'=∃i R log d,aS g.1 i/\i<=25/\i<=n/\m=25-i/\Le h h'/\gj h' g.2.v d/\AL i R log d:=⟨_,fun _ _ _=>rfl⟩;have hJ:I 25 (0,⟨b1,n1,c1,b2,n2,c2,b3,n3,c3,b4,n4,c4⟩) h3:=by rw[bl];exact⟨0,_,_,d0,⟨rfl⟩,by omega,Nat.zero_le _,rfl,xw,AH,XD⟩
 clear AH xw XD;cbv;refine aX.go (G:=Int×V12) (fun g=>[(5,.v (.int .i64 g.1))]) (fun g=>[(2,[.slice none 0 0,.slice none 0 0,.slice none 0 0,.slice none 0 0]),(3,[.slice g.2.b1 g.2.n1 g.2.c1,.slice g.2.b2 g.2.n2 g.2.c2,.slice g.2.b3 g.2.n3 g.2.c3,.slice g.2.b4 g.2.n4 g.2.c4]),(4,[.slice d1 m1 e1,.slice d2 m2 e2,.slice d3 m3 e3,.slice d4 m4 e4])]) (fun m g h'=>I m g h') 25 (0,⟨b1,n1,c1,b2,n2,c2,b3,n3,c3,b4,n4,c4⟩) ⟨?_,?_,?_⟩ hJ ?_
 ·cbv
 ·cbv
 ·cbv
 ·intro m g h4 hI;rw[bl]at hI;cbv;obtain⟨i,R,log,d,hz,hi25,eW,hm,hl,qd,al⟩:=hI;obtain⟨z,a1,i1,j1,a2,i2,j2,a3,i3,j3,a4,i4,j4⟩:=g;replace hz:aS z i:=hz;replace qd:gj h4 (.agg #[.slice a1 i1 j1,.slice a2 i2 j2,.slice a3 i3 j3,.slice a4 i4 j4]) d:=qd;have f1:A .aG .lss z (A .nat n)=decide (i<n):=hz.gy (aS.nat n);have f2:A .aG .lss z 25=decide (i<25):=by rw[bE A,decide_eq_decide];have:=hz.eq;omega
  have dD:=hz.succ (A:=A) (by omega);have fA:=hz.eq;have hle:=al.le;have ae:=hk h4 a1 i1 j1 a2 i2 j2 a3 i3 j3 a4 i4 j4 R log d hl qd ⟨al.aj,al.ej.le (by omega),al.rp,al.ln,by omega⟩;by_cases aK:i<n
  ·by_cases VG:i<25
   ·obtain⟨x,hx⟩:=aI (xs:=xs) (i:=i) (by omega);obtain⟨xs',xn,xa,xb⟩:=x;have cU:b.isSome=true/\0<=z/\z<(n:Int):=⟨q.bu (by omega),hz.ix aK⟩;obtain⟨z2,fN⟩:∃z2,A .bA .add .i64 z 1=z2:=⟨_,rfl⟩;rw[fN]at dD;have di:∀h5 b1 n1 c1 b2 n2 c2 b3 n3 c3 b4 n4 c4 R' DE d',Le h4 h5->gj h5 (.agg #[.slice b1 n1 c1,.slice b2 n2 c2,.slice b3 n3 c3,.slice b4 n4 c4]) d'->AL (i+1) R' DE d'->I (25-(i+1)) (z2,⟨b1,n1,c1,b2,n2,c2,b3,n3,c3,b4,n4,c4⟩) h5:=fun h5 b1 n1 c1 b2 n2 c2 b3 n3 c3 b4 n4 c4 R' DE d' l q' al'=>by
     rw[bl];exact⟨i+1,R',DE,d',dD,VG,aK,rfl,hl.trans l,q',al'⟩
    have tN:25-(i+1)<m:=by omega
    obtain⟨es,fO,uo,hx3,hv⟩:=Ms (n:=(xn % 4).toNat) (x:=(xa % 30).toNat) (y:=(xb % 30).toNat) (t:=(xb % 3).toNat) (by omega) (by omega) (by omega) (by omega);obtain⟨R',DE,al'⟩:=al.step (by omega) (n:=(xn % 4).toNat) (x:=(xa % 30).toNat) (y:=(xb % 30).toNat) (t:=(xb % 3).toNat) (by omega) (by omega) (by omega) hv;have ej:=al.ej;have gP:2*i+700<2^18:=by omega
    obtain⟨tx,Q0⟩:∃tx,tx=ax (pT (xn % 4).toNat (xa % 30).toNat (xb % 30).toNat (xb % 3).toNat):=⟨_,rfl⟩;have Xr:∀z4 m4,aS z4 m4->m4=(xn % ((4:Nat):Int)).toNat->m4<4->∀h {k:Value->ad->Prop},(∀h',Le h h'->k (.string tx) h')->Ct 37 [.int .i64 z4,.int .i64 xa,.int .i64 xb] h k:=fun z4 m4 h1 h2 h3 h k hk=>sqlK h1 h3 xa xb h (fun h' l=>by
     have:=hk h' l;rw[Q0]at this;rw[h2];exact this)
    rw[<-Q0]at fO uo;clear Q0 hv;have xg:j8 d 0 (lU (xb % 3).toNat es):=j8.no (by show(3:Int)≠6;decide) (by show(3:Int)≠4;decide) (by show(3:Int)≠5;decide);generalize lU (xb % 3).toNat es=st at *;rw[f1,decide_eq_true aK];cbv;rw[f2,decide_eq_true VG];cbv;refine⟨cU,?_⟩;cbv;refine(q.mono hl).oD hx fA (o:=1) (m:=1) (by decide) (fun cs aC ag=>?_);replace aC:cs=[.int .i64 xs',.int .i64 xn,.int .i64 xa,.int .i64 xb]:=aC;subst aC;cbv;refine⟨cU,?_⟩;cbv;refine(q.mono hl).oD hx fA (o:=2) (m:=1) (by decide) (fun cs aC ag2=>?_);replace aC:cs=[.int .i64 xs',.int .i64 xn,.int .i64 xa,.int .i64 xb]:=aC;subst aC;cbv;refine⟨cU,?_⟩;cbv;refine(q.mono hl).oD hx fA (o:=3) (m:=1) (by decide) (fun cs aC ag3=>?_);replace aC:cs=[.int .i64 xs',.int .i64 xn,.int .i64 xa,.int .i64 xb]:=aC;subst aC;cbv;refine qM xn 4 (by decide) (by decide) h4 (fun z4 m4 Y4 hm4 hl4=>?_);cbv;refine ag3 _ _ (Le.refl _) ?_;cbv;refine⟨⟨_,rfl,rfl⟩,?_⟩;cbv;refine ag2 _ _ (Le.refl _) ?_;cbv;refine⟨⟨_,rfl,rfl⟩,?_⟩;cbv;refine Xr z4 m4 Y4 hm4 hl4 h4 (fun h5 l5=>?_);cbv;refine EA uo fO (fun h6 w l6 qs=>?_);have Yi:=qs;obtain⟨b5,n5,c5,b6,n6,c6,b7,n7,c7,b8,n8,c8,b9,n9,c9,fG,gG,fF,hw,-⟩:=Yi.out;subst hw;replace qs:Qu h6 _ st:=qs;have QR:=l5.trans l6;have EW:=qd.mono QR;clear fO uo ag ag2 ag3 Xr;cbv;refine doC (s:=0) EW hx3 ej gP (by decide) xg qs (fun h7 x1 u1 y1 x2 u2 y2 x3 u3 y3 x4 u4 y4 _ _ _ l7 qd7 _=>?_);have uL:=di h7 x1 u1 y1 x2 u2 y2 x3 u3 y3 x4 u4 y4 R' DE _ (QR.trans l7) qd7 al';generalize jD d 0 st=D at *;obtain⟨D1,DR,De⟩:=D;clear di bl hJ hk ae qd7 al';cbv;rw[fN];refine⟨_,(_,_),tN,⟨?_,?_,?_⟩,uL⟩
    ·cbv
    ·cbv
    ·cbv
   ·rw[f1,decide_eq_true aK];clear bl hJ hk;cbv;rw[f2,decide_eq_false VG];cbv;exact ae
  ·rw[f1,decide_eq_false aK];clear bl hJ hk;cbv;exact ae
theorem FX{xs:List AG}{h:ad}{b:Option Addr}{n c:Nat}(q:xL lR h (.slice b n c) xs)
 {k:Value->ad->Prop} (hk:∀h' b1 n1 c1 b2 n2 c2 b3 n3 c3 b4 n4 c4 R log d,Le h h'->gj h' (.agg #[.slice b1 n1 c1,.slice b2 n2 c2,.slice b3 n3 c3,.slice b4 n4 c4]) d->AL 25 R log d->k (.agg #[.slice b1 n1 c1,.slice b2 n2 c2,.slice b3 n3 c3,.slice b4 n4 c4]) h'):
 Ct 18 [.slice b n c] h k:=WS q (d0:=ru) (be:=(ey ed 0).2) rfl AL.start hk
theorem SH{X:List Row}{h:ad}{b1 b2:Option Addr}{n1 c1 n2 c2:Nat}(q1:Sl 59 aL h (.slice b1 n1 c1) X)(q2:Sl 59 aL h (.slice b2 n2 c2) X){k:Value->ad->Prop}(hk:k (.bool true) h):
 Ct 21 [.slice b1 n1 c1,.slice b2 n2 c2] h k:=by
 obtain⟨A,hA⟩:=Ar.ex;have e1:=q1.len;have e2:=q2.len;have hb:=q1.bound.1;have UY:n2=n1:=by omega
 subst UY;have AS:A .not true=false:=by rw[hA.not];rfl
 have fne:A .aG .neq (A .nat n2) (A .nat n2)=false:=by rw[aB A];simp
 obtain⟨I,bl⟩:∃I:Nat->Int->ad->Prop,∀m g h',I m g h'=∃j,aS g j/\m=n2-j/\j<=n2/\h'=h:=⟨_,fun _ _ _=>rfl⟩;have hJ:I n2 0 h:=by rw[bl];exact⟨0,⟨rfl⟩,rfl,Nat.zero_le _,rfl⟩
 refine ah A (ar T21.aA T21.bm) Tryz.func21 rfl (by kernel_rfl) ?_;cbv;rw[fne];cbv;refine aX.go (G:=Int) (fun g=>[(5,.v (.int .i64 g))]) (fun _=>[]) (fun m g h'=>I m g h') n2 0 ⟨?_,?_,?_⟩ hJ ?_
 ·cbv
 ·cbv
 ·cbv
 ·intro m z h' hI;rw[bl]at hI;cbv;obtain⟨j,hz,hm,hj,rfl⟩:=hI;have f1:A .aG .lss z (A .nat n2)=decide (j<n2):=hz.gy (aS.nat n2);rw[f1];by_cases aK:j<n2
  ·obtain⟨x,hx⟩:=aI (xs:=X) (i:=j) (by omega);have rI:b1.isSome=true/\0<=z/\z<(n2:Int):=⟨q1.bu (by omega),hz.ix aK⟩;have kW:b2.isSome=true/\0<=z/\z<(n2:Int):=⟨q2.bu (by omega),hz.ix aK⟩;have fA:=hz.eq;have dD:=hz.succ (A:=A) (by omega);obtain⟨z2,fN⟩:∃z2,A .bA .add .i64 z 1=z2:=⟨_,rfl⟩;rw[fN]at dD;have di:I (n2-(j+1)) z2 h':=by rw[bl];exact⟨j+1,dD,rfl,aK,rfl⟩
   have gQ:n2-(j+1)<m:=by omega
   clear bl hJ hk;rw[decide_eq_true aK];cbv;refine⟨rI,?_⟩;cbv;refine iO q1 hx fA (fun x1 m1 k1 s1=>?_);cbv;refine⟨kW,?_⟩;cbv;refine iO q2 hx fA (fun x2 m2 k2 s2=>?_);cbv;refine Dl s1 s2 ?_;cbv;rw[AS];cbv;rw[fN];refine⟨_,_,gQ,⟨?_,?_,?_⟩,di⟩
   ·cbv
   ·cbv
   ·cbv
  ·rw[decide_eq_false aK];clear bl hJ;cbv;exact hk
def kdT:List ByteArray:=[⟨#[115,101,108,101,99,116,32,42,32,102,114,111,109,32,116,97,32,119,104,101,114,101,32,97]⟩,⟨#[115,101,108,101,99,116,32,97,32,43,32,98,32,102,114,111,109,32,116,97]⟩,⟨#[117,112,100,97,116,101,32,116,97,32,115,101,116,32,97,32,61,32,98]⟩,⟨#[117,112,100,97,116,101,32,116,97,32,115,101,116,32,98,32,61,32,49]⟩,⟨#[115,101,108,101,99,116,32,115,117,109,40,98,41,32,102,114,111,109,32,116,97]⟩,⟨#[115,101,108,101,99,116,32,97,44,32,99,111,117,110,116,40,42,41,32,102,114,111,109,32,116,97]⟩,⟨#[115,101,108,101,99,116,32,97,32,102,114,111,109,32,116,97,32,103,114,111,117,112,32,98,121,32,98]⟩,⟨#[115,101,108,101,99,116,32,42,32,102,114,111,109,32,116,97,32,103,114,111,117,112,32,98,121,32,98]⟩,⟨#[115,101,108,101,99,116,32,98,44,32,99,111,117,110,116,40,42,41,32,102,114,111,109,32,116,97,32,103,114,111,117,112,32,98,121,32,98,32,111,114,100,101,114,32,98,121,32,97]⟩,⟨#[115,101,108,101,99,116,32,42,32,102,114,111,109,32,116,97,32,106,111,105,110,32,116,98,32,111,110,32,116,97,46,97]⟩,⟨#[100,101,108,101,116,101,32,102,114,111,109,32,116,97,32,119,104,101,114,101,32,97,32,43,32,49]⟩,⟨#[115,101,108,101,99,116,32,110,111,116,32,97,32,102,114,111,109,32,116,97]⟩]
def dN:List bT:=aJ (cL 0)
def fc:List bT:=aJ (cL 1)
def kdC(t:ByteArray):Bool:=ek t&&stB (dk ao t).1&&decide ((dk ao t).1.table=iB 0)&&
 ((decide ((dk ao t).1.kind=6)&&decide ((dk ao t).1.join=b0)&&decide ((dm (dk ao t).1 dN).2=3))||
 (decide ((dk ao t).1.kind=6)&&decide ((dk ao t).1.join=iB 1)&&decide ((dm (dk ao t).1 (dN++fc)).2=3))||
 (decide ((dk ao t).1.kind=4)&&decide (jL (cL 0) (dk ao t).1=3))||
 (decide ((dk ao t).1.kind=5)&&decide (aF (dk ao t).1.bM dN=3)))
theorem TI:kdT.all kdC=true:=by kernel_rfl
theorem LQ(t:Nat)(X:List Row):aJ ⟨aT t,X⟩=aJ (cL t):=rfl
theorem yK(t:Nat)(X:List Row)(st:az):jL ⟨aT t,X⟩ st=jL (cL t) st:=rfl
theorem Gx{R:Nat->List Row}{log:List iX}{d:DB}(q:AJ R log d){st:az}(ht:st.table=iB 0)(hj:st.join=b0):dA (dc 0 (bC st) d).1 st=dN:=by
 obtain⟨d1,hd,q1⟩:=q.hold (t:=0) (by decide) false;have h1:(dc 0 (bC st) d).1=d1:=by
  unfold bC;rw[if_pos hj,ht];show(match ay d ⟨0,iB 0,false⟩with
   | (d',e)=>if e≠0 then(d',e)else(d',0):DB×Int).1=d1
  rw[hd];rfl
 rw[h1];unfold dA;rw[if_pos hj,ht,q1.held (by decide),List.append_nil];rfl
theorem yd{R:Nat->List Row}{log:List iX}{d:DB}(q:AJ R log d){st:az}(ht:st.table=iB 0)(hj:st.join=iB 1):dA (dc 0 (bC st) d).1 st=dN++fc:=by
 obtain⟨d1,hd,q1⟩:=q.hold (t:=0) (by decide) false;obtain⟨d2,M4,q2⟩:=q1.hold (t:=1) (by decide) false;have yF:¬st.join=b0:=by rw[hj];decide
 have h1:(dc 0 (bC st) d).1=d2:=by
  unfold bC;rw[if_neg yF,ht,hj];show(match ay d ⟨0,iB 0,false⟩with
   | (d',e)=>if e≠0 then(d',e)else(match ay d' ⟨0,iB 1,false⟩with
    | (d',e)=>if e≠0 then(d',e)else(d',0)):DB×Int).1=d2
  rw[hd];show(match ay d1 ⟨0,iB 1,false⟩with
   | (d',e)=>if e≠0 then(d',e)else(d',0):DB×Int).1=d2
  rw[M4];rfl
 rw[h1];unfold dA;rw[if_neg yF,ht,hj,q2.held (by decide),q2.held (by decide)];rfl
theorem NX{R:Nat->List Row}{log:List iX}{d:DB}(q:AJ R log d){st:az}(h6:st.kind=6)(ht:st.table=iB 0)(hj:st.join=b0):∃d1,AJ R log d1/\jD d 0 st=match iF st dN (R 0) [[]]with
 | (l,e)=>(d1,l,e):=by
 obtain⟨d1,hd,q1⟩:=q.hold (t:=0) (by decide) false;refine⟨d1,q1,?_⟩;have h1:jD d 0 st=dJ d 0 st:=by unfold jD;rw[if_neg (by rw[h6];decide),if_neg (by rw[h6];decide),if_neg (by rw[h6];decide),if_neg (by rw[h6];decide),if_neg (by rw[h6];decide),if_neg (by rw[h6];decide),if_neg (by rw[h6];decide),if_pos h6]
 rw[h1];unfold dJ;rw[if_neg (by rw[hj,ht];decide),ht,hd];show(if st.join=b0 then _ else _)=_;rw[if_pos hj];have h2:=q1.held (t:=0) (by decide);rw[h2];rfl
theorem ER{R:Nat->List Row}{log:List iX}{d:DB}(q:AJ R log d){st:az}(h6:st.kind=6)(ht:st.table=iB 0)(hj:st.join=iB 1):∃d1,AJ R log d1/\jD d 0 st=match iF st (dN++fc) (R 0) (R 1)with
 | (l,e)=>(d1,l,e):=by
 obtain⟨d1,hd,q1⟩:=q.hold (t:=0) (by decide) false;obtain⟨d2,M4,q2⟩:=q1.hold (t:=1) (by decide) false;refine⟨d2,q2,?_⟩;have h1:jD d 0 st=dJ d 0 st:=by unfold jD;rw[if_neg (by rw[h6];decide),if_neg (by rw[h6];decide),if_neg (by rw[h6];decide),if_neg (by rw[h6];decide),if_neg (by rw[h6];decide),if_neg (by rw[h6];decide),if_neg (by rw[h6];decide),if_pos h6]
 rw[h1];unfold dJ;rw[if_neg (by rw[hj,ht];decide),ht,hd];show(if st.join=b0 then _ else match ay d1 ⟨0,st.join,false⟩with
  | (d,e)=>if e≠0 then(d,[],e)else match iF st (aJ (bO d (iB 0))++aJ (bO d st.join)) (bO d (iB 0)).rows (bO d st.join).rows with
   | (l,e)=>(d,l,e))=_
 rw[if_neg (by rw[hj];decide),hj,M4]
 show(match iF st (aJ (bO d2 (iB 0))++aJ (bO d2 (iB 1))) (bO d2 (iB 0)).rows (bO d2 (iB 1)).rows with
      | (l,e)=>(d2,l,e))=_
 rw[q2.held (t:=0) (by decide),q2.held (t:=1) (by decide)];rfl
theorem xW{st:az}{cols:List bT}{a b:List Row}(h:(dm st cols).2=3):iF st cols a b=([],3):=by unfold iF;generalize dm st cols=F at *;obtain⟨y,e⟩:=F;have h:e=3:=h;subst h;rfl
theorem IV{R:Nat->List Row}{log:List iX}{d:DB}(q:AJ R log d){st:az}(h4:st.kind=4)(ht:st.table=iB 0)(hf:jL (cL 0) st=3):∃d1,AJ R log d1/\jD d 0 st=(d1,[],3):=by
 obtain⟨d1,hd,q1⟩:=q.hold (t:=0) (by decide) true;refine⟨d1,q1,?_⟩;have h1:jD d 0 st=fH d 0 st:=by unfold jD;rw[if_neg (by rw[h4];decide),if_neg (by rw[h4];decide),if_neg (by rw[h4];decide),if_neg (by rw[h4];decide),if_neg (by rw[h4];decide),if_pos h4]
 rw[h1];unfold fH;rw[ht,hd];have h2:=q1.held (t:=0) (by decide);simp only[h2,yK,hf];rfl
theorem LJ{R:Nat->List Row}{log:List iX}{d:DB}(q:AJ R log d){st:az}(h5:st.kind=5)(ht:st.table=iB 0)(hf:aF st.bM dN=3):∃d1,AJ R log d1/\jD d 0 st=(d1,[],3):=by
 obtain⟨d1,hd,q1⟩:=q.hold (t:=0) (by decide) true;refine⟨d1,q1,?_⟩;have h1:jD d 0 st=fL d 0 st:=by unfold jD;rw[if_neg (by rw[h5];decide),if_neg (by rw[h5];decide),if_neg (by rw[h5];decide),if_neg (by rw[h5];decide),if_neg (by rw[h5];decide),if_neg (by rw[h5];decide),if_pos h5]
 rw[h1];unfold fL;rw[ht,hd];have h2:=q1.held (t:=0) (by decide);have h3:aJ ⟨aT 0,R 0⟩=dN:=rfl;simp only[h2,h3,hf];rfl
theorem BM{R:Nat->List Row}{log:List iX}{d:DB}(q:AJ R log d){st:az}(ht:st.table=iB 0){d1:DB}{T:cE}(h1:(ay d ⟨0,st.table,true⟩).1=d1)(h2:bO d1 st.table=T):T=⟨aT 0,R 0⟩:=by obtain⟨d2,hd,q1⟩:=q.hold (t:=0) (by decide) true;rw[ht,hd]at h1;have h1:d2=d1:=h1;subst h1;rw[ht]at h2;rw[<-h2,q1.held (t:=0) (by decide)]
theorem Kg{R:Nat->List Row}{log:List iX}{d:DB}(q:AJ R log d){t:ByteArray}(hc:kdC t=true):∃st pe d1,ek t=true/\dk ao t=(st,pe)/\eG st/\j8 d 0 st/\jD d 0 st=(d1,[],3)/\AJ R log d1:=by
 unfold kdC at hc;simp only[Bool.and_eq_true,Bool.or_eq_true,decide_eq_true_eq]at hc;obtain⟨⟨⟨h1,h2⟩,ht⟩,hk⟩:=hc;have fO:dk ao t=((dk ao t).1,(dk ao t).2):=rfl;refine⟨(dk ao t).1,(dk ao t).2,?_⟩;generalize (dk ao t).1=st at *;generalize (dk ao t).2=pe at *;have hx:=Dd h2;rcases hk with ((⟨⟨h6,hj⟩,hf⟩ | ⟨⟨h6,hj⟩,hf⟩) | ⟨h4,hf⟩) | ⟨h5,hf⟩
 ·obtain⟨d1,q1,hd⟩:=NX q h6 ht hj;rw[xW hf]at hd;refine⟨d1,h1,fO,hx,j8.E1 h6 (Jn hj (ye ?_)),hd,q1⟩;rw[Gx q ht hj,hf];decide
 ·obtain⟨d1,q1,hd⟩:=ER q h6 ht hj;rw[xW hf]at hd;refine⟨d1,h1,fO,hx,j8.E1 h6 (Jm (by rw[hj];decide) (ye ?_)),hd,q1⟩;rw[yd q ht hj,hf];decide
 ·obtain⟨d1,q1,hd⟩:=IV q h4 ht hf;refine⟨d1,h1,fO,hx,j8.Yw h4 (Sb h4 (fun d2 T e1 e2=>?_)),hd,q1⟩;rw[BM q ht e1 e2,yK,hf];decide
 ·obtain⟨d1,q1,hd⟩:=LJ q h5 ht hf;refine⟨d1,h1,fO,hx,j8.Yx h5 (Wp (fun d2 T e1 e2=>?_)),hd,q1⟩;rw[BM q ht e1 e2,LQ];show aF st.bM dN≠0;rw[hf];decide
theorem Ov{xs:List AG}{h:ad}{b:Option Addr}{n c:Nat}(q:xL lR h (.slice b n c) xs)(w:Int):Ct 11 [.slice b n c,.int .i64 w] h (fun v h'=>Le h h'/\v=.bool true):=by
 obtain⟨A,hA⟩:=Ar.ex;have AS:A .not true=false:=by rw[hA.not];rfl
 refine ah A (ar T11.aA T11.bm) Tryz.func11 rfl (by kernel_rfl) ?_;cbv;refine(zV h).mono (fun v h1 hR=>?_);obtain⟨l1,hv⟩:=hR;subst hv;cbv;rw[AS];cbv;refine FX (q.mono l1) (fun h3 b1 n1 c1 b2 n2 c2 b3 n3 c3 b4 n4 c4 R log d l2 AH al=>?_);cbv;refine qM w 12 (by decide) (by decide) h3 (fun z i hz _ hi=>?_);cbv;intro nb h4 f4 e4;have l4:Le h3 h4:=by rw[e4];exact Le.set f4
 have s4:Sl 9 cB h4 (.slice (some ⟨nb,0,none⟩) 12 12) kdT:=qS (l:=kdT) ((congrFun e4 nb).trans af) (by decide);clear e4;have cU:0<=z/\z<((12:Nat):Int):=hz.ix hi;have fA:=hz.eq;obtain⟨t,ht⟩:=aI (xs:=kdT) (i:=i) hi;obtain⟨st,pe,D1,uo,fO,hx,xg,hD,aj⟩:=Kg al.aj (List.all_eq_true.1 TI t (List.mem_of_getElem? ht));have ej:=al.ej;have Dc:=al.aj.aE;have X4:=aj.aE;generalize R 0=R0 at *;cbv;refine⟨⟨rfl,cU⟩,?_⟩;cbv;refine s4.load ht fA (fun cs aC=>?_);replace aC:cs=[.string t]:=aC;subst aC;cbv;refine doT (AH.mono l4) ej (by decide) uo fO hx xg (fun h6 x1 m1 y1 x2 m2 y2 x3 m3 y3 x4 m4 y4 b n c l6 EW s6=>?_);rw[hD]at s6 EW |-;replace s6:Sl 59 aL h6 (.slice b n c) []:=s6;replace EW:gj h6 (.agg #[.slice x1 m1 y1,.slice x2 m2 y2,.slice x3 m3 y3,.slice x4 m4 y4]) D1:=EW;have hn:n=0:=s6.len;subst hn;have qt1:=EW.A7;have Jw:=((AH.mono l4).mono l6).A7;have hm1:m1=3:=by rw[qt1.len,X4];rfl
 have ma:n1=3:=by rw[Jw.len,Dc];rfl
 subst hm1 ma;have g1:D1.aE[0]? =some ⟨aT 0,R0⟩:=by rw[X4];rfl
 have g0:d.aE[0]? =some ⟨aT 0,R0⟩:=by rw[Dc];rfl
 have ck1:x1.isSome=true/\(0:Int)<=0/\(0:Int)<((3:Nat):Int):=⟨qt1.bu (by omega),by omega,by omega⟩;have ck0:b1.isSome=true/\(0:Int)<=0/\(0:Int)<((3:Nat):Int):=⟨Jw.bu (by omega),by omega,by omega⟩;have lt:Le h h6:=((l1.trans l2).trans l4).trans l6;have f33:A .aG .eql 3 3=true:=by rw[aw A];rfl
 have HA:A .aG .eql (A .nat 0) 0=true:=by rw[aw A,hA.nat];rfl
 clear xg hx ej hD fO uo;cbv;rw[f33];cbv;rw[HA];cbv;refine⟨ck1,?_⟩;cbv;refine qt1.eE g1 (n:=0) rfl (o:=4) (m:=1) (by decide) (fun cs aC=>?_);obtain⟨u1,u2,u3,u4,u5,u6,rfl,-,sr1⟩:=aC;cbv;refine⟨ck0,?_⟩;cbv;refine Jw.eE g0 (n:=0) rfl (o:=4) (m:=1) (by decide) (fun cs aC=>?_);obtain⟨w1,w2,w3,w4,w5,w6,rfl,-,sr0⟩:=aC;cbv;refine SH sr1 sr0 ?_;cbv;exact⟨lt,trivial⟩
def jnT:ByteArray:=⟨#[115,101,108,101,99,116,32,42,32,102,114,111,109,32,116,97,32,106,111,105,110,32,116,98,32,111,110,32,116,97,46,97,32,60,61,32,116,98,46,97]⟩
def qH:az:={ kind:=6,table:=iB 0,join:=iB 1,on:=[eJ (ax [116,97,46,97]),eJ (ax [116,98,46,97]),bin 11 0 1],fw:=-1 }
theorem Ss:dk ao jnT=(qH,0):=by kernel_rfl
theorem Sr:ek jnT=true:=by kernel_rfl
theorem Sq:eG qH:=Dd (by kernel_rfl)
theorem Bb:dm qH (dN++fc)=(⟨-1,-1,false⟩,0):=by kernel_rfl
theorem St{R:Nat->List Row}{log:List iX}{d:DB}(q:AJ R log d):j8 d 0 qH:=j8.E1 rfl (Jm (by decide) (fun y hy=>by
 rw[yd q rfl rfl,Bb]at hy;cases hy;exact⟨fun h=>(by cases h),fun _=>plOk (by decide)⟩))
theorem Gd(x y:Int):ch (iN x) (iN y)=iC x y:=by
 unfold ch;have h1:iC (iN x).k (iN y).k=0:=rfl;have h2:eX (iN x).s (iN y).s=0:=by kernel_rfl
 rw[h1,h2];show(if decide ((0:Int)≠0)=true then 0 else if decide (iC x y≠0)=true then iC x y else if decide ((0:Int)≠0)=true then 0 else 0)=_;by_cases h:iC x y=0
 ·simp[h]
 ·simp[h]
theorem PU(x y:Int):decide (iC x y<=0)=decide (x<=y):=by
 rw[decide_eq_decide];by_cases h1:x<y
 ·have:iC x y=-1:=by unfold iC;rw[if_pos (by simpa using h1)]
  rw[this];constructor<;>intro _<;>omega
 ·by_cases h2:x>y
  ·have:iC x y=1:=by unfold iC;rw[if_neg (by simpa using h1),if_pos (by simpa using h2)]
   rw[this];constructor<;>intro _<;>omega
  ·have:iC x y=0:=by unfold iC;rw[if_neg (by simpa using h1),if_neg (by simpa using h2)]
   rw[this];constructor<;>intro _<;>omega
theorem A4(c:Bool):(decide ((bH c).k=1)&&decide ((bH c).n=1))=c:=by cases c<;>rfl
theorem KR(x y:Int)(v w:dg):dL qH.on (dN++fc) ([iN x,v]++[iN y,w])=(decide (x<=y),0):=by
 have h:eA qH.on (dN++fc) ([iN x,v]++[iN y,w])=(bH (decide (ch (iN x) (iN y)<=0)),0):=by kernel_rfl
 have h2:dL qH.on (dN++fc) ([iN x,v]++[iN y,w])=match eA qH.on (dN++fc) ([iN x,v]++[iN y,w])with
  | (v,f)=>(decide (v.k=1)&&decide (v.n=1),f):=rfl
 rw[h2,h,Gd,PU];show(decide ((bH _).k=1)&&decide ((bH _).n=1),(0:Int))=_;rw[A4]
theorem KS(cols:List bT)(r:Row):dL qH.bM cols r=(true,0):=rfl
def aN(r:Row):Int:=(r.headD v0).n
def jn(a:Row)(bs:List Row):List Row:=(bs.filter fun b=>decide (aN a<=aN b)).map (a++·)
def CN(l bs:List Row):List Row:=l.flatMap fun a=>jn a bs
theorem Fc(a b:Row)(bs:List Row):jn a (b::bs)=if aN a<=aN b then(a++b)::jn a bs else jn a bs:=by
 unfold jn;rw[List.filter_cons];by_cases h:aN a<=aN b
 ·rw[if_pos (by simpa using h),if_pos h,List.map_cons]
 ·rw[if_neg (by simpa using h),if_neg h]
theorem ym{a:Row}(ha:CJ a):∀(bs out:List Row),(∀b∈bs,CJ b)->ef qH (dN++fc) a bs out=(out++jn a bs,0)
 | [],out,_=>by
  show(out,(0:Int))=_;unfold jn;simp
 |b::bs,out,h=>by
  obtain⟨x,v,e1,hr⟩:=ha;obtain⟨y,w,e2,-⟩:=h b List.mem_cons_self;have ih:=fun out=>ym ⟨x,v,e1,hr⟩ bs out (fun b hb=>h b (List.mem_cons_of_mem _ hb));subst e1 e2;have hc:=Fc [iN x,v] [iN y,w] bs;have e:ef qH (dN++fc) [iN x,v] ([iN y,w]::bs) out=match dL qH.on (dN++fc) ([iN x,v]++[iN y,w])with
   | (on,e)=>if e≠0 then(out,e)else if on=false then ef qH (dN++fc) [iN x,v] bs out else match dL qH.bM (dN++fc) ([iN x,v]++[iN y,w])with
    | (is,e)=>if e≠0 then(out,e)else ef qH (dN++fc) [iN x,v] bs (if is=true then out++[[iN x,v]++[iN y,w]]else out):=rfl
  rw[e,KR,KS,hc];by_cases hle:x<=y
  ·rw[decide_eq_true hle,if_pos (show aN [iN x,v]<=aN [iN y,w]from hle)];show ef qH (dN++fc) [iN x,v] bs (out++[[iN x,v]++[iN y,w]])=_;rw[ih];simp
  ·rw[decide_eq_false hle,if_neg (show ¬aN [iN x,v]<=aN [iN y,w]from hle)];show ef qH (dN++fc) [iN x,v] bs out=_;rw[ih]
theorem vz{bs:List Row}(hb:∀b∈bs,CJ b):∀(l out:List Row),(∀a∈l,CJ a)->cy qH (dN++fc) bs l out=(out++CN l bs,0)
 | [],out,_=>by
  show(out,(0:Int))=_;unfold CN;simp
 |a::l,out,h=>by
  have e:cy qH (dN++fc) bs (a::l) out=match ef qH (dN++fc) a bs out with
   | (out,e)=>if e≠0 then(out,e)else cy qH (dN++fc) bs l out:=rfl
  rw[e,ym (h a List.mem_cons_self) bs out hb];show cy qH (dN++fc) bs l (out++jn a bs)=_;rw[vz hb l _ (fun a ha=>h a (List.mem_cons_of_mem _ ha))];unfold CN;rw[List.flatMap_cons,List.append_assoc]
theorem vu{x:az}(hi:x.items.length=0)(cols:List bT):∀(rows out:List Row),jm x cols rows out=(out++rows,0)
 | [],out=>by simp[jm]
 |r::rows,out=>by
  unfold jm;rw[if_pos hi,vu hi cols rows];simp
theorem Gj{A B:List Row}(hA:∀a∈A,CJ a)(hB:∀b∈B,CJ b)(hl:A.length*B.length<=4000):iF qH (dN++fc) A B=(CN A B,0):=by
 unfold iF;rw[Bb];show(if A.length*B.length>4000 then([],4)else match cy qH (dN++fc) B A []with
  | (rows,e)=>if e≠0 then([],e)else if false=true then eS qH (dN++fc) (-1) rows else fC qH (dN++fc) (-1) rows)=_
 rw[if_neg (by omega),vz hB A [] hA];show fC qH (dN++fc) (-1) ([]++CN A B)=_;unfold fC;rw[if_neg (by decide)];have:cH ([]++CN A B) qH.fw=CN A B:=by unfold cH;rw[if_pos (by decide)];rfl
 rw[this,vu rfl];rfl
theorem Ox{R:Nat->List Row}{log:List iX}{d:DB}(al:AL 25 R log d):∃d1,AJ R log d1/\jD d 0 qH=(d1,CN (R 0) (R 1),0):=by
 obtain⟨d1,q1,hd⟩:=ER al.aj (st:=qH) rfl rfl rfl;have hl:(R 0).length*(R 1).length<=4000:=by
  have h1:=al.ln;have h2:=al.le;have h3:(R 0).length<=25:=by omega
  have h4:(R 1).length<=25:=by omega
  have:=Nat.mul_le_mul h3 h4;omega
 rw[Gj (al.rp 0 (by decide)) (al.rp 1 (by decide)) hl]at hd;exact⟨d1,q1,hd⟩
theorem Ko{R0 R1:List Row}{i:Nat}{x:Row}(h:R0[i]? =some x):CN (R0.drop i) R1=jn x R1++CN (R0.drop (i+1)) R1:=by obtain⟨h1,h2⟩:=List.getElem?_eq_some_iff.1 h;rw[List.drop_eq_getElem_cons h1,h2];unfold CN;rw[List.flatMap_cons]
theorem Oy{x y:Row}{R1:List Row}{j:Nat}(h:R1[j]? =some y):jn x (R1.drop j)=if aN x<=aN y then(x++y)::jn x (R1.drop (j+1))else jn x (R1.drop (j+1)):=by obtain⟨h1,h2⟩:=List.getElem?_eq_some_iff.1 h;rw[List.drop_eq_getElem_cons h1,h2,Fc]
theorem TK{xs:List AG}{h:ad}{b:Option Addr}{n c:Nat}(q:xL lR h (.slice b n c) xs){st:az}(fO:dk ao jnT=(st,0))(hx:eG st)(xg:∀ {R log d},AJ R log d->j8 d 0 st)(hjd:∀ {R log d},AL 25 R log d->∃d1,AJ R log d1/\jD d 0 st=(d1,CN (R 0) (R 1),0)):Ct 6 [.slice b n c] h (fun v h'=>Le h h'/\v=.bool true):=by
 obtain⟨A,hA⟩:=Ar.ex;have AS:A .not true=false:=by rw[hA.not];rfl
 refine ah A (ar T6.aA T6.bm) Tryz.func6 rfl (by kernel_rfl) ?_;cbv;refine(zV h).mono (fun v h1 hR=>?_);obtain⟨l1,hv⟩:=hR;subst hv;cbv;rw[AS];cbv;refine FX (q.mono l1) (fun h3 b1 n1 c1 b2 n2 c2 b3 n3 c3 b4 n4 c4 R log d l2 AH al=>?_);obtain⟨d1,aj1,hD⟩:=hjd al;cbv;refine doT AH al.ej (by decide) Sr fO hx (xg al.aj) (fun h6 x1 m1 y1 x2 m2 y2 x3 m3 y3 x4 m4 y4 pb pn pc l6 EW s6=>?_);rw[hD]at s6 |-;obtain⟨PR,hPR⟩:∃PR,PR=CN (R 0) (R 1):=⟨_,rfl⟩;replace s6:Sl 59 aL h6 (.slice pb pn pc) PR:=by rw[hPR];exact s6
 have Jw:=(AH.mono l6).A7;have rp0:=al.rp 0 (by decide);have rp1:=al.rp 1 (by decide);have vQ:(R 0).length<=25:=by have:=al.ln;have:=al.le;omega
 have AO:(R 1).length<=25:=by have:=al.ln;have:=al.le;omega
 have Dc:=al.aj.aE;have lt:Le h h6:=(l1.trans l2).trans l6;have HA:A .aG .neq 0 0=false:=by rw[aB A];rfl
 clear hjd xg hx fO hD aj1 al AH EW l1 l2 l6 q;generalize R 0=R0 at *;generalize R 1=R1 at *;have ma:n1=3:=by rw[Jw.len,Dc];rfl
 subst ma;have g0:d.aE[0]? =some ⟨aT 0,R0⟩:=by rw[Dc];rfl
 have g1:d.aE[1]? =some ⟨aT 1,R1⟩:=by rw[Dc];rfl
 have ck0:b1.isSome=true/\(0:Int)<=0/\(0:Int)<((3:Nat):Int):=⟨Jw.bu (by omega),by omega,by omega⟩;have ck1:b1.isSome=true/\(0:Int)<=1/\(1:Int)<((3:Nat):Int):=⟨Jw.bu (by omega),by omega,by omega⟩;clear Dc;have MT:pn=PR.length:=s6.len;have hpb:=s6.bound.1;obtain⟨I,bl⟩:∃I:Nat->Int×Int->ad->Prop,∀m g h',I m g h'=∃i kk P1,aS g.2 i/\aS g.1 kk/\i<=R0.length/\m=R0.length-i/\h'=h6/\PR=P1++CN (R0.drop i) R1/\kk=P1.length:=⟨_,fun _ _ _=>rfl⟩;have hJ:I R0.length (0,0) h6:=by rw[bl];exact⟨0,0,[],⟨rfl⟩,⟨rfl⟩,Nat.zero_le _,rfl,rfl,by rw[hPR];rfl,rfl⟩
 cbv;rw[HA];cbv;refine aX.go (G:=Int×Int) (fun g=>[(8,.v (.int .i64 g.2)),(7,.v (.int .i64 g.1))]) (fun _=>[(3,[.slice b1 3 c1,.slice b2 n2 c2,.slice b3 n3 c3,.slice b4 n4 c4]),(4,[.slice x1 m1 y1,.slice x2 m2 y2,.slice x3 m3 y3,.slice x4 m4 y4])]) (fun m g h'=>I m g h') R0.length (0,0) ⟨?_,?_,?_⟩ hJ ?_
 ·cbv
 ·cbv
 ·cbv
 ·intro m g h7 hI;rw[bl]at hI;cbv;obtain⟨i,kk,P1,hz,Ri,hi,hm,rfl,hP,Ah⟩:=hI;obtain⟨kz,z⟩:=g;replace hz:aS z i:=hz;replace Ri:aS kz kk:=Ri;refine⟨ck0,?_⟩;cbv;refine Jw.eE g0 (n:=0) rfl (o:=4) (m:=1) (by decide) (fun cs aC=>?_);obtain⟨u1,u2,u3,u4,u5,u6,rfl,-,sr⟩:=aC;have Ig:=sr.len;replace Ig:u5=R0.length:=Ig;have f1:A .aG .lss z (A .nat u5)=decide (i<R0.length):=by rw[Ig];exact hz.gy (aS.nat R0.length)
  cbv;rw[f1];by_cases aK:i<R0.length
  ·obtain⟨x,hx⟩:=aI (xs:=R0) (i:=i) aK;have fA:=hz.eq;obtain⟨xa,xv,CP,-⟩:=rp0 x (List.mem_of_getElem? hx);have hzu:0<=z/\z<(u5:Int):=by omega
   have dD:=hz.succ (A:=A) (by omega);obtain⟨z2,fN⟩:∃z2,A .bA .add .i64 z 1=z2:=⟨_,rfl⟩;rw[fN]at dD;rw[Ko hx]at hP;obtain⟨Q,hQ⟩:∃Q,Q=CN (R0.drop (i+1)) R1:=⟨_,rfl⟩;rw[<-hQ]at hP;have hIn:∀Ia Kf P',aS Ia Kf->PR=P'++Q->Kf=P'.length->I (R0.length-(i+1)) (Ia,z2) h7:=fun Ia Kf P' h1 h2 h3=>by
    rw[bl];exact⟨i+1,Kf,P',dD,h1,aK,rfl,rfl,by rw[h2,hQ],h3⟩
   have hlm:R0.length-(i+1)<m:=by omega
   obtain⟨J,eR⟩:∃J:Nat->Int×Int->ad->Prop,∀m g h',J m g h'=∃j kk P1,aS g.2 j/\aS g.1 kk/\j<=R1.length/\m=R1.length-j/\h'=h7/\PR=P1++(jn x (R1.drop j)++Q)/\kk=P1.length:=⟨_,fun _ _ _=>rfl⟩;have Pf:J R1.length (kz,0) h7:=by rw[eR];exact⟨0,kk,P1,⟨rfl⟩,Ri,Nat.zero_le _,rfl,rfl,hP,Ah⟩
   obtain⟨mm,D4⟩:∃mm,mm=R0.length-(i+1):=⟨_,rfl⟩;rw[<-D4]at hIn hlm;clear bl hJ hP Ah Ri hQ HA;rw[decide_eq_true aK];cbv;refine aX.go (G:=Int×Int) (fun g=>[(9,.v (.int .i64 g.2)),(7,.v (.int .i64 g.1))]) (fun _=>[(3,[.slice b1 3 c1,.slice b2 n2 c2,.slice b3 n3 c3,.slice b4 n4 c4]),(4,[.slice x1 m1 y1,.slice x2 m2 y2,.slice x3 m3 y3,.slice x4 m4 y4])]) (fun m g h'=>J m g h') R1.length (kz,0) ⟨?_,?_,?_⟩ Pf ?_
   ·cbv
   ·cbv
   ·cbv
   ·intro m' g h8 hJ;rw[eR]at hJ;cbv;obtain⟨j,Kf,P',Xl,D7,hj,j0,rfl,RB,Hl⟩:=hJ;obtain⟨Ia,zj⟩:=g;replace Xl:aS zj j:=Xl;replace D7:aS Ia Kf:=D7;refine⟨ck1,?_⟩;cbv;refine Jw.eE g1 (n:=1) rfl (o:=4) (m:=1) (by decide) (fun cs aC=>?_);obtain⟨v1,v2,v3,v4,v5,v6,rfl,-,sr1⟩:=aC;have MQ:=sr1.len;replace MQ:v5=R1.length:=MQ;have f2:A .aG .lss zj (A .nat v5)=decide (j<R1.length):=by rw[MQ];exact Xl.gy (aS.nat R1.length)
    cbv;rw[f2];by_cases OZ:j<R1.length
    ·obtain⟨y,hy⟩:=aI (xs:=R1) (i:=j) OZ;have hzje:=Xl.eq;obtain⟨ya,yv,Y7,-⟩:=rp1 y (List.mem_of_getElem? hy);have OP:0<=zj/\zj<(v5:Int):=by omega
     have ZC:=Xl.succ (A:=A) (by omega);obtain⟨zj2,Ur⟩:∃z2,A .bA .add .i64 zj 1=z2:=⟨_,rfl⟩;rw[Ur]at ZC;rw[Oy hy]at RB;obtain⟨xs2,hxs2⟩:∃xs2:Nat,xs2=2:=⟨_,rfl⟩;have Y9:x[0]? =some (iN xa):=by rw[CP];rfl
     have Ux:x[1]? =some xv:=by rw[CP];rfl
     have hy0:y[0]? =some (iN ya):=by rw[Y7];rfl
     have hy1:y[1]? =some yv:=by rw[Y7];rfl
     have haN:aN x<=aN y↔xa<=ya:=by rw[CP,Y7];exact Iff.rfl
     have Vb:R1.length-(j+1)<m':=by omega
     obtain⟨mj,hmj⟩:∃mj,mj=R1.length-(j+1):=⟨_,rfl⟩;have hJn:∀k2 kk2 P2,aS k2 kk2->PR=P2++(jn x (R1.drop (j+1))++Q)->kk2=P2.length->J mj (k2,zj2) h8:=fun k2 kk2 P2 h1 h2 h3=>by
      rw[eR];exact⟨j+1,kk2,P2,ZC,h1,OZ,hmj,rfl,h2,h3⟩
     rw[<-hmj]at Vb;have c20:(0:Int)<=0/\(0:Int)<((2:Nat):Int):=by decide
     have c21:(0:Int)<=1/\(1:Int)<((2:Nat):Int):=by decide
     have fgt:A .aG .gtr xa ya=decide (xa>ya):=bJ A ..;clear eR Pf hIn;rw[decide_eq_true OZ];cbv;refine⟨ck0,?_⟩;cbv;refine Jw.eE g0 (n:=0) rfl (o:=4) (m:=1) (by decide) (fun cs aC=>?_);obtain⟨_,_,_,p4,p5,p6,rfl,-,sx⟩:=aC;replace sx:Sl 59 aL h8 (.slice p4 p5 p6) R0:=sx;have hp5:p5=u5:=by rw[Ig];exact sx.len
     subst hp5;cbv;refine⟨⟨sx.bu (by omega),hzu⟩,?_⟩;cbv;refine iO sx hx fA (fun xb xn xc qx=>?_);have KF:xn=2:=by rw[qx.len,CP];rfl
     subst KF;cbv;refine⟨ck1,?_⟩;cbv;refine Jw.eE g1 (n:=1) rfl (o:=4) (m:=1) (by decide) (fun cs aC=>?_);obtain⟨_,_,_,r4,r5,r6,rfl,-,sy⟩:=aC;replace sy:Sl 59 aL h8 (.slice r4 r5 r6) R1:=sy;have Zr:r5=v5:=by rw[MQ];exact sy.len
     subst Zr;cbv;refine⟨⟨sy.bu (by omega),OP⟩,?_⟩;cbv;refine iO sy hy hzje (fun yb yn yc qy=>?_);have hyn:yn=2:=by rw[qy.len,Y7];rfl
     subst hyn;have xsm:=qx.bu (by omega);have ysm:=qy.bu (by omega);cbv;refine⟨⟨xsm,c20⟩,?_⟩;cbv;refine qx.eE Y9 (n:=0) rfl (o:=1) (m:=1) (by decide) (fun cs aC=>?_);replace aC:cs=[.int .i64 2,.int .i64 xa,.string b0]:=aC;subst aC;cbv;refine⟨⟨ysm,c20⟩,?_⟩;cbv;refine qy.eE hy0 (n:=0) rfl (o:=1) (m:=1) (by decide) (fun cs aC=>?_);replace aC:cs=[.int .i64 2,.int .i64 ya,.string b0]:=aC;subst aC;cbv;rw[fgt];by_cases hgt:xa>ya
     ·rw[if_neg (by rw[haN];omega)]at RB;have jt:=hJn Ia Kf P' D7 RB Hl;clear hJn;rw[decide_eq_true hgt];cbv;rw[Ur];refine⟨mj,(_,_),Vb,⟨?_,?_,?_⟩,jt⟩
      ·cbv
      ·cbv
      ·cbv
     ·rw[if_pos (by rw[haN];omega)]at RB;have UN:PR[Kf]? =some (x++y):=by rw[RB,Hl,List.getElem?_append_right (Nat.le_refl _),Nat.sub_self];rfl
      have BQ:=D7.eq;have ZK:Kf<pn:=by rw[MT];exact(List.getElem?_eq_some_iff.1 UN).1
      have K1:pb.isSome=true/\0<=Ia/\Ia<(pn:Int):=⟨s6.bu (by omega),D7.ix ZK⟩;have fge:A .aG .geq Ia (A .nat pn)=false:=by rw[bS A,decide_eq_false_iff_not,hA.nat];show ¬Ia>=(pn:Int);omega
      have f44:A .aG .neq (A .nat 4) 4=false:=by rw[aB A,hA.nat];rfl
      have Fp:=D7.succ (A:=A) (by omega);obtain⟨kz2,ZJ⟩:∃z2,A .bA .add .i64 Ia 1=z2:=⟨_,rfl⟩;rw[ZJ]at Fp;have jt:=hJn kz2 (Kf+1) (P'++[x++y]) Fp (by rw[RB];simp) (by rw[Hl];simp);have Ic:x++y=[iN xa,xv,iN ya,yv]:=by rw[CP,Y7];rfl
      rw[Ic]at UN;have c40:(0:Int)<=0/\(0:Int)<((4:Nat):Int):=by decide
      have c41:(0:Int)<=1/\(1:Int)<((4:Nat):Int):=by decide
      have c42:(0:Int)<=2/\(2:Int)<((4:Nat):Int):=by decide
      have c43:(0:Int)<=3/\(3:Int)<((4:Nat):Int):=by decide
      have ev:∀v:dg,A .not (A .and (A .aG .eql v.k v.k) (A .and (A .aG .eql v.n v.n) (A .and (A .iY .eql v.s v.s) true)))=false:=fun v=>by rw[uM A v v,Cg];exact AS
      have XI:A .not (A .and (A .aG .eql 2 2) (A .and (A .aG .eql xa xa) (A .and (A .iY .eql ⟨#[]⟩ ⟨#[]⟩) true)))=false:=ev (iN xa);have evy:A .not (A .and (A .aG .eql 2 2) (A .and (A .aG .eql ya ya) (A .and (A .iY .eql ⟨#[]⟩ ⟨#[]⟩) true)))=false:=ev (iN ya);have evv:=ev xv;have evw:=ev yv;clear hJn RB ev;rw[decide_eq_false hgt];cbv;rw[fge];cbv;refine⟨K1,?_⟩;cbv;refine iO s6 UN BQ (fun a1 a2 a3 qa=>?_);have Fu:a2=4:=qa.len;subst Fu;cbv;rw[f44];cbv;refine⟨K1,?_⟩;cbv;refine iO s6 UN BQ (fun a1 a2 a3 qa=>?_);have Fu:a2=4:=qa.len;subst Fu;have WO:=qa.bu (by omega);cbv;refine⟨⟨WO,c40⟩,?_⟩;cbv;refine qa.load (i:=0) (n:=0) rfl rfl (fun cs aC=>?_);replace aC:cs=[.int .i64 2,.int .i64 xa,.string b0]:=aC;subst aC;cbv;refine⟨⟨xsm,c20⟩,?_⟩;cbv;refine qx.load (i:=0) (n:=0) Y9 rfl (fun cs aC=>?_);replace aC:cs=[.int .i64 2,.int .i64 xa,.string b0]:=aC;subst aC;cbv;rw[XI];cbv;refine⟨K1,?_⟩;cbv;refine iO s6 UN BQ (fun a1 a2 a3 qa=>?_);have Fu:a2=4:=qa.len;subst Fu;have WO:=qa.bu (by omega);cbv;refine⟨⟨WO,c41⟩,?_⟩;cbv;refine qa.load (i:=1) (n:=1) rfl rfl (fun cs aC=>?_);replace aC:cs=[.int .i64 xv.k,.int .i64 xv.n,.string xv.s]:=aC;subst aC;cbv;refine⟨⟨xsm,c21⟩,?_⟩;cbv;refine qx.load (i:=1) (n:=1) Ux rfl (fun cs aC=>?_);replace aC:cs=[.int .i64 xv.k,.int .i64 xv.n,.string xv.s]:=aC;subst aC;cbv;rw[evv];cbv;refine⟨K1,?_⟩;cbv;refine iO s6 UN BQ (fun a1 a2 a3 qa=>?_);have Fu:a2=4:=qa.len;subst Fu;have WO:=qa.bu (by omega);cbv;refine⟨⟨WO,c42⟩,?_⟩;cbv;refine qa.load (i:=2) (n:=2) rfl rfl (fun cs aC=>?_);replace aC:cs=[.int .i64 2,.int .i64 ya,.string b0]:=aC;subst aC;cbv;refine⟨⟨ysm,c20⟩,?_⟩;cbv;refine qy.load (i:=0) (n:=0) hy0 rfl (fun cs aC=>?_);replace aC:cs=[.int .i64 2,.int .i64 ya,.string b0]:=aC;subst aC;cbv;rw[evy];cbv;refine⟨K1,?_⟩;cbv;refine iO s6 UN BQ (fun a1 a2 a3 qa=>?_);have Fu:a2=4:=qa.len;subst Fu;have WO:=qa.bu (by omega);cbv;refine⟨⟨WO,c43⟩,?_⟩;cbv;refine qa.load (i:=3) (n:=3) rfl rfl (fun cs aC=>?_);replace aC:cs=[.int .i64 yv.k,.int .i64 yv.n,.string yv.s]:=aC;subst aC;cbv;refine⟨⟨ysm,c21⟩,?_⟩;cbv;refine qy.load (i:=1) (n:=1) hy1 rfl (fun cs aC=>?_);replace aC:cs=[.int .i64 yv.k,.int .i64 yv.n,.string yv.s]:=aC;subst aC;cbv;rw[evw];cbv;rw[ZJ,Ur];refine⟨mj,(_,_),Vb,⟨?_,?_,?_⟩,jt⟩
      ·cbv
      ·cbv
      ·cbv
    ·have RA:PR=P'++Q:=by rw[RB,List.drop_eq_nil_of_le (by omega)];unfold jn;simp
     have uL:=hIn Ia Kf P' D7 RA Hl;clear eR Pf hIn;rw[decide_eq_false OZ];cbv;rw[fN];refine⟨mm,(_,_),hlm,⟨?_,?_,?_⟩,uL⟩
     ·cbv
     ·cbv
     ·cbv
  ·have RA:PR=P1:=by rw[hP,List.drop_eq_nil_of_le (by omega)];unfold CN;simp
   have KY:kk=pn:=by rw[Ah,MT,RA]
   have fe:A .aG .eql kz (A .nat pn)=true:=by rw[aw A,hA.nat];have:=Ri.eq;simp;omega
   clear bl hJ;rw[decide_eq_false aK];cbv;rw[fe];exact⟨lt,rfl⟩
theorem TL{xs:List AG}{h:ad}{b:Option Addr}{n c:Nat}(q:xL lR h (.slice b n c) xs):Ct 6 [.slice b n c] h (fun v h'=>Le h h'/\v=.bool true):=
 TK q Ss Sq (fun aj=>St aj) (fun al=>Ox al)
end Go.S
