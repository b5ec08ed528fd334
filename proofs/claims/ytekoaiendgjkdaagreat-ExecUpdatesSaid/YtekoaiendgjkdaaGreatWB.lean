import Derived.Test.YtekoaiendgjkdaaGreatWA
import Derived.Test.YtekoaiendgjkdaaGreatQA
import Derived.Test.YtekoaiendgjkdaaGreatI2a
import Derived.Test.YtekoaiendgjkdaaGreatGB
import Derived.Test.YtekoaiendgjkdaaGreatQF
set_option linter.unusedVariables false
set_option linter.unusedSimpArgs false
set_option linter.unusedSectionVars false
set_option maxRecDepth 100000
set_option maxHeartbeats 8000000
namespace Go.S
open Go.Sx Go.Proofs
theorem mi(a:Int)(n:Nat)(hn:0<n)(nN:n<=2^40)(h:ad){k:Value->ad->Prop}(hk:∀z i,aS z i->i=(a % (n:Int)).toNat->i<n->k (.int .i64 z) h):Ct 75 [.int .i64 a,.int .i64 (n:Int)] h k:=by
 obtain⟨A,hA⟩:=Ar.ex;obtain⟨m,hm⟩:∃m:Int,m=(n:Int):=⟨_,rfl⟩;rw[<-hm];have KW:m≠0:=by omega
 have DU:A .bA .rem .i64 a m=a.tmod m:=by rw[hA.bA];rfl
 have ll:a.tmod m<m:=by have:=Int.tmod_lt_of_pos a (show 0<m by omega);omega
 have jS:-m<a.tmod m:=by have:=Int.lt_tmod_of_pos a (show 0<m by omega);omega
 have BU:a % m=if a.tmod m<0 then a.tmod m+m else a.tmod m:=by
  rw[Int.tmod_eq_emod];have h1:=Int.emod_nonneg a KW;have h2:=Int.emod_lt_of_pos a (show 0<m by omega);by_cases hc:0<=a\/m ∣ a
  ·rw[if_pos hc];rw[if_neg (by omega)];omega
  ·rw[if_neg hc];have:(m.natAbs:Int)=m:=by omega
   rw[this,if_pos (by omega)];omega
 generalize ht:a.tmod m=t at *;generalize eu:A .aG .lss t 0=u;have fu:=eu;rw[bE A]at eu;have key:∀z:Int,z=a % m->k (.int .i64 z) h:=fun z hz=>by
  have h1:=Int.emod_nonneg a KW;have h2:=Int.emod_lt_of_pos a (show 0<m by omega);refine hk z (a % (n:Int)).toNat ⟨?_⟩ rfl ?_
  ·rw[<-hm];omega
  ·rw[<-hm];omega
 have rJ:t<0->A .bA .add .i64 t m=t+m:=fun h=>by
  rw[hA.bA];simp only[bA];rw[IntWalk.i64_in _ (by omega)]
 refine ah A (ar T75.aA T75.bm) Tryz.func75 rfl (by kernel_rfl) ?_;cbv;refine⟨KW,?_⟩;cbv;rw[DU];rw[fu];cases u with
 |true=>have Ae:=of_decide_eq_true eu;have nh:=key (t+m) (by rw[BU,if_pos Ae]);cbv;rw[rJ Ae];exact nh
 |false=>have Ae:=of_decide_eq_false eu;have nh:=key t (by rw[BU,if_neg Ae]);cbv;exact nh
def Ja(t:Nat):UInt8:=UInt8.ofNat (97+t)
def oI(t:Nat):By:=[105,110,115,101,114,116,32,105,110,116,111,32,116]++(Ja t::[32,118,97,108,117,101,115,32,40])
def pT(n x y t:Nat):By:=oI t++(if n<3 then cj x++([44,32,39,118]++(cj y++[39,41]))else cj x++([32,43,32]++(cj y++[44,32,110,117,108,108,41])))
def NL:List ByteArray:=[ax [116,97],ax [116,98],ax [116,99]]
theorem I9{t:Nat}{s:ByteArray}(h:NL[t]? =some s):s=ax [116,Ja t]:=by
 match t with
 |0=>cases h;rfl
 |1=>cases h;rfl
 |2=>cases h;rfl
 |t+3=>cases h
def So:List ByteArray:=[ax [116,98],ax [116,99],ax [116,97]]
theorem sqlK{n:Nat}{zn:Int}(hn:aS zn n)(hn4:n<4)(a b:Int)(h:ad){k:Value->ad->Prop}(hk:∀h',Le h h'->k (.string (ax (pT n (a % 30).toNat (b % 30).toNat (b % 3).toNat))) h'):Ct 37 [.int .i64 zn,.int .i64 a,.int .i64 b] h k:=by
 obtain⟨A,hA⟩:=Ar.ex;refine ah A (ar T37.aA T37.bm) Tryz.func37 rfl (by kernel_rfl) ?_;cbv;intro nb1 h1 f1 e1;have l1:Le h h1:=by rw[e1];exact Le.set f1
 have s1:Sl 9 cB h1 (.slice (some ⟨nb1,0,none⟩) 3 3) NL:=qS (l:=NL) ((congrFun e1 nb1).trans af) (by decide);clear e1;cbv;refine mi b 3 (by decide) (by decide) h1 (fun zt1 t1 mJ Q4 AO=>?_);have rI:0<=zt1/\zt1<((3:Nat):Int):=mJ.ix AO;obtain⟨nm,yE⟩:=aI (xs:=NL) (i:=t1) AO;have hze1:=mJ.eq;cbv;refine⟨⟨rfl,rI⟩,?_⟩;cbv;refine s1.load yE hze1 (fun cs aC=>?_);replace aC:cs=[.string nm]:=aC;subst aC;cbv;intro xd h2 f2 e2;have l2:Le h1 h2:=by rw[e2];exact Le.set f2
 have s2:Sl 9 cB h2 (.slice (some ⟨xd,0,none⟩) 3 3) So:=qS (l:=So) ((congrFun e2 xd).trans af) (by decide);clear e2;cbv;refine mi b 3 (by decide) (by decide) h2 (fun zt2 t2 fN Zj tO=>?_);have kW:0<=zt2/\zt2<((3:Nat):Int):=fN.ix tO;obtain⟨un,hun⟩:=aI (xs:=So) (i:=t2) tO;have hze2:=fN.eq;cbv;refine⟨⟨rfl,kW⟩,?_⟩;cbv;refine s2.load hun hze2 (fun cs aC=>?_);replace aC:cs=[.string un]:=aC;subst aC;cbv;refine mi a 30 (by decide) (by decide) h2 (fun zx x hzx hx hlx=>?_);have Y1:zx=(x:Int):=hzx.eq;cbv;refine wF x zx Y1 (by omega) h2 (fun h3 l3=>?_);obtain⟨xs,uK⟩:∃xs,ax (cj x)=xs:=⟨_,rfl⟩;rw[uK];cbv;refine mi b 30 (by decide) (by decide) h3 (fun zy y hzy hy hly=>?_);have Y0:zy=(y:Int):=hzy.eq;cbv;refine wF y zy Y0 (by omega) h3 (fun h4 l4=>?_);obtain⟨ys,Ib⟩:∃ys,ax (cj y)=ys:=⟨_,rfl⟩;rw[Ib];have zxs:xs.size<=3:=by rw[<-uK,dn];exact lF x (by omega)
 have zys:ys.size<=3:=by rw[<-Ib,dn];exact lF y (by omega)
 have UU:=I9 yE;have znm:nm.size=2:=by rw[UU];rfl
 have IA:∀a b:ByteArray,(A .cat a b).size=a.size+b.size:=fun a b=>Cv a b;obtain⟨w1,tL⟩:∃c,A .cat ⟨#[32,119,104,101,114,101,32,97,32,61,32]⟩ xs=c:=⟨_,rfl⟩;obtain⟨w2,pN⟩:∃c,A .cat ⟨#[32,119,104,101,114,101,32,97,32,62,32]⟩ xs=c:=⟨_,rfl⟩;obtain⟨w3,UA⟩:∃c,A .cat w2 ⟨#[32,97,110,100,32,98,32,105,115,32,110,117,108,108]⟩=c:=⟨_,rfl⟩;obtain⟨w4,hw4⟩:∃c,A .cat ⟨#[32,119,104,101,114,101,32,110,111,116,32,40,97,32,60,32]⟩ xs=c:=⟨_,rfl⟩;obtain⟨w5,hw5⟩:∃c,A .cat w4 ⟨#[41,32,111,114,32,98,32,61,32,39,99,39]⟩=c:=⟨_,rfl⟩;obtain⟨w6,QY⟩:∃c,A .cat ⟨#[32,119,104,101,114,101,32,97,32,43,32,49,32,60,61,32]⟩ xs=c:=⟨_,rfl⟩;obtain⟨w7,hw7⟩:∃c,A .cat w6 ⟨#[32,42,32,50]⟩=c:=⟨_,rfl⟩;have yw1:((11+xs.size:Nat):Int)<=2^62:=by omega
 have zw1:w1.size=11+xs.size:=by rw[<-tL,IA];rfl
 have yw2:((11+xs.size:Nat):Int)<=2^62:=by omega
 have zw2:w2.size=11+xs.size:=by rw[<-pN,IA];rfl
 have yw3:((w2.size+14:Nat):Int)<=2^62:=by omega
 have yw4:((16+xs.size:Nat):Int)<=2^62:=by omega
 have zw4:w4.size=16+xs.size:=by rw[<-hw4,IA];rfl
 have yw5:((w4.size+12:Nat):Int)<=2^62:=by omega
 have yw6:((16+xs.size:Nat):Int)<=2^62:=by omega
 have zw6:w6.size=16+xs.size:=by rw[<-QY,IA];rfl
 have yw7:((w6.size+4:Nat):Int)<=2^62:=by omega
 obtain⟨WL,hWL⟩:∃WL:List ByteArray,WL=[⟨#[]⟩,w1,w3,w5,w7,⟨#[32,119,104,101,114,101,32,98,32,60,32,39,100,39]⟩]:=⟨_,rfl⟩;have hq:A .bA .quo .i64 a 7=A .bA .quo .i64 a 7:=rfl;obtain⟨zq,hzq⟩:∃zq,A .bA .quo .i64 a 7=zq:=⟨_,rfl⟩;obtain⟨q1,Hf⟩:∃c,A .cat ⟨#[105,110,115,101,114,116,32,105,110,116,111,32]⟩ nm=c:=⟨_,rfl⟩;obtain⟨q2,Rb⟩:∃c,A .cat q1 ⟨#[32,118,97,108,117,101,115,32,40]⟩=c:=⟨_,rfl⟩;obtain⟨q3,MS⟩:∃c,A .cat q2 xs=c:=⟨_,rfl⟩;obtain⟨q4,Zt⟩:∃c,A .cat q3 ⟨#[44,32,39,118]⟩=c:=⟨_,rfl⟩;obtain⟨q5,Ra⟩:∃c,A .cat q4 ys=c:=⟨_,rfl⟩;obtain⟨q6,Zs⟩:∃c,A .cat q5 ⟨#[39,41]⟩=c:=⟨_,rfl⟩;obtain⟨r4,hr4⟩:∃c,A .cat q3 ⟨#[32,43,32]⟩=c:=⟨_,rfl⟩;obtain⟨r5,Zr⟩:∃c,A .cat r4 ys=c:=⟨_,rfl⟩;obtain⟨r6,hr6⟩:∃c,A .cat r5 ⟨#[44,32,110,117,108,108,41]⟩=c:=⟨_,rfl⟩;have zq1:q1.size=12+nm.size:=by rw[<-Hf,IA]<;>rfl
 have zq2:q2.size=q1.size+9:=by rw[<-Rb,IA]<;>rfl
 have zq3:q3.size=q2.size+xs.size:=by rw[<-MS,IA]<;>rfl
 have zq4:q4.size=q3.size+4:=by rw[<-Zt,IA]<;>rfl
 have zq5:q5.size=q4.size+ys.size:=by rw[<-Ra,IA]<;>rfl
 have zr4:r4.size=q3.size+3:=by rw[<-hr4,IA]<;>rfl
 have zr5:r5.size=r4.size+ys.size:=by rw[<-Zr,IA]<;>rfl
 have yq1:((12+nm.size:Nat):Int)<=2^62:=by omega
 have yq2:((q1.size+9:Nat):Int)<=2^62:=by omega
 have yq3:((q2.size+xs.size:Nat):Int)<=2^62:=by omega
 have yq4:((q3.size+4:Nat):Int)<=2^62:=by omega
 have yq5:((q4.size+ys.size:Nat):Int)<=2^62:=by omega
 have yq6:((q5.size+2:Nat):Int)<=2^62:=by omega
 have yr4:((q3.size+3:Nat):Int)<=2^62:=by omega
 have yr5:((r4.size+ys.size:Nat):Int)<=2^62:=by omega
 have yr6:((r5.size+7:Nat):Int)<=2^62:=by omega
 have ap:∀x y:By,A .cat (ax x) (ax y)=ax (x++y):=fun x y=>by rw[hA.cat];exact kn x y
 have g1:q1=ax ([105,110,115,101,114,116,32,105,110,116,111,32]++[116,Ja t1]):=by rw[<-Hf,UU];exact ap [105,110,115,101,114,116,32,105,110,116,111,32] _
 have g2:q2=ax (oI t1):=by rw[<-Rb,g1];exact ap _ [32,118,97,108,117,101,115,32,40]
 have g3:q3=ax (oI t1++cj x):=by rw[<-MS,g2,<-uK];exact ap _ _
 have g4:q4=ax (oI t1++cj x++[44,32,39,118]):=by rw[<-Zt,g3];exact ap _ [44,32,39,118]
 have g5:q5=ax (oI t1++cj x++[44,32,39,118]++cj y):=by rw[<-Ra,g4,<-Ib];exact ap _ _
 have g6:q6=ax (pT 0 x y t1):=by rw[<-Zs,g5];refine(ap _ [39,41]).trans ?_;unfold pT;rw[if_pos (by decide)];simp only[List.append_assoc]
 have k4:r4=ax (oI t1++cj x++[32,43,32]):=by rw[<-hr4,g3];exact ap _ [32,43,32]
 have k5:r5=ax (oI t1++cj x++[32,43,32]++cj y):=by rw[<-Zr,k4,<-Ib];exact ap _ _
 have k6:r6=ax (pT 3 x y t1):=by rw[<-hr6,k5];refine(ap _ [44,32,110,117,108,108,41]).trans ?_;unfold pT;rw[if_neg (by decide)];simp only[List.append_assoc]
 have Xr:n<3->pT n x y t1=pT 0 x y t1:=fun h=>by unfold pT;rw[if_pos h,if_pos (by decide)]
 have hX:x=(a % 30).toNat:=hx;have hY:y=(b % 30).toNat:=hy;have hT:t1=(b % 3).toNat:=Q4;have Rp:n<3->∀h',Le h h'->k (.string q6) h':=fun h3 h' l=>by rw[g6,<-Xr h3,hX,hY,hT];exact hk h' l
 have Ro:n=3->∀h',Le h h'->k (.string r6) h':=fun h3 h' l=>by rw[k6,<-h3,hX,hY,hT];exact hk h' l
 have Ff:=hn.eq;clear g1 g2 g3 g4 g5 g6 k4 k5 k6 Xr hX hY hT hx hy Q4 Zj UU ap IA hk uK Ib Y1 Y0 znm zxs zys zq1 zq2 zq3 zq4 zq5 zr4 zr5 zw1 zw2 zw4 zw6 yE hun;cbv;refine⟨yw1,?_⟩;cbv;rw[tL];refine⟨yw2,?_⟩;cbv;rw[pN];refine⟨yw3,?_⟩;cbv;rw[UA];refine⟨yw4,?_⟩;cbv;rw[hw4];refine⟨yw5,?_⟩;cbv;rw[hw5];refine⟨yw6,?_⟩;cbv;rw[QY];refine⟨yw7,?_⟩;cbv;rw[hw7];intro YD h5 f5 e5;have l5:Le h4 h5:=by rw[e5];exact Le.set f5
 have s5:Sl 9 cB h5 (.slice (some ⟨YD,0,none⟩) 6 6) WL:=by rw[hWL];exact qS (l:=[⟨#[]⟩,w1,w3,w5,w7,⟨#[32,119,104,101,114,101,32,98,32,60,32,39,100,39]⟩]) ((congrFun e5 YD).trans af) (by simp)
 have hWl:WL.length=6:=by rw[hWL];rfl
 clear e5 hWL;cbv;refine⟨by decide,?_⟩;cbv;rw[hzq];refine mi zq 6 (by decide) (by decide) h5 (fun zt3 t3 Fg ht3 xD=>?_);have ur:0<=zt3/\zt3<((6:Nat):Int):=Fg.ix xD;obtain⟨ww,hww⟩:=aI (xs:=WL) (i:=t3) (by rw[hWl];exact xD);have hze3:=Fg.eq;cbv;refine⟨⟨rfl,ur⟩,?_⟩;cbv;refine s5.load hww hze3 (fun cs aC=>?_);replace aC:cs=[.string ww]:=aC;subst aC;cbv;refine mi zn 24 (by decide) (by decide) h5 (fun zm m Y2 hm hlm=>?_);have KV:m=n:=by have:=hn.eq;rw[hm,this];omega
 subst KV;have hzm2:=Y2.eq;have lt:Le h h5:=(((l1.trans l2).trans l3).trans l4).trans l5;have fe0:A .aG .eql zm 0=decide (m=0):=by rw[aw A,decide_eq_decide];omega
 have fe1:A .aG .eql zm 1=decide (m=1):=by rw[aw A,decide_eq_decide];omega
 have fe2:A .aG .eql zm 2=decide (m=2):=by rw[aw A,decide_eq_decide];omega
 have fe3:A .aG .eql zm 3=decide (m=3):=by rw[aw A,decide_eq_decide];omega
 have VD:m<3->k (.string q6) h5:=fun h3=>Rp h3 h5 lt;have hA4:m=3->k (.string r6) h5:=fun h3=>Ro h3 h5 lt;have hm4:m=0\/m=1\/m=2\/m=3:=by omega
 clear Rp Ro s5 s1 s2;rcases hm4 with rfl|rfl|rfl|rfl
 ·have hf:=VD (by omega);clear VD hA4;cbv;rw[fe0,decide_eq_true (by decide)];cbv;refine⟨yq1,?_⟩;cbv;rw[Hf];refine⟨yq2,?_⟩;cbv;rw[Rb];refine⟨yq3,?_⟩;cbv;rw[MS];refine⟨yq4,?_⟩;cbv;rw[Zt];refine⟨yq5,?_⟩;cbv;rw[Ra];refine⟨yq6,?_⟩;cbv;rw[Zs];exact hf
 ·have hf:=VD (by omega);clear VD hA4;cbv;rw[fe0,decide_eq_false (by decide)];cbv;rw[fe1,decide_eq_true (by decide)];cbv;refine⟨yq1,?_⟩;cbv;rw[Hf];refine⟨yq2,?_⟩;cbv;rw[Rb];refine⟨yq3,?_⟩;cbv;rw[MS];refine⟨yq4,?_⟩;cbv;rw[Zt];refine⟨yq5,?_⟩;cbv;rw[Ra];refine⟨yq6,?_⟩;cbv;rw[Zs];exact hf
 ·have hf:=VD (by omega);clear VD hA4;cbv;rw[fe0,decide_eq_false (by decide)];cbv;rw[fe1,decide_eq_false (by decide)];cbv;rw[fe2,decide_eq_true (by decide)];cbv;refine⟨yq1,?_⟩;cbv;rw[Hf];refine⟨yq2,?_⟩;cbv;rw[Rb];refine⟨yq3,?_⟩;cbv;rw[MS];refine⟨yq4,?_⟩;cbv;rw[Zt];refine⟨yq5,?_⟩;cbv;rw[Ra];refine⟨yq6,?_⟩;cbv;rw[Zs];exact hf
 ·have hf:=hA4 rfl;clear VD hA4;cbv;rw[fe0,decide_eq_false (by decide)];cbv;rw[fe1,decide_eq_false (by decide)];cbv;rw[fe2,decide_eq_false (by decide)];cbv;rw[fe3,decide_eq_true (by decide)];cbv;refine⟨yq1,?_⟩;cbv;rw[Hf];refine⟨yq2,?_⟩;cbv;rw[Rb];refine⟨yq3,?_⟩;cbv;rw[MS];refine⟨yr4,?_⟩;cbv;rw[hr4];refine⟨yr5,?_⟩;cbv;rw[Zr];refine⟨yr6,?_⟩;cbv;rw[hr6];exact hf
open Go.Sx
structure AG where
 s:Int
 n:Int
 a:Int
 b:Int
def lR:Sh AG where
 n:=4
 R _ cs v:=cs=[.int .i64 v.s,.int .i64 v.n,.int .i64 v.a,.int .i64 v.b]
 len:=by rintro h cs x rfl;rfl
 one:=by rintro h cs x rfl;rfl
 tys:=[]
 mono:=fun _ q=>q
def iB(t:Nat):ByteArray:=ax [116,Ja t]
def sU(t:Nat)(ws:List Wd):List Wd:=wd [105,110,115,101,114,116]::wd [105,110,116,111]::wd [116,Ja t]::wd [118,97,108,117,101,115]::ud 40::ws
theorem cN.oI{t:Nat}(ht:t<3){r:By}{ws:List Wd}(h:cN r ws):cN (oI t++r) (sU t ws):=by
 match t,ht with
 |0,_=>exact cN.name [110,115,101,114,116] rfl rfl rfl (cN.sp (cN.name [110,116,111] rfl rfl rfl (cN.sp (cN.name [97] rfl rfl rfl (cN.sp (cN.name [97,108,117,101,115] rfl rfl rfl (cN.sp (cN.sign rfl (by decide) (by decide) h))))))))
 |1,_=>exact cN.name [110,115,101,114,116] rfl rfl rfl (cN.sp (cN.name [110,116,111] rfl rfl rfl (cN.sp (cN.name [98] rfl rfl rfl (cN.sp (cN.name [97,108,117,101,115] rfl rfl rfl (cN.sp (cN.sign rfl (by decide) (by decide) h))))))))
 |2,_=>exact cN.name [110,115,101,114,116] rfl rfl rfl (cN.sp (cN.name [110,116,111] rfl rfl rfl (cN.sp (cN.name [99] rfl rfl rfl (cN.sp (cN.name [97,108,117,101,115] rfl rfl rfl (cN.sp (cN.sign rfl (by decide) (by decide) h))))))))
def lU(t:Nat)(es:List (List Nd)):az:={ kind:=3,table:=iB t,exprs:=es }
theorem stT1{t:Nat}(ht:t<3)(a:Int)(x:By):nC ao (sU t [sE a,ud 44,R9 x,ud 41]++[mG])=(lU t [[lit (iN a)],[lit (iT x)]],0):=by
 match t,ht with
 |0,_=>show _=_;kernel_rfl
 |1,_=>show _=_;kernel_rfl
 |2,_=>show _=_;kernel_rfl
theorem stT2{t:Nat}(ht:t<3)(a b:Int):nC ao (sU t [sE a,ud 43,sE b,ud 44,wd [110,117,108,108],ud 41]++[mG])=(lU t [[lit (iN a),lit (iN b),bin 14 0 1],[lit v0]],0):=by
 match t,ht with
 |0,_=>show _=_;kernel_rfl
 |1,_=>show _=_;kernel_rfl
 |2,_=>show _=_;kernel_rfl
theorem yC{t:Nat}{es:List (List Nd)}(h:∀e∈es,mI e)(hl:es.length<=6):eG (lU t es):=
 ⟨fun n hn=>(by cases hn),fun n hn=>(by cases hn),h,fun i hi=>(by cases hi),by show es.length<=_;omega,fun hk=>absurd hk (by show ¬(3:Int)=4;decide),yu,yu,Nat.zero_le _,Nat.zero_le _⟩
theorem IS{a b c:Int}(hn:cO 14 a b=some (iN c)):bG [[lit (iN a),lit (iN b),bin 14 0 1],[lit v0]] [] []=([iN c,v0],0):=by
 have hk:fZ [lit (iN a),lit (iN b),bin 14 0 1] []=(2,0):=by
  have e:eN [] [lit (iN a),lit (iN b),bin 14 0 1] []=eN [] [bin 14 0 1] [2,2]:=by rw[fV,rm,lO];show eN [] (lit (iN b)::[bin 14 0 1]) [2]=_;rw[fV,rm,lO];rfl
  unfold fZ;rw[if_neg (by simp),e];have e2:eN [] [bin 14 0 1] [2,2]=([2,2,2],0):=by kernel_rfl
  rw[e2];rfl
 have e1:gL [] [] [lit (iN a),lit (iN b),bin 14 0 1] []=match cO 14 a b with
  |some v=>some [iN a,iN b,v]
  |none=>none:=by kernel_rfl
 have hv:eA [lit (iN a),lit (iN b),bin 14 0 1] [] []=(iN c,0):=by unfold eA;rw[hk,e1,hn];rfl
 unfold bG;rw[dZ hv,dZ (gu CZ _ _)];rfl
def lY(n x y:Nat):Row:=if n<3 then [iN x,iT (118::cj y)]else [iN ((x:Int)+y),v0]
theorem Ms{n x y t:Nat}(hn:n<4)(hx:x<1000)(hy:y<1000)(ht:t<3):∃es,dk ao (ax (pT n x y t))=(lU t es,0)/\ek (ax (pT n x y t))=true/\eG (lU t es)/\bG es [] []=(lY n x y,0):=by
 have hl:(oI t).length=23:=rfl;have lx:=lF x hx;have ly:=lF y hy;have nn:∀(v:dg),lj v->mI [lit v]:=fun v hv n hn=>by
  rcases List.mem_cons.1 hn with rfl|hn
  ·exact qq hv
  ·cases hn
 have key:∀ {r:By} {ws:List Wd} {st:az},r.length<=100->cN r ws->nC ao (sU t ws++[mG])=(st,0)->dk ao (ax (oI t++r))=(st,0)/\ek (ax (oI t++r))=true:=fun{r ws st} hr h hs=>by
  have hw:iE (ax (oI t++r))=(sU t ws++[mG],0):=AX (by rw[dn,List.length_append];omega) (show cN (oI t++r) (sU t ws)from cN.oI ht h);refine⟨(Ba hw).trans hs,?_⟩;unfold ek;rw[hw];rfl
 by_cases h3:n<3
 ·have e1:pT n x y t=oI t++(cj x++(44::32::(sM (118::cj y)++[41]))):=by
   have hq:sq (cj y)=cj y:=by
    have:∀l:By,l.all cT=true->sq l=l:=fun l=>by
     induction l with
     |nil=>intro _;rfl
     |cons c l ih=>intro h;rw[List.all_cons,Bool.and_eq_true]at h;have:=Et h.1;show(if c.toNat=39 then _ else _)=_;rw[if_neg (by omega),ih h.2]
    exact this _ (Cl y)
   have Rb:sq (118::cj y)=118::cj y:=by show(if(118:UInt8).toNat=39 then _ else 118::sq (cj y))=_;rw[if_neg (by decide),hq]
   unfold pT;rw[if_pos h3];unfold sM;rw[Rb];simp
  have hy4:(118::cj y:By).length<=60:=by simp only[List.length_cons];omega
  obtain⟨h1,h2⟩:=key (r:=cj x++(44::32::(sM (118::cj y)++[41]))) (by
   have:=zG (118::cj y);simp only[sM,List.length_append,List.length_cons,List.length_nil]at this |-;omega) (cN.RT x (by omega) rfl (cN.comma (sL hy4 rfl cN.close))) (stT1 ht x (118::cj y))
  rw[e1];refine⟨_,h1,h2,yC (by simpa using ⟨nn _ (oJ (by omega)),nn _ (vL _)⟩) (by simp),?_⟩;unfold lY;rw[if_pos h3];exact qN (lO x) (oe hy4)
 ·have e1:pT n x y t=oI t++(cj x++(32::43::32::(cj y++(44::32::([110,117,108,108]++[41]))))):=by unfold pT;rw[if_neg h3];simp
  obtain⟨h1,h2⟩:=key (r:=cj x++(32::43::32::(cj y++(44::32::([110,117,108,108]++[41]))))) (by
   simp only[List.length_append,List.length_cons,List.length_nil];omega) (cN.RT x (by omega) rfl (cN.sp (cN.sign rfl (by decide) (by decide) (cN.sp (cN.RT y (by omega) rfl (cN.comma (zJ rfl cN.close))))))) (stT2 ht x y)
  rw[e1];have hn:cO 14 x y=some (iN ((x:Int)+y)):=by unfold cO;rw[if_neg (by decide),if_pos rfl];unfold pB;rw[if_pos (gA.2 (by omega))];rfl
  refine⟨_,h1,h2,yC ?_ (by simp),?_⟩
  ·intro e he;rcases List.mem_cons.1 he with rfl|he
   ·intro n hn;simp only[List.mem_cons,List.not_mem_nil,or_false]at hn;rcases hn with rfl|rfl|rfl
    ·exact qq (oJ (by omega))
    ·exact qq (oJ (by omega))
    ·exact Dz ..
   ·rcases List.mem_cons.1 he with rfl|he
    ·exact nn _ lA
    ·cases he
  ·unfold lY;rw[if_neg h3];exact IS hn
theorem HX{n x y:Nat}(hx:x<1000)(hy:y<1000):bV bB (lY n x y)=0/\fM (lY n x y):=by
 have ly:=lF y hy;unfold lY;split
 ·refine⟨pq (Ei (by simp only[List.length_cons];omega)),fun v hv=>?_⟩;rcases List.mem_cons.1 hv with rfl|hv
  ·exact oJ (by omega)
  ·rcases List.mem_cons.1 hv with rfl|hv
   ·exact vL _
   ·cases hv
 ·refine⟨pq rfl,fun v hv=>?_⟩;rcases List.mem_cons.1 hv with rfl|hv
  ·exact oJ (by omega)
  ·rcases List.mem_cons.1 hv with rfl|hv
   ·exact lA
   ·cases hv
structure AJ(R:Nat->List Row)(log:List iX)(d:DB):Prop where
 aE:d.aE=[⟨aT 0,R 0⟩,⟨aT 1,R 1⟩,⟨aT 2,R 2⟩]
 au:d.au=[⟨0,log,[]⟩]
 holds:∀h∈d.holds,h.s=0
 waits:d.waits=[]
theorem AJ.hold{R:Nat->List Row}{log:List iX}{d:DB}(q:AJ R log d){t:Nat}(ht:t<3)(x:Bool):∃d',ay d ⟨0,iB t,x⟩=(d',0)/\AJ R log d':=by
 obtain⟨h1,h2,h3,h4⟩:=q;obtain⟨T,W,H,Wt⟩:=d;simp only at h1 h2 h3 h4;subst h1 h2 h4;have AM:Dv ⟨[⟨aT 0,R 0⟩,⟨aT 1,R 1⟩,⟨aT 2,R 2⟩],[⟨0,log,[]⟩],H,[]⟩ ⟨0,iB t,x⟩=true:=by
  match t,ht with
  |0,_=>show _=_;kernel_rfl
  |1,_=>show _=_;kernel_rfl
  |2,_=>show _=_;kernel_rfl
 have sY:H.any (fY ⟨0,iB t,x⟩)=false:=by rw[List.any_eq_false];intro o ho;unfold fY;have:=h3 o ho;simp[this]
 have oM:bF H ⟨0,iB t,x⟩=true:=by unfold bF;rw[sY];simp
 have jJ:∀o∈cd H ⟨0,iB t,x⟩,o.s=0:=by
  intro o ho;unfold cd at ho;rw[if_pos oM]at ho;split at ho
  ·exact h3 o ho
  ·split at ho
   ·rcases List.mem_or_eq_of_mem_set ho with ho|rfl
    ·exact h3 o ho
    ·rfl
   ·rcases List.mem_append.1 ho with ho|ho
    ·exact h3 o ho
    ·rw[List.mem_singleton]at ho;subst ho;rfl
 refine⟨⟨[⟨aT 0,R 0⟩,⟨aT 1,R 1⟩,⟨aT 2,R 2⟩],[⟨0,log,[]⟩],cd H ⟨0,iB t,x⟩,[]⟩,?_,rfl,rfl,jJ,rfl⟩;unfold ay;rw[if_pos AM];show gH (H.length+1) _ _=_;unfold gH;rw[if_pos oM];have:cV H [] ⟨0,iB t,x⟩=[]:=by unfold cV;rw[if_pos oM];rfl
 simp only[this]
theorem AJ.held{R:Nat->List Row}{log:List iX}{d:DB}(q:AJ R log d){t:Nat}(ht:t<3):bO d (iB t)=⟨aT t,R t⟩:=by
 have h:bO d (iB t)=(([⟨aT 0,R 0⟩,⟨aT 1,R 1⟩,⟨aT 2,R 2⟩]:List cE).find? fun x=>decide (x.S.name=iB t)).getD ⟨⟨b0,[],0,false⟩,[]⟩:=by unfold bO;rw[q.aE]
 rw[h]
 match t,ht with
 |0,_=>show _=_;kernel_rfl
 |1,_=>show _=_;kernel_rfl
 |2,_=>show _=_;kernel_rfl
theorem AJ.tab{R:Nat->List Row}{log:List iX}{d:DB}(q:AJ R log d){t:Nat}(ht:t<3):dr (aR d.aE (iB t))=t/\d.aE[t]? =some ⟨aT t,R t⟩:=by
 rw[q.aE]
 match t,ht with
 |0,_=>exact⟨by kernel_rfl,rfl⟩
 |1,_=>exact⟨by kernel_rfl,rfl⟩
 |2,_=>exact⟨by kernel_rfl,rfl⟩
def Sw(R:Nat->List Row)(t:Nat)(X:List Row):Nat->List Row:=fun j=>if j=t then X else R j
theorem AJ.put{R:Nat->List Row}{log:List iX}{d:DB}(q:AJ R log d){t:Nat}(ht:t<3)(r:Row):∃d' e,fv d 0 (iB t) r=(d',e)/\(e≠0->AJ R log d')/\(e=0->AJ (Sw R t (bI ⟨aT t,R t⟩ r).1.rows) (log++[⟨iB t,1,r⟩]) d'/\(bI ⟨aT t,R t⟩ r).2=0):=by
 obtain⟨d1,hd,q1⟩:=q.hold ht true;obtain⟨ti,tg⟩:=q1.tab ht;have hw:cA d1.au 0=cA [⟨0,log,[]⟩] 0:=by rw[q1.au]
 have hwi:dr (cA d1.au 0)=0:=by rw[hw];kernel_rfl
 have hwg:d1.au[0]? =some ⟨0,log,[]⟩:=by rw[q1.au];rfl
 have h1:fv d 0 (iB t) r=(if decide ((ay d ⟨0,iB t,true⟩).2≠0)=true then ay d ⟨0,iB t,true⟩
  else match (ay d ⟨0,iB t,true⟩).1.aE[dr (aR (ay d ⟨0,iB t,true⟩).1.aE (iB t))]?,(ay d ⟨0,iB t,true⟩).1.au[dr (cA (ay d ⟨0,iB t,true⟩).1.au 0)]? with
  |some x,some w=>
   if decide ((cJ r x).2.2≠19)&&decide ((w.log.length:Int)>=60)then((ay d ⟨0,iB t,true⟩).1,4)
   else if decide ((cJ r x).2.2=0)=true then
    (⟨(ay d ⟨0,iB t,true⟩).1.aE.set (dr (aR (ay d ⟨0,iB t,true⟩).1.aE (iB t))) (cJ r x).1,(ay d ⟨0,iB t,true⟩).1.au.set (dr (cA (ay d ⟨0,iB t,true⟩).1.au 0)) ⟨w.s,w.log++[⟨iB t,(cJ r x).2.1.op,(cJ r x).2.1.row⟩],w.marks⟩,(ay d ⟨0,iB t,true⟩).1.holds,(ay d ⟨0,iB t,true⟩).1.waits⟩,0)
   else((ay d ⟨0,iB t,true⟩).1,(cJ r x).2.2)
  |_,_=>ay d ⟨0,iB t,true⟩):=rfl
 rw[hd]at h1;simp only[ti,tg,hwi,hwg,ne_eq,not_true_eq_false,decide_false,Bool.false_eq_true,if_false]at h1;obtain⟨P,hP⟩:∃P,bI ⟨aT t,R t⟩ r=P:=⟨_,rfl⟩;have xg:cJ r ⟨aT t,R t⟩=(P.1,⟨jX,1,r⟩,P.2):=by unfold cJ;rw[hP]
 have hPS:P.1.S=aT t:=by
  rw[<-hP];unfold bI;split
  ·rfl
  ·split
   ·rfl
   ·split<;>rfl
 rw[xg]at h1;obtain⟨⟨PS,PR⟩,pe⟩:=P;have hPS:PS=aT t:=hPS;subst hPS;rw[hP];simp only at h1;split at h1
 ·exact⟨_,_,h1,fun _=>q1,fun e=>absurd e (by decide)⟩
 ·split at h1
  ·rename_i h0;have h0:pe=0:=of_decide_eq_true h0;refine⟨_,_,h1,fun e=>absurd rfl e,fun _=>⟨⟨?_,?_,q1.holds,q1.waits⟩,h0⟩⟩
   ·rw[q1.aE]
    match t,ht with
    |0,_=>rfl
    |1,_=>rfl
    |2,_=>rfl
   ·rw[q1.au];rfl
  ·rename_i h0;have h0:pe≠0:=fun e=>h0 (decide_eq_true e);exact⟨_,_,h1,fun _=>q1,fun e=>absurd e h0⟩
theorem Wn(d:DB)(t:Nat)(es:List (List Nd)):jD d 0 (lU t es)=match ay d ⟨0,iB t,true⟩with
 | (d,e)=>if e≠0 then(d,[],e)else bK d (match bG es [] []with
  | (r,e)=>if e≠0 then(d,e)else fv d 0 (iB t) r):=rfl
def CJ(r:Row):Prop:=∃(a:Int) (v:dg),r=[iN a,v]/\0<=a/\a<2000/\(v=v0\/∃x,v=iT x/\x.length<=10)
theorem Mt{n x y:Nat}(hx:x<1000)(hy:y<1000):CJ (lY n x y):=by
 have ly:=lF y hy;unfold lY;split
 ·exact⟨_,_,rfl,by omega,by omega,.inr ⟨_,rfl,by simp only[List.length_cons];omega⟩⟩
 ·exact⟨_,_,rfl,by omega,by omega,.inl rfl⟩
structure AL(m:Nat)(R:Nat->List Row)(log:List iX)(d:DB):Prop where
 aj:AJ R log d
 ej:EJ (2*m) d
 rp:∀t,t<3->∀r∈R t,CJ r
 ln:(R 0).length+(R 1).length+(R 2).length=log.length
 le:log.length<=m
theorem Gk{S:AU}{R:List Row}{r:Row}(h:(bI ⟨S,R⟩ r).2=0):∃i,(bI ⟨S,R⟩ r).1.rows=R.take i++[r]++R.drop i:=by
 unfold bI at h |-;split at h
 ·rename_i h1;exact absurd h (of_decide_eq_true h1)
 ·rename_i h1;rw[if_neg h1];split at h
  ·cases h
  ·rename_i h2;rw[if_neg h2];split at h
   ·cases h
   ·rename_i h3;rw[if_neg h3];exact⟨_,rfl⟩
theorem AL.step{m:Nat}{R:Nat->List Row}{log:List iX}{d:DB}(q:AL m R log d)(hm:m<=100){n x y t:Nat}(hx:x<1000)(hy:y<1000)(ht:t<3){es:List (List Nd)}(hv:bG es [] []=(lY n x y,0)):∃R' DE,AL (m+1) R' DE (jD d 0 (lU t es)).1:=by
 obtain⟨d1,hd,q1⟩:=q.aj.hold ht true;have FE:EJ (2*m+1) d1:=by have:=q.ej.hold ⟨0,iB t,true⟩ (by show(-2^63:Int)<=0/\(0:Int)<2^63;decide);rw[hd]at this;exact this
 obtain⟨hf,hr⟩:=HX (n:=n) hx hy;have hrp:=Mt (n:=n) hx hy;generalize lY n x y=r at *;obtain⟨d2,e,hp,p1,p2⟩:=q1.put ht r;have ej2:EJ (2*m+2) d2:=by have:=FE.put (s:=0) (iB t) (by decide) hr;rw[hp]at this;exact this
 have hD:jD d 0 (lU t es)=bK d1 (d2,e):=by rw[Wn,hd,hv];show bK d1 (fv d1 0 (iB t) r)=_;rw[hp]
 rw[hD];unfold bK;by_cases he:e≠0
 ·rw[if_pos he];exact⟨R,log,q1,FE.le (by omega),q.rp,q.ln,by have:=q.le;omega⟩
 ·rw[if_neg he];have he:e=0:=Decidable.not_not.1 he;obtain⟨g1,g2⟩:=p2 he;obtain⟨i,hi⟩:=Gk g2;have hl:(bI ⟨aT t,R t⟩ r).1.rows.length=(R t).length+1:=by rw[hi];simp only[List.length_append,List.length_take,List.length_drop,List.length_cons,List.length_nil];omega
  refine⟨_,_,g1,ej2.le (by omega),?_,?_,by have:=q.le;simp only[List.length_append,List.length_cons,List.length_nil];omega⟩
  ·intro j hj r' xA;unfold Sw at xA;split at xA
   ·rename_i e;subst e;rw[hi]at xA;rcases List.mem_append.1 xA with xA|xA
    ·rcases List.mem_append.1 xA with xA|xA
     ·exact q.rp j hj r' (List.mem_of_mem_take xA)
     ·rw[List.mem_singleton]at xA;subst xA;exact hrp
    ·exact q.rp j hj r' (List.mem_of_mem_drop xA)
   ·exact q.rp j hj r' xA
  ·have:=q.ln;simp only[List.length_append,List.length_cons,List.length_nil];unfold Sw
   match t,ht with
   |0,_=>simp only[if_true,hl];simp;omega
   |1,_=>simp only[if_true,hl];simp;omega
   |2,_=>simp only[if_true,hl];simp;omega
theorem AL.start:AL 0 (fun _=>[]) [] ru:=⟨⟨by kernel_rfl,by kernel_rfl,(fun h hh=>by cases hh),by kernel_rfl⟩,zZ,(fun t _ r hr=>by cases hr),rfl,Nat.le_refl _⟩
structure V12 where
 b1:Option Addr
 n1:Nat
 c1:Nat
 b2:Option Addr
 n2:Nat
 c2:Nat
 b3:Option Addr
 n3:Nat
 c3:Nat
 b4:Option Addr
 n4:Nat
 c4:Nat
def V12.v(g:V12):Value:=.agg #[.slice g.b1 g.n1 g.c1,.slice g.b2 g.n2 g.c2,.slice g.b3 g.n3 g.c3,.slice g.b4 g.n4 g.c4]
theorem WS{xs:List AG}{h:ad}{b:Option Addr}{n c:Nat}(q:xL lR h (.slice b n c) xs){d0:DB}{be:Int}(hd:ey ed 0=(d0,be))(XD:AL 0 (fun _=>[]) [] d0)
 {k:Value->ad->Prop} (hk:∀h' b1 n1 c1 b2 n2 c2 b3 n3 c3 b4 n4 c4 R log d,Le h h'->gj h' (.agg #[.slice b1 n1 c1,.slice b2 n2 c2,.slice b3 n3 c3,.slice b4 n4 c4]) d->AL 25 R log d->k (.agg #[.slice b1 n1 c1,.slice b2 n2 c2,.slice b3 n3 c3,.slice b4 n4 c4]) h'):
 Ct 18 [.slice b n c] h k:=by
 obtain⟨A,hA⟩:=Ar.ex;have hlen:=q.len;have vZ:=q.bound;refine ah A (ar T18.aA T18.bm) Tryz.func18 rfl (by kernel_rfl) ?_;cbv;refine zA (fun h2 b1 n1 c1 b2 n2 c2 b3 n3 c3 b4 n4 c4 d1 m1 e1 d2 m2 e2 d3 m3 e3 d4 m4 e4 l2 ME _=>?_);cbv;refine oV ME 0 (og.sj.CM.small (by decide)) hd (fun h3 b1 n1 c1 b2 n2 c2 b3 n3 c3 b4 n4 c4 l3 AH=>?_);replace AH:gj h3 (.agg #[.slice b1 n1 c1,.slice b2 n2 c2,.slice b3 n3 c3,.slice b4 n4 c4]) d0:=AH;have xw:=l2.trans l3;clear hd ME l2 l3;obtain⟨I,bl⟩:∃I:Nat->Int×V12->ad->Prop,∀m g h',I m g h'=∃i R log d,aS g.1 i/\i<=25/\i<=n/\m=25-i/\Le h h'/\gj h' g.2.v d/\AL i R log d:=⟨_,fun _ _ _=>rfl⟩;have hJ:I 25 (0,⟨b1,n1,c1,b2,n2,c2,b3,n3,c3,b4,n4,c4⟩) h3:=by rw[bl];exact⟨0,_,_,d0,⟨rfl⟩,by omega,Nat.zero_le _,rfl,xw,AH,XD⟩
 clear AH xw XD;cbv;refine aX.go (G:=Int×V12) (fun g=>[(5,.v (.int .i64 g.1))]) (fun g=>[(2,[.slice none 0 0,.slice none 0 0,.slice none 0 0,.slice none 0 0]),(3,[.slice g.2.b1 g.2.n1 g.2.c1,.slice g.2.b2 g.2.n2 g.2.c2,.slice g.2.b3 g.2.n3 g.2.c3,.slice g.2.b4 g.2.n4 g.2.c4]),(4,[.slice d1 m1 e1,.slice d2 m2 e2,.slice d3 m3 e3,.slice d4 m4 e4])]) (fun m g h'=>I m g h') 25 (0,⟨b1,n1,c1,b2,n2,c2,b3,n3,c3,b4,n4,c4⟩) ⟨?_,?_,?_⟩ hJ ?_
 ·cbv
 ·cbv
 ·cbv
 ·intro m g h4 hI;rw[bl]at hI;cbv;obtain⟨i,R,log,d,hz,hi25,eW,hm,hl,qd,al⟩:=hI;obtain⟨z,a1,i1,j1,a2,i2,j2,a3,i3,j3,a4,i4,j4⟩:=g;replace hz:aS z i:=hz;replace qd:gj h4 (.agg #[.slice a1 i1 j1,.slice a2 i2 j2,.slice a3 i3 j3,.slice a4 i4 j4]) d:=qd;have f1:A .aG .lss z (A .nat n)=decide (i<n):=hz.gy (aS.nat n);have f2:A .aG .lss z 25=decide (i<25):=by rw[bE A,decide_eq_decide];have:=hz.eq;omega
  have dD:=hz.succ (A:=A) (by omega);have fA:=hz.eq;have hle:=al.le;have ae:=hk h4 a1 i1 j1 a2 i2 j2 a3 i3 j3 a4 i4 j4 R log d hl qd ⟨al.aj,al.ej.le (by omega),al.rp,al.ln,by omega⟩;by_cases aK:i<n
  ·by_cases VG:i<25
   ·obtain⟨x,hx⟩:=aI (xs:=xs) (i:=i) (by omega);obtain⟨xs',xn,xa,xb⟩:=x;have cU:b.isSome=true/\0<=z/\z<(n:Int):=⟨q.bu (by omega),hz.ix aK⟩;obtain⟨z2,fN⟩:∃z2,A .bA .add .i64 z 1=z2:=⟨_,rfl⟩;rw[fN]at dD;have di:∀h5 b1 n1 c1 b2 n2 c2 b3 n3 c3 b4 n4 c4 R' DE d',Le h4 h5->gj h5 (.agg #[.slice b1 n1 c1,.slice b2 n2 c2,.slice b3 n3 c3,.slice b4 n4 c4]) d'->AL (i+1) R' DE d'->I (25-(i+1)) (z2,⟨b1,n1,c1,b2,n2,c2,b3,n3,c3,b4,n4,c4⟩) h5:=fun h5 b1 n1 c1 b2 n2 c2 b3 n3 c3 b4 n4 c4 R' DE d' l q' al'=>by
     rw[bl];exact⟨i+1,R',DE,d',dD,VG,aK,rfl,hl.trans l,q',al'⟩
    have tN:25-(i+1)<m:=by omega
    obtain⟨es,fO,uo,hx3,hv⟩:=Ms (n:=(xn % 4).toNat) (x:=(xa % 30).toNat) (y:=(xb % 30).toNat) (t:=(xb % 3).toNat) (by omega) (by omega) (by omega) (by omega);obtain⟨R',DE,al'⟩:=al.step (by omega) (n:=(xn % 4).toNat) (x:=(xa % 30).toNat) (y:=(xb % 30).toNat) (t:=(xb % 3).toNat) (by omega) (by omega) (by omega) hv;have ej:=al.ej;have gP:2*i+700<2^18:=by omega
    obtain⟨tx,Q0⟩:∃tx,tx=ax (pT (xn % 4).toNat (xa % 30).toNat (xb % 30).toNat (xb % 3).toNat):=⟨_,rfl⟩;have Xr:∀z4 m4,aS z4 m4->m4=(xn % ((4:Nat):Int)).toNat->m4<4->∀h {k:Value->ad->Prop},(∀h',Le h h'->k (.string tx) h')->Ct 37 [.int .i64 z4,.int .i64 xa,.int .i64 xb] h k:=fun z4 m4 h1 h2 h3 h k hk=>sqlK h1 h3 xa xb h (fun h' l=>by
     have:=hk h' l;rw[Q0]at this;rw[h2];exact this)
    rw[<-Q0]at fO uo;clear Q0 hv;have xg:j8 d 0 (lU (xb % 3).toNat es):=j8.no (by show(3:Int)≠6;decide) (by show(3:Int)≠4;decide) (by show(3:Int)≠5;decide);generalize lU (xb % 3).toNat es=st at *;rw[f1,decide_eq_true aK];cbv;rw[f2,decide_eq_true VG];cbv;refine⟨cU,?_⟩;cbv;refine(q.mono hl).oD hx fA (o:=1) (m:=1) (by decide) (fun cs aC ag=>?_);replace aC:cs=[.int .i64 xs',.int .i64 xn,.int .i64 xa,.int .i64 xb]:=aC;subst aC;cbv;refine⟨cU,?_⟩;cbv;refine(q.mono hl).oD hx fA (o:=2) (m:=1) (by decide) (fun cs aC ag2=>?_);replace aC:cs=[.int .i64 xs',.int .i64 xn,.int .i64 xa,.int .i64 xb]:=aC;subst aC;cbv;refine⟨cU,?_⟩;cbv;refine(q.mono hl).oD hx fA (o:=3) (m:=1) (by decide) (fun cs aC ag3=>?_);replace aC:cs=[.int .i64 xs',.int .i64 xn,.int .i64 xa,.int .i64 xb]:=aC;subst aC;cbv;refine qM xn 4 (by decide) (by decide) h4 (fun z4 m4 Y4 hm4 hl4=>?_);cbv;refine ag3 _ _ (Le.refl _) ?_;cbv;refine⟨⟨_,rfl,rfl⟩,?_⟩;cbv;refine ag2 _ _ (Le.refl _) ?_;cbv;refine⟨⟨_,rfl,rfl⟩,?_⟩;cbv;refine Xr z4 m4 Y4 hm4 hl4 h4 (fun h5 l5=>?_);cbv;refine EA uo fO (fun h6 w l6 qs=>?_);have Yi:=qs;obtain⟨b5,n5,c5,b6,n6,c6,b7,n7,c7,b8,n8,c8,b9,n9,c9,fG,gG,fF,hw,-⟩:=Yi.out;subst hw;replace qs:Qu h6 _ st:=qs;have QR:=l5.trans l6;have EW:=qd.mono QR;clear fO uo ag ag2 ag3 Xr;cbv;refine doC (s:=0) EW hx3 ej gP (by decide) xg qs (fun h7 x1 u1 y1 x2 u2 y2 x3 u3 y3 x4 u4 y4 _ _ _ l7 qd7 _=>?_);have uL:=di h7 x1 u1 y1 x2 u2 y2 x3 u3 y3 x4 u4 y4 R' DE _ (QR.trans l7) qd7 al';generalize jD d 0 st=D at *;obtain⟨D1,DR,De⟩:=D;clear di bl hJ hk ae qd7 al';cbv;rw[fN];refine⟨_,(_,_),tN,⟨?_,?_,?_⟩,uL⟩
    ·cbv
    ·cbv
    ·cbv
   ·rw[f1,decide_eq_true aK];clear bl hJ hk;cbv;rw[f2,decide_eq_false VG];cbv;exact ae
  ·rw[f1,decide_eq_false aK];clear bl hJ hk;cbv;exact ae
theorem FX{xs:List AG}{h:ad}{b:Option Addr}{n c:Nat}(q:xL lR h (.slice b n c) xs)
 {k:Value->ad->Prop} (hk:∀h' b1 n1 c1 b2 n2 c2 b3 n3 c3 b4 n4 c4 R log d,Le h h'->gj h' (.agg #[.slice b1 n1 c1,.slice b2 n2 c2,.slice b3 n3 c3,.slice b4 n4 c4]) d->AL 25 R log d->k (.agg #[.slice b1 n1 c1,.slice b2 n2 c2,.slice b3 n3 c3,.slice b4 n4 c4]) h'):
 Ct 18 [.slice b n c] h k:=WS q (d0:=ru) (be:=(ey ed 0).2) rfl AL.start hk
theorem SH{X:List Row}{h:ad}{b1 b2:Option Addr}{n1 c1 n2 c2:Nat}(q1:Sl 59 aL h (.slice b1 n1 c1) X)(q2:Sl 59 aL h (.slice b2 n2 c2) X){k:Value->ad->Prop}(hk:k (.bool true) h):
 Ct 21 [.slice b1 n1 c1,.slice b2 n2 c2] h k:=by
 obtain⟨A,hA⟩:=Ar.ex;have e1:=q1.len;have e2:=q2.len;have hb:=q1.bound.1;have UY:n2=n1:=by omega
 subst UY;have AS:A .not true=false:=by rw[hA.not];rfl
 have fne:A .aG .neq (A .nat n2) (A .nat n2)=false:=by rw[aB A];simp
 obtain⟨I,bl⟩:∃I:Nat->Int->ad->Prop,∀m g h',I m g h'=∃j,aS g j/\m=n2-j/\j<=n2/\h'=h:=⟨_,fun _ _ _=>rfl⟩;have hJ:I n2 0 h:=by rw[bl];exact⟨0,⟨rfl⟩,rfl,Nat.zero_le _,rfl⟩
 refine ah A (ar T21.aA T21.bm) Tryz.func21 rfl (by kernel_rfl) ?_;cbv;rw[fne];cbv;refine aX.go (G:=Int) (fun g=>[(5,.v (.int .i64 g))]) (fun _=>[]) (fun m g h'=>I m g h') n2 0 ⟨?_,?_,?_⟩ hJ ?_
 ·cbv
 ·cbv
 ·cbv
 ·intro m z h' hI;rw[bl]at hI;cbv;obtain⟨j,hz,hm,hj,rfl⟩:=hI;have f1:A .aG .lss z (A .nat n2)=decide (j<n2):=hz.gy (aS.nat n2);rw[f1];by_cases aK:j<n2
  ·obtain⟨x,hx⟩:=aI (xs:=X) (i:=j) (by omega);have rI:b1.isSome=true/\0<=z/\z<(n2:Int):=⟨q1.bu (by omega),hz.ix aK⟩;have kW:b2.isSome=true/\0<=z/\z<(n2:Int):=⟨q2.bu (by omega),hz.ix aK⟩;have fA:=hz.eq;have dD:=hz.succ (A:=A) (by omega);obtain⟨z2,fN⟩:∃z2,A .bA .add .i64 z 1=z2:=⟨_,rfl⟩;rw[fN]at dD;have di:I (n2-(j+1)) z2 h':=by rw[bl];exact⟨j+1,dD,rfl,aK,rfl⟩
   have gQ:n2-(j+1)<m:=by omega
   clear bl hJ hk;rw[decide_eq_true aK];cbv;refine⟨rI,?_⟩;cbv;refine iO q1 hx fA (fun x1 m1 k1 s1=>?_);cbv;refine⟨kW,?_⟩;cbv;refine iO q2 hx fA (fun x2 m2 k2 s2=>?_);cbv;refine Dl s1 s2 ?_;cbv;rw[AS];cbv;rw[fN];refine⟨_,_,gQ,⟨?_,?_,?_⟩,di⟩
   ·cbv
   ·cbv
   ·cbv
  ·rw[decide_eq_false aK];clear bl hJ;cbv;exact hk
def kdT:List ByteArray:=[⟨#[115,101,108,101,99,116,32,42,32,102,114,111,109,32,116,97,32,119,104,101,114,101,32,97]⟩,⟨#[115,101,108,101,99,116,32,97,32,43,32,98,32,102,114,111,109,32,116,97]⟩,⟨#[117,112,100,97,116,101,32,116,97,32,115,101,116,32,97,32,61,32,98]⟩,⟨#[117,112,100,97,116,101,32,116,97,32,115,101,116,32,98,32,61,32,49]⟩,⟨#[115,101,108,101,99,116,32,115,117,109,40,98,41,32,102,114,111,109,32,116,97]⟩,⟨#[115,101,108,101,99,116,32,97,44,32,99,111,117,110,116,40,42,41,32,102,114,111,109,32,116,97]⟩,⟨#[115,101,108,101,99,116,32,97,32,102,114,111,109,32,116,97,32,103,114,111,117,112,32,98,121,32,98]⟩,⟨#[115,101,108,101,99,116,32,42,32,102,114,111,109,32,116,97,32,103,114,111,117,112,32,98,121,32,98]⟩,⟨#[115,101,108,101,99,116,32,98,44,32,99,111,117,110,116,40,42,41,32,102,114,111,109,32,116,97,32,103,114,111,117,112,32,98,121,32,98,32,111,114,100,101,114,32,98,121,32,97]⟩,⟨#[115,101,108,101,99,116,32,42,32,102,114,111,109,32,116,97,32,106,111,105,110,32,116,98,32,111,110,32,116,97,46,97]⟩,⟨#[100,101,108,101,116,101,32,102,114,111,109,32,116,97,32,119,104,101,114,101,32,97,32,43,32,49]⟩,⟨#[115,101,108,101,99,116,32,110,111,116,32,97,32,102,114,111,109,32,116,97]⟩]
def dN:List bT:=aJ (cL 0)
def fc:List bT:=aJ (cL 1)
def kdC(t:ByteArray):Bool:=ek t&&stB (dk ao t).1&&decide ((dk ao t).1.table=iB 0)&&
 ((decide ((dk ao t).1.kind=6)&&decide ((dk ao t).1.join=b0)&&decide ((dm (dk ao t).1 dN).2=3))||
 (decide ((dk ao t).1.kind=6)&&decide ((dk ao t).1.join=iB 1)&&decide ((dm (dk ao t).1 (dN++fc)).2=3))||
 (decide ((dk ao t).1.kind=4)&&decide (jL (cL 0) (dk ao t).1=3))||
 (decide ((dk ao t).1.kind=5)&&decide (aF (dk ao t).1.bM dN=3)))
theorem yK(t:Nat)(X:List Row)(st:az):jL ⟨aT t,X⟩ st=jL (cL t) st:=rfl
def jnT:ByteArray:=⟨#[115,101,108,101,99,116,32,42,32,102,114,111,109,32,116,97,32,106,111,105,110,32,116,98,32,111,110,32,116,97,46,97,32,60,61,32,116,98,46,97]⟩
def qH:az:={ kind:=6,table:=iB 0,join:=iB 1,on:=[eJ (ax [116,97,46,97]),eJ (ax [116,98,46,97]),bin 11 0 1],fw:=-1 }
def aN(r:Row):Int:=(r.headD v0).n
def jn(a:Row)(bs:List Row):List Row:=(bs.filter fun b=>decide (aN a<=aN b)).map (a++·)
def CN(l bs:List Row):List Row:=l.flatMap fun a=>jn a bs
end Go.S
