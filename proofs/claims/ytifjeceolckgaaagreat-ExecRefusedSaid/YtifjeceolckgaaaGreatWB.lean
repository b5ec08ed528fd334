import Derived.Test.YtifjeceolckgaaaGreatWA
set_option linter.all false
set_option maxRecDepth 100000
set_option maxHeartbeats 8000000
namespace Go.S
open Go.Sx Go.Proofs
variable {d:DB}{l:List dV}{c n x y:Nat}{R:Nat->List Row}{b:Option Addr}{k:Value->ad->Prop}{h:ad}
theorem uv(a:Int)(n:Nat)(o:0<n)(v:n<=2^40)(h:ad)(l:∀z i,aS z i->i=(a % (n:Int)).toNat->i<n->k (.int .i64 z) h):Ct 59 [.int .i64 a,.int .i64 (n:Int)] h k:=by
 obtain⟨A,c⟩:=Ar.ex;obtain⟨m,b⟩:∃m:Int,m=(n:Int):=⟨_,rfl⟩;rw[<-b];have R:m≠0:=by omega
 have T:A .bB .rem .i64 a m=a.tmod m:=by rw[c.bB];rfl
 have Y:a.tmod m<m:=by have:=mKe a (show 0<m by omega);omega
 have r:-m<a.tmod m:=by have:=mKd a (show 0<m by omega);omega
 have Q:a % m=if a.tmod m<0 then a.tmod m+m else a.tmod m:=by
  rw[mKc];have g:=mZX a R;have j:=mZW a (show 0<m by omega);by_cases d:0<=a\/m ∣ a
  .rw[if_pos d];rw[if_neg (by omega)];omega
  rw[if_neg d];have:(m.natAbs:Int)=m:=by omega
  rw[this,if_pos (by omega)];omega
 generalize p:a.tmod m=t at *;generalize e:A .aI .lss t 0=u;have f:=e;rw[bm A]at e;have key:∀z:Int,z=a % m->k (.int .i64 z) h:=λz q=>by
  have g:=mZX a R;have j:=mZW a (show 0<m by omega);refine l z (a % (n:Int)).toNat ⟨?_⟩ rfl ?_
  .rw[<-b];omega
  rw[<-b];omega
 have W:t<0->A .bB .add .i64 t m=t+m:=λh=>by
  rw[c.bB];simp only[bB];rw[IntWalk.i64_in _ (by omega)]
 refine mQF jKt A Tryz.func59 ?_;cbv;refine⟨R,?_⟩;cbv;rw[T];rw[f];cases u with
 |true=>have B:=mQL e;have s:=key (t+m) (by rw[Q,if_pos B]);cbv;rw[W B];exact s
 |false=>have B:=mQO e;have s:=key t (by rw[Q,if_neg B]);cbv;exact s
def aXC(t:Nat):UInt8:=UInt8.ofNat (97+t)
def xY(t:Nat):By:=[105,110,115,101,114,116,32,105,110,116,111,32,116]++(aXC t::[32,118,97,108,117,101,115,32,40])
def AH(n x y t:Nat):By:=xY t++(if n<3 then dk x++([44,32,39,118]++(dk y++[39,41]))else dk x++([32,43,32]++(dk y++[44,32,110,117,108,108,41])))
def bJz:List ByteArray:=[aM [116,97],aM [116,98],aM [116,99]]
theorem aXB{t:Nat}{s:ByteArray}(h:bJz[t]? =some s):s=aM [116,aXC t]:=by
 match t with
 |0=>cases h;rfl
 |1=>cases h;rfl
 |2=>cases h;rfl
 |t+3=>cases h
def dXv:List ByteArray:=[aM [116,98],aM [116,99],aM [116,97]]
theorem hZu{zn:Int}(hn:aS zn n)(cn:n<4)(a b:Int)(h:ad)(hk:∀h',Le h h'->k (.string (aM (AH n (a % 30).toNat (b % 30).toNat (b % 3).toNat))) h'):Ct 22 [.int .i64 zn,.int .i64 a,.int .i64 b] h k:=by
 refine mQx jKX Tryz.func22 λA hA=>?_;cbv;intro ag h1 f1 e1;have l1:Le h h1:=by rw[e1];exact Le.set f1
 have s1:Sl 9 dX h1 (.slice (some ⟨ag,0,none⟩) 3 3) bJz:=sZ (l:=bJz) ((congrFun e1 ag).trans ae) (by decide);clear e1;cbv;refine uv b 3 (by decide) (by decide) h1 (λaf t jV RC wE=>?_);have rQ:0<=af/\af<((3:Nat):Int):=jV.ix wE;obtain⟨nm,wD⟩:=aE (xs:=bJz) (i:=t) wE;have az:=jV.eq;cbv;refine⟨⟨rfl,rQ⟩,?_⟩;cbv;refine s1.load wD az (λcs f=>?_);replace f:cs=[.string nm]:=f;subst f;cbv;intro Dz V f2 e2;have l2:Le h1 V:=by rw[e2];exact Le.set f2
 have s2:Sl 9 dX V (.slice (some ⟨Dz,0,none⟩) 3 3) dXv:=sZ (l:=dXv) ((congrFun e2 Dz).trans ae) (by decide);clear e2;cbv;refine uv b 3 (by decide) (by decide) V (λab t2 dL RB pz=>?_);have jo:0<=ab/\ab<((3:Nat):Int):=dL.ix pz;obtain⟨un,FC⟩:=aE (xs:=dXv) (i:=t2) pz;have FA:=dL.eq;cbv;refine⟨⟨rfl,jo⟩,?_⟩;cbv;refine s2.load FC FA (λcs f=>?_);replace f:cs=[.string un]:=f;subst f;cbv;refine uv a 30 (by decide) (by decide) V (λzx x aP hx cq=>?_);have S:zx=(x:Int):=aP.eq;cbv;refine yr x zx S (by omega) V (λg l3=>?_);obtain⟨xs,Cp⟩:∃xs,aM (dk x)=xs:=⟨_,rfl⟩;rw[Cp];cbv;refine uv b 30 (by decide) (by decide) g (λzy y aK hy cm=>?_);have R:zy=(y:Int):=aK.eq;cbv;refine yr y zy R (by omega) g (λh4 l4=>?_);obtain⟨ys,e⟩:∃ys,aM (dk y)=ys:=⟨_,rfl⟩;rw[e];have bo:xs.size<=3:=by rw[<-Cp,ep];exact nL x (by omega)
 have bn:ys.size<=3:=by rw[<-e,ep];exact nL y (by omega)
 have v:=aXB wD;have ck:nm.size=2:=by rw[v];rfl
 have Q:∀a b:ByteArray,(A .cat a b).size=a.size+b.size:=λa b=>IK a b;obtain⟨w1,EU⟩:∃c,A .cat ⟨#[32,119,104,101,114,101,32,97,32,61,32]⟩ xs=c:=⟨_,rfl⟩;obtain⟨w2,vj⟩:∃c,A .cat ⟨#[32,119,104,101,114,101,32,97,32,62,32]⟩ xs=c:=⟨_,rfl⟩;obtain⟨w3,ar⟩:∃c,A .cat w2 ⟨#[32,97,110,100,32,98,32,105,115,32,110,117,108,108]⟩=c:=⟨_,rfl⟩;obtain⟨w4,aj⟩:∃c,A .cat ⟨#[32,119,104,101,114,101,32,110,111,116,32,40,97,32,60,32]⟩ xs=c:=⟨_,rfl⟩;obtain⟨w5,aW⟩:∃c,A .cat w4 ⟨#[41,32,111,114,32,98,32,61,32,39,99,39]⟩=c:=⟨_,rfl⟩;obtain⟨w6,M⟩:∃c,A .cat ⟨#[32,119,104,101,114,101,32,97,32,43,32,49,32,60,61,32]⟩ xs=c:=⟨_,rfl⟩;obtain⟨w7,aw⟩:∃c,A .cat w6 ⟨#[32,42,32,50]⟩=c:=⟨_,rfl⟩;have bf:((11+xs.size:Nat):Int)<=2^62:=by omega
 have bx:w1.size=11+xs.size:=by rw[<-EU,Q];rfl
 have bd:((11+xs.size:Nat):Int)<=2^62:=by omega
 have bw:w2.size=11+xs.size:=by rw[<-vj,Q];rfl
 have bc:((w2.size+14:Nat):Int)<=2^62:=by omega
 have bb:((16+xs.size:Nat):Int)<=2^62:=by omega
 have bt:w4.size=16+xs.size:=by rw[<-aj,Q];rfl
 have ba:((w4.size+12:Nat):Int)<=2^62:=by omega
 have aZ:((16+xs.size:Nat):Int)<=2^62:=by omega
 have br:w6.size=16+xs.size:=by rw[<-M,Q];rfl
 have aY:((w6.size+4:Nat):Int)<=2^62:=by omega
 obtain⟨W,J⟩:∃W:List ByteArray,W=[⟨#[]⟩,w1,w3,w5,w7,⟨#[32,119,104,101,114,101,32,98,32,60,32,39,100,39]⟩]:=⟨_,rfl⟩;have hq:A .bB .quo .i64 a 7=A .bB .quo .i64 a 7:=rfl;obtain⟨zq,au⟩:∃zq,A .bB .quo .i64 a 7=zq:=⟨_,rfl⟩;obtain⟨q1,T⟩:∃c,A .cat ⟨#[105,110,115,101,114,116,32,105,110,116,111,32]⟩ nm=c:=⟨_,rfl⟩;obtain⟨q2,K⟩:∃c,A .cat q1 ⟨#[32,118,97,108,117,101,115,32,40]⟩=c:=⟨_,rfl⟩;obtain⟨u,Z⟩:∃c,A .cat q2 xs=c:=⟨_,rfl⟩;obtain⟨q4,X⟩:∃c,A .cat u ⟨#[44,32,39,118]⟩=c:=⟨_,rfl⟩;obtain⟨q5,I⟩:∃c,A .cat q4 ys=c:=⟨_,rfl⟩;obtain⟨q6,j⟩:∃c,A .cat q5 ⟨#[39,41]⟩=c:=⟨_,rfl⟩;obtain⟨r4,H⟩:∃c,A .cat u ⟨#[32,43,32]⟩=c:=⟨_,rfl⟩;obtain⟨r5,G⟩:∃c,A .cat r4 ys=c:=⟨_,rfl⟩;obtain⟨r6,ak⟩:∃c,A .cat r5 ⟨#[44,32,110,117,108,108,41]⟩=c:=⟨_,rfl⟩;have cj:q1.size=12+nm.size:=by rw[<-T,Q]<;>rfl
 have ch:q2.size=q1.size+9:=by rw[<-K,Q]<;>rfl
 have cc:u.size=q2.size+xs.size:=by rw[<-Z,Q]<;>rfl
 have cb:q4.size=u.size+4:=by rw[<-X,Q]<;>rfl
 have ca:q5.size=q4.size+ys.size:=by rw[<-I,Q]<;>rfl
 have bF:r4.size=u.size+3:=by rw[<-H,Q]<;>rfl
 have bz:r5.size=r4.size+ys.size:=by rw[<-G,Q]<;>rfl
 have z:((12+nm.size:Nat):Int)<=2^62:=by omega
 have r:((q1.size+9:Nat):Int)<=2^62:=by omega
 have q:((q2.size+xs.size:Nat):Int)<=2^62:=by omega
 have C:((u.size+4:Nat):Int)<=2^62:=by omega
 have B:((q4.size+ys.size:Nat):Int)<=2^62:=by omega
 have w:((q5.size+2:Nat):Int)<=2^62:=by omega
 have bk:((u.size+3:Nat):Int)<=2^62:=by omega
 have bj:((r4.size+ys.size:Nat):Int)<=2^62:=by omega
 have bg:((r5.size+7:Nat):Int)<=2^62:=by omega
 have p:∀x y:By,A .cat (aM x) (aM y)=aM (x++y):=λx y=>by rw[hA.cat];exact py x y
 have g1:q1=aM ([105,110,115,101,114,116,32,105,110,116,111,32]++[116,aXC t]):=by rw[<-T,v];exact p [105,110,115,101,114,116,32,105,110,116,111,32] _
 have g2:q2=aM (xY t):=by rw[<-K,g1];exact p _ [32,118,97,108,117,101,115,32,40]
 have g3:u=aM (xY t++dk x):=by rw[<-Z,g2,<-Cp];exact p _ _
 have g4:q4=aM (xY t++dk x++[44,32,39,118]):=by rw[<-X,g3];exact p _ [44,32,39,118]
 have g5:q5=aM (xY t++dk x++[44,32,39,118]++dk y):=by rw[<-I,g4,<-e];exact p _ _
 have g6:q6=aM (AH 0 x y t):=by rw[<-j,g5];refine(p _ [39,41]).trans ?_;unfold AH;rw[if_pos (by decide)];simp only[mXk]
 have k4:r4=aM (xY t++dk x++[32,43,32]):=by rw[<-H,g3];exact p _ [32,43,32]
 have k5:r5=aM (xY t++dk x++[32,43,32]++dk y):=by rw[<-G,k4,<-e];exact p _ _
 have k6:r6=aM (AH 3 x y t):=by rw[<-ak,k5];refine(p _ [44,32,110,117,108,108,41]).trans ?_;unfold AH;rw[if_neg (by decide)];simp only[mXk]
 have P:n<3->AH n x y t=AH 0 x y t:=λh=>by unfold AH;rw[if_pos h,if_pos (by decide)]
 have hX:x=(a % 30).toNat:=hx;have hY:y=(b % 30).toNat:=hy;have hT:t=(b % 3).toNat:=RC;have O:n<3->∀h',Le h h'->k (.string q6) h':=λg h' l=>by rw[g6,<-P g,hX,hY,hT];exact hk h' l
 have N:n=3->∀h',Le h h'->k (.string r6) h':=λg h' l=>by rw[k6,<-g,hX,hY,hT];exact hk h' l
 have nP:=hn.eq;clear g1 g2 g3 g4 g5 g6 k4 k5 k6 P hX hY hT hx hy RC RB v p Q hk Cp e S R ck bo bn cj ch cc cb ca bF bz bx bw bt br wD FC;cbv;refine⟨bf,?_⟩;cbv;rw[EU];refine⟨bd,?_⟩;cbv;rw[vj];refine⟨bc,?_⟩;cbv;rw[ar];refine⟨bb,?_⟩;cbv;rw[aj];refine⟨ba,?_⟩;cbv;rw[aW];refine⟨aZ,?_⟩;cbv;rw[M];refine⟨aY,?_⟩;cbv;rw[aw];intro U s f5 e5;have l5:Le h4 s:=by rw[e5];exact Le.set f5
 have s5:Sl 9 dX s (.slice (some ⟨U,0,none⟩) 6 6) W:=by rw[J];exact sZ (l:=[⟨#[]⟩,w1,w3,w5,w7,⟨#[32,119,104,101,114,101,32,98,32,60,32,39,100,39]⟩]) ((congrFun e5 U).trans ae) (by simp)
 have aH:W.length=6:=by rw[J];rfl
 clear e5 J;cbv;refine⟨by decide,?_⟩;cbv;rw[au];refine uv zq 6 (by decide) (by decide) s (λY t3 ui YM DE=>?_);have sK:0<=Y/\Y<((6:Nat):Int):=ui.ix DE;obtain⟨ww,aV⟩:=aE (xs:=W) (i:=t3) (by rw[aH];exact DE);have Te:=ui.eq;cbv;refine⟨⟨rfl,sK⟩,?_⟩;cbv;refine s5.load aV Te (λcs f=>?_);replace f:cs=[.string ww]:=f;subst f;cbv;refine uv zn 24 (by decide) (by decide) s (λzm m al hm sh=>?_);have HX:m=n:=by have:=hn.eq;rw[hm,this];omega
 subst HX;have cp:=al.eq;have lt:Le h s:=(((l1.trans l2).trans l3).trans l4).trans l5;have o:A .aI .eql zm 0=decide (m=0):=by rw[aA A,decide_eq_decide];omega
 have E:A .aI .eql zm 1=decide (m=1):=by rw[aA A,decide_eq_decide];omega
 have L:A .aI .eql zm 2=decide (m=2):=by rw[aA A,decide_eq_decide];omega
 have cl:A .aI .eql zm 3=decide (m=3):=by rw[aA A,decide_eq_decide];omega
 have d:m<3->k (.string q6) s:=λg=>O g s lt;have F:m=3->k (.string r6) s:=λg=>N g s lt;have an:m=0\/m=1\/m=2\/m=3:=by omega
 clear O N s5 s1 s2;rcases an with rfl|rfl|rfl|rfl
 .have D:=d (by omega);clear d F;cbv;rw[o,mQu (by decide)];cbv;refine⟨z,?_⟩;cbv;rw[T];refine⟨r,?_⟩;cbv;rw[K];refine⟨q,?_⟩;cbv;rw[Z];refine⟨C,?_⟩;cbv;rw[X];refine⟨B,?_⟩;cbv;rw[I];refine⟨w,?_⟩;cbv;rw[j];exact D
 .have D:=d (by omega);clear d F;cbv;rw[o,mQv (by decide)];cbv;rw[E,mQu (by decide)];cbv;refine⟨z,?_⟩;cbv;rw[T];refine⟨r,?_⟩;cbv;rw[K];refine⟨q,?_⟩;cbv;rw[Z];refine⟨C,?_⟩;cbv;rw[X];refine⟨B,?_⟩;cbv;rw[I];refine⟨w,?_⟩;cbv;rw[j];exact D
 .have D:=d (by omega);clear d F;cbv;rw[o,mQv (by decide)];cbv;rw[E,mQv (by decide)];cbv;rw[L,mQu (by decide)];cbv;refine⟨z,?_⟩;cbv;rw[T];refine⟨r,?_⟩;cbv;rw[K];refine⟨q,?_⟩;cbv;rw[Z];refine⟨C,?_⟩;cbv;rw[X];refine⟨B,?_⟩;cbv;rw[I];refine⟨w,?_⟩;cbv;rw[j];exact D
 have D:=F rfl;clear d F;cbv;rw[o,mQv (by decide)];cbv;rw[E,mQv (by decide)];cbv;rw[L,mQv (by decide)];cbv;rw[cl,mQu (by decide)];cbv;refine⟨z,?_⟩;cbv;rw[T];refine⟨r,?_⟩;cbv;rw[K];refine⟨q,?_⟩;cbv;rw[Z];refine⟨bk,?_⟩;cbv;rw[H];refine⟨bj,?_⟩;cbv;rw[G];refine⟨bg,?_⟩;cbv;rw[ak];exact D
open Go.Sx
structure wK where
 s:Int
 n:Int
 a:Int
 b:Int
def kn:Sh wK where
 n:=4
 R _ cs v:=cs=[.int .i64 v.s,.int .i64 v.n,.int .i64 v.a,.int .i64 v.b]
 len:=by rintro h cs x rfl;rfl
 one:=by rintro h cs x rfl;rfl
 tys:=[]
 mono:=λ_ q=>q
def gN(t:Nat):ByteArray:=aM [116,aXC t]
def Ei(t:Nat)(ws:List Wd):List Wd:=wd [105,110,115,101,114,116]::wd [105,110,116,111]::wd [116,aXC t]::wd [118,97,108,117,101,115]::Ax 40::ws
theorem cH.xY{t:Nat}(a:t<3){r:By}{w:List Wd}(h:cH r w):cH (xY t++r) (Ei t w):=by
 match t,a with
 |0,_=>exact cH.name [110,115,101,114,116] rfl rfl rfl (cH.sp (cH.name [110,116,111] rfl rfl rfl (cH.sp (cH.name [97] rfl rfl rfl (cH.sp (cH.name [97,108,117,101,115] rfl rfl rfl (cH.sp (cH.sign rfl (by decide) (by decide) h))))))))
 |1,_=>exact cH.name [110,115,101,114,116] rfl rfl rfl (cH.sp (cH.name [110,116,111] rfl rfl rfl (cH.sp (cH.name [98] rfl rfl rfl (cH.sp (cH.name [97,108,117,101,115] rfl rfl rfl (cH.sp (cH.sign rfl (by decide) (by decide) h))))))))
 |2,_=>exact cH.name [110,115,101,114,116] rfl rfl rfl (cH.sp (cH.name [110,116,111] rfl rfl rfl (cH.sp (cH.name [99] rfl rfl rfl (cH.sp (cH.name [97,108,117,101,115] rfl rfl rfl (cH.sp (cH.sign rfl (by decide) (by decide) h))))))))
def tV(t:Nat)(es:List (List Nd)):aJ:={ kind:=3,table:=gN t,exprs:=es }
theorem hZo{t:Nat}(h:t<3)(a:Int)(x:By):rD ao (Ei t [ur a,Ax 44,dQR x,Ax 41]++[oH])=(tV t [[lit (iN a)],[lit (iT x)]],0):=by
 match t,h with
 |0,_=>show _=_;kernel_rfl
 |1,_=>show _=_;kernel_rfl
 |2,_=>show _=_;kernel_rfl
theorem hZn{t:Nat}(h:t<3)(a b:Int):rD ao (Ei t [ur a,Ax 43,ur b,Ax 44,wd [110,117,108,108],Ax 41]++[oH])=(tV t [[lit (iN a),lit (iN b),bin 14 0 1],[lit v0]],0):=by
 match t,h with
 |0,_=>show _=_;kernel_rfl
 |1,_=>show _=_;kernel_rfl
 |2,_=>show _=_;kernel_rfl
theorem Kz{t:Nat}{s:List (List Nd)}(h:∀e∈s,iY e)(l:s.length<=6):dr (tV t s):=
 ⟨λn a=>(by cases a),λn a=>(by cases a),h,λi b=>(by cases b),by show s.length<=_;omega,λk=>absurd k (by show ¬(3:Int)=4;decide),iX,iX,mQC _,mQC _⟩
theorem aQY{a b c:Int}(n:eD 14 a b=some (iN c)):bS [[lit (iN a),lit (iN b),bin 14 0 1],[lit v0]] [] []=([iN c,v0],0):=by
 have h:jv [lit (iN a),lit (iN b),bin 14 0 1] []=(2,0):=by
  have e:eK [] [lit (iN a),lit (iN b),bin 14 0 1] []=eK [] [bin 14 0 1] [2,2]:=by rw[gP,pK,np];show eK [] (lit (iN b)::[bin 14 0 1]) [2]=_;rw[gP,pK,np];rfl
  unfold jv;rw[if_neg (by simp),e];have f:eK [] [bin 14 0 1] [2,2]=([2,2,2],0):=by kernel_rfl
  rw[f];rfl
 have d:gM [] [] [lit (iN a),lit (iN b),bin 14 0 1] []=match eD 14 a b with
  |some v=>some [iN a,iN b,v]
  |none=>none:=by kernel_rfl
 have g:eP [lit (iN a),lit (iN b),bin 14 0 1] [] []=(iN c,0):=by unfold eP;rw[h,d,n];rfl
 unfold bS;rw[iG g,iG (lC RY _ _)];rfl
def ud(n x y:Nat):Row:=if n<3 then [iN x,iT (118::dk y)]else [iN ((x:Int)+y),v0]
theorem bXR{t:Nat}(a:n<4)(hx:x<1000)(u:y<1000)(k:t<3):∃s,cL ao (aM (AH n x y t))=(tV t s,0)/\bJ (aM (AH n x y t))=true/\dr (tV t s)/\bS s [] []=(ud n x y,0):=by
 have A:(xY t).length=23:=rfl;have lx:=nL x hx;have C:=nL y u;have m:∀(v:cO),kM v->iY [lit v]:=λv p n a=>by
  rcases mQI.1 a with rfl|a
  .exact rJ p
  cases a
 have key:∀ {r:By} {ws:List Wd} {st:aJ},r.length<=100->cH r ws->rD ao (Ei t ws++[oH])=(st,0)->cL ao (aM (xY t++r))=(st,0)/\bJ (aM (xY t++r))=true:=λ{r ws st} B h o=>by
  have w:iq (aM (xY t++r))=(Ei t ws++[oH],0):=wW (by rw[ep,mQy];omega) (show cH (xY t++r) (Ei t ws)from cH.xY k h);refine⟨(xy w).trans o,?_⟩;unfold bJ;rw[w];rfl
 by_cases d:n<3
 .have f:AH n x y t=xY t++(dk x++(44::32::(DZ (118::dk y)++[41]))):=by
   have q:Dx (dk y)=dk y:=by
    have:∀l:By,l.all fq=true->Dx l=l:=λl=>by
     induction l with
     |nil=>intro _;rfl
     |cons c l z=>intro h;rw[mXY,mQQ]at h;have:=Nk h.1;show(if c.toNat=39 then _ else _)=_;rw[if_neg (by omega),z h.2]
    exact this _ (QK y)
   have K:Dx (118::dk y)=118::dk y:=by show(if(118:UInt8).toNat=39 then _ else 118::Dx (dk y))=_;rw[if_neg (by decide),q]
   unfold AH;rw[if_pos d];unfold DZ;rw[K];simp
  have j:(118::dk y:By).length<=60:=by simp only[mQM];omega
  obtain⟨g,i⟩:=key (r:=dk x++(44::32::(DZ (118::dk y)++[41]))) (by
   have:=Mb (118::dk y);simp only[DZ,mQy,mQM,mQS]at this |-;omega) (cH.cXV x (by omega) rfl (cH.comma (DY j rfl cH.close))) (hZo k x (118::dk y))
  rw[f];refine⟨_,g,i,Kz (by simpa using ⟨m _ (vZ (by omega)),m _ (HQ _)⟩) (by simp),?_⟩;unfold ud;rw[if_pos d];exact Bw (np x) (xd j)
 have f:AH n x y t=xY t++(dk x++(32::43::32::(dk y++(44::32::([110,117,108,108]++[41]))))):=by unfold AH;rw[if_neg d];simp
 obtain⟨g,i⟩:=key (r:=dk x++(32::43::32::(dk y++(44::32::([110,117,108,108]++[41]))))) (by
  simp only[mQy,mQM,mQS];omega) (cH.cXV x (by omega) rfl (cH.sp (cH.sign rfl (by decide) (by decide) (cH.sp (cH.cXV y (by omega) rfl (cH.comma (Mh rfl cH.close))))))) (hZn k x y)
 rw[f];have a:eD 14 x y=some (iN ((x:Int)+y)):=by unfold eD;rw[if_neg (by decide),if_pos rfl];unfold xK;rw[if_pos (jP.2 (by omega))];rfl
 refine⟨_,g,i,Kz ?_ (by simp),?_⟩
 .intro e b;rcases mQI.1 b with rfl|b
  .intro n a;simp only[mQI,mZY,or_false]at a;rcases a with rfl|rfl|rfl
   .exact rJ (vZ (by omega))
   .exact rJ (vZ (by omega))
   exact xN ..
  rcases mQI.1 b with rfl|b
  .exact m _ kA
  cases b
 unfold ud;rw[if_neg d];exact aQY a
theorem ZW(hx:x<1000)(a:y<1000):dg bp (ud n x y)=0/\fS (ud n x y):=by
 have l:=nL y a;unfold ud;split
 .refine⟨zD (Un (by simp only[mQM];omega)),λv h=>?_⟩;rcases mQI.1 h with rfl|h
  .exact vZ (by omega)
  rcases mQI.1 h with rfl|h
  .exact HQ _
  cases h
 refine⟨zD rfl,λv h=>?_⟩;rcases mQI.1 h with rfl|h
 .exact vZ (by omega)
 rcases mQI.1 h with rfl|h
 .exact kA
 cases h
structure AJ(R:Nat->List Row)(log:List dV)(d:DB):Prop where
 az:d.az=[⟨aF 0,R 0⟩,⟨aF 1,R 1⟩,⟨aF 2,R 2⟩]
 aq:d.aq=[⟨0,log,[]⟩]
 holds:∀h∈d.holds,h.s=0
 waits:d.waits=[]
theorem AJ.hold(q:AJ R l d){t:Nat}(g:t<3)(x:Bool):∃b,aL d ⟨0,gN t,x⟩=(b,0)/\AJ R l b:=by
 obtain⟨c,e,a,f⟩:=q;obtain⟨T,W,H,i⟩:=d;simp only at c e a f;subst c e f;have y:Hw ⟨[⟨aF 0,R 0⟩,⟨aF 1,R 1⟩,⟨aF 2,R 2⟩],[⟨0,l,[]⟩],H,[]⟩ ⟨0,gN t,x⟩=true:=by
  match t,g with
  |0,_=>show _=_;kernel_rfl
  |1,_=>show _=_;kernel_rfl
  |2,_=>show _=_;kernel_rfl
 have C:H.any (eL ⟨0,gN t,x⟩)=false:=by rw[mZL];intro o h;unfold eL;have:=a o h;simp[this]
 have m:bP H ⟨0,gN t,x⟩=true:=by unfold bP;rw[C];simp
 have V:∀o∈cV H ⟨0,gN t,x⟩,o.s=0:=by
  intro o h;unfold cV at h;rw[if_pos m]at h;split at h
  .exact a o h
  split at h
  .rcases mXz h with h|rfl
   .exact a o h
   rfl
  rcases mQE.1 h with h|h
  .exact a o h
  rw[mQH]at h;subst h;rfl
 refine⟨⟨[⟨aF 0,R 0⟩,⟨aF 1,R 1⟩,⟨aF 2,R 2⟩],[⟨0,l,[]⟩],cV H ⟨0,gN t,x⟩,[]⟩,?_,rfl,rfl,V,rfl⟩;unfold aL;rw[if_pos y];show jK (H.length+1) _ _=_;unfold jK;rw[if_pos m];have:df H [] ⟨0,gN t,x⟩=[]:=by unfold df;rw[if_pos m];rfl
 simp only[this]
theorem AJ.dXw(q:AJ R l d){t:Nat}(h:t<3):di (aQ d.az (gN t))=t/\d.az[t]? =some ⟨aF t,R t⟩:=by
 rw[q.az]
 match t,h with
 |0,_=>exact⟨by kernel_rfl,rfl⟩
 |1,_=>exact⟨by kernel_rfl,rfl⟩
 |2,_=>exact⟨by kernel_rfl,rfl⟩
def OG(R:Nat->List Row)(t:Nat)(X:List Row):Nat->List Row:=λj=>if j=t then X else R j
theorem AJ.put(q:AJ R l d){t:Nat}(g:t<3)(r:Row):∃b e,fF d 0 (gN t) r=(b,e)/\(e≠0->AJ R l b)/\(e=0->AJ (OG R t (bK ⟨aF t,R t⟩ r).1.rows) (l++[⟨gN t,1,r⟩]) b/\(bK ⟨aF t,R t⟩ r).2=0):=by
 obtain⟨c,hd,a⟩:=q.hold g true;obtain⟨m,k⟩:=a.dXw g;have j:bQ c.aq 0=bQ [⟨0,l,[]⟩] 0:=by rw[a.aq]
 have K:di (bQ c.aq 0)=0:=by rw[j];kernel_rfl
 have J:c.aq[0]? =some ⟨0,l,[]⟩:=by rw[a.aq];rfl
 have h:fF d 0 (gN t) r=(if decide ((aL d ⟨0,gN t,true⟩).2≠0)=true then aL d ⟨0,gN t,true⟩
  else match (aL d ⟨0,gN t,true⟩).1.az[di (aQ (aL d ⟨0,gN t,true⟩).1.az (gN t))]?,(aL d ⟨0,gN t,true⟩).1.aq[di (bQ (aL d ⟨0,gN t,true⟩).1.aq 0)]? with
  |some x,some w=>
   if decide ((dK r x).2.2≠19)&&decide ((w.log.length:Int)>=60)then((aL d ⟨0,gN t,true⟩).1,4)
   else if decide ((dK r x).2.2=0)=true then
    (⟨(aL d ⟨0,gN t,true⟩).1.az.set (di (aQ (aL d ⟨0,gN t,true⟩).1.az (gN t))) (dK r x).1,(aL d ⟨0,gN t,true⟩).1.aq.set (di (bQ (aL d ⟨0,gN t,true⟩).1.aq 0)) ⟨w.s,w.log++[⟨gN t,(dK r x).2.1.op,(dK r x).2.1.row⟩],w.marks⟩,(aL d ⟨0,gN t,true⟩).1.holds,(aL d ⟨0,gN t,true⟩).1.waits⟩,0)
   else((aL d ⟨0,gN t,true⟩).1,(dK r x).2.2)
  |_,_=>aL d ⟨0,gN t,true⟩):=rfl
 rw[hd]at h;simp only[m,k,K,J,ne_eq,not_true_eq_false,decide_false,mZe,if_false]at h;obtain⟨P,f⟩:∃P,bK ⟨aF t,R t⟩ r=P:=⟨_,rfl⟩;have G:dK r ⟨aF t,R t⟩=(P.1,⟨jb,1,r⟩,P.2):=by unfold dK;rw[f]
 have i:P.1.S=aF t:=by
  rw[<-f];unfold bK;split
  .rfl
  split
  .rfl
  split<;>rfl
 rw[G]at h;obtain⟨⟨PS,n⟩,p⟩:=P;have i:PS=aF t:=i;subst i;rw[f];simp only at h;split at h
 .exact⟨_,_,h,λ_=>a,λe=>absurd e (by decide)⟩
 split at h
 .rename_i h0;have h0:p=0:=mQL h0;refine⟨_,_,h,λe=>absurd rfl e,λ_=>⟨⟨?_,?_,a.holds,a.waits⟩,h0⟩⟩
  .rw[a.az]
   match t,g with
   |0,_=>rfl
   |1,_=>rfl
   |2,_=>rfl
  rw[a.aq];rfl
 rename_i h0;have h0:p≠0:=λe=>h0 (mQu e);exact⟨_,_,h,λ_=>a,λe=>absurd e h0⟩
theorem eQJ(d:DB)(t:Nat)(s:List (List Nd)):iD d 0 (tV t s)=match aL d ⟨0,gN t,true⟩with
 | (d,e)=>if e≠0 then(d,[],e)else cP d (match bS s [] []with
  | (r,e)=>if e≠0 then(d,e)else fF d 0 (gN t) r):=rfl
def kL(r:Row):Prop:=∃(a:Int) (v:cO),r=[iN a,v]/\0<=a/\a<2000/\(v=v0\/∃x,v=iT x/\x.length<=10)
theorem bXS(hx:x<1000)(h:y<1000):kL (ud n x y):=by
 have l:=nL y h;unfold ud;split
 .exact⟨_,_,rfl,by omega,by omega,.inr ⟨_,rfl,by simp only[mQM];omega⟩⟩
 exact⟨_,_,rfl,by omega,by omega,.inl rfl⟩
structure AL(m:Nat)(R:Nat->List Row)(log:List dV)(d:DB):Prop where
 aj:AJ R log d
 ej:EJ (2*m) d
 rp:∀t,t<3->∀r∈R t,kL r
 ln:(R 0).length+(R 1).length+(R 2).length=log.length
 le:log.length<=m
theorem XC{S:FR}{R:List Row}{r:Row}(h:(bK ⟨S,R⟩ r).2=0):∃i,(bK ⟨S,R⟩ r).1.rows=R.take i++[r]++R.drop i:=by
 unfold bK at h |-;split at h
 .rename_i a;exact absurd h (mQL a)
 rename_i a;rw[if_neg a];split at h
 .cases h
 rename_i b;rw[if_neg b];split at h
 .cases h
 rename_i c;rw[if_neg c];exact⟨_,rfl⟩
theorem AL.step{m:Nat}(q:AL m R l d)(K:m<=100){t:Nat}(hx:x<1000)(w:y<1000)(g:t<3){b:List (List Nd)}(F:bS b [] []=(ud n x y,0)):∃A H,AL (m+1) A H (iD d 0 (tV t b)).1:=by
 obtain⟨a,hd,z⟩:=q.aj.hold g true;have W:EJ (2*m+1) a:=by have:=q.ej.hold ⟨0,gN t,true⟩ (by show(-2^63:Int)<=0/\(0:Int)<2^63;decide);rw[hd]at this;exact this
 obtain⟨I,E⟩:=ZW (n:=n) hx w;have J:=bXS (n:=n) hx w;generalize ud n x y=r at *;obtain⟨o,e,v,L,G⟩:=z.put g r;have Q:EJ (2*m+2) o:=by have:=W.put (s:=0) (gN t) (by decide) E;rw[v]at this;exact this
 have D:iD d 0 (tV t b)=cP a (o,e):=by rw[eQJ,hd,F];show cP a (fF a 0 (gN t) r)=_;rw[v]
 rw[D];unfold cP;by_cases h:e≠0
 .rw[if_pos h];exact⟨R,l,z,W.le (by omega),q.rp,q.ln,by have:=q.le;omega⟩
 rw[if_neg h];have h:e=0:=mXc.1 h;obtain⟨B,C⟩:=G h;obtain⟨i,p⟩:=XC C;have f:(bK ⟨aF t,R t⟩ r).1.rows.length=(R t).length+1:=by rw[p];simp only[mQy,mQK,mXg,mQM,mQS];omega
 refine⟨_,_,B,Q.le (by omega),?_,?_,by have:=q.le;simp only[mQy,mQM,mQS];omega⟩
 .intro j c k u;unfold OG at u;split at u
  .rename_i e;subst e;rw[p]at u;rcases mQE.1 u with u|u
   .rcases mQE.1 u with u|u
    .exact q.rp j c k (mXF u)
    rw[mQH]at u;subst u;exact J
   exact q.rp j c k (mXZ u)
  exact q.rp j c k u
 have:=q.ln;simp only[mQy,mQM,mQS];unfold OG
 match t,g with
 |0,_=>simp only[if_true,f];simp;omega
 |1,_=>simp only[if_true,f];simp;omega
 |2,_=>simp only[if_true,f];simp;omega
theorem AL.start:AL 0 (λ_=>[]) [] Cn:=⟨⟨by kernel_rfl,by kernel_rfl,(λh a=>by cases a),by kernel_rfl⟩,ME,(λt _ r b=>by cases b),rfl,mQD _⟩
structure gKW where
 b1:Option Addr
 n1:Nat
 c1:Nat
 b2:Option Addr
 n2:Nat
 c2:Nat
 b3:Option Addr
 n3:Nat
 c3:Nat
 b4:Option Addr
 n4:Nat
 c4:Nat
def gKW.v(g:gKW):Value:=.agg #[.slice g.b1 g.n1 g.c1,.slice g.b2 g.n2 g.c2,.slice g.b3 g.n3 g.c3,.slice g.b4 g.n4 g.c4]
theorem eXt{xs:List wK}(q:zW kn h (.slice b n c) xs){d0:DB}{be:Int}(hd:dy eY 0=(d0,be))(W:AL 0 (λ_=>[]) [] d0)
  (S:∀h' f F u j H v p J B r K C R E d,Le h h'->ik h' (.agg #[.slice f F u,.slice j H v,.slice p J B,.slice r K C]) d->AL 25 R E d->k (.agg #[.slice f F u,.slice j H v,.slice p J B,.slice r K C]) h'):
 Ct 7 [.slice b n c] h k:=by
 have aH:=q.len;have sM:=q.bound;refine mQx T7 Tryz.func7 λA hA=>?_;cbv;refine FZ (λh2 f F u j H v p J B r K C d1 m1 e1 d2 m2 e2 d3 m3 e3 d4 L e4 l2 vh _=>?_);cbv;refine uX vh 0 (rE.sj.Ko.small (by decide)) hd (λh3 f F u j H v p J B r K C l3 Hq=>?_);replace Hq:ik h3 (.agg #[.slice f F u,.slice j H v,.slice p J B,.slice r K C]) d0:=Hq;have rL:=l2.trans l3;clear hd vh l2 l3;obtain⟨I,Q⟩:∃I:Nat->Int×gKW->ad->Prop,∀m g h',I m g h'=∃i R E d,aS g.1 i/\i<=25/\i<=n/\m=25-i/\Le h h'/\ik h' g.2.v d/\AL i R E d:=⟨_,λ_ _ _=>rfl⟩;have hJ:I 25 (0,⟨f,F,u,j,H,v,p,J,B,r,K,C⟩) h3:=by rw[Q];exact⟨0,_,_,d0,⟨rfl⟩,by omega,mQC _,rfl,rL,Hq,W⟩
 clear Hq rL W;cbv;refine aX.go (G:=Int×gKW) (λg=>[(5,.v (.int .i64 g.1))]) (λg=>[(2,[.slice none 0 0,.slice none 0 0,.slice none 0 0,.slice none 0 0]),(3,[.slice g.2.b1 g.2.n1 g.2.c1,.slice g.2.b2 g.2.n2 g.2.c2,.slice g.2.b3 g.2.n3 g.2.c3,.slice g.2.b4 g.2.n4 g.2.c4]),(4,[.slice d1 m1 e1,.slice d2 m2 e2,.slice d3 m3 e3,.slice d4 L e4])]) (λm g h'=>I m g h') 25 (0,⟨f,F,u,j,H,v,p,J,B,r,K,C⟩) (by constructor<;>cbv) hJ ?_
 intro m g h4 hI;rw[Q]at hI;cbv;obtain⟨i,R,E,d,P,aV,fZ,hm,hl,qd,O⟩:=hI;obtain⟨z,a1,i1,j1,a2,i2,j2,a3,i3,j3,a4,i4,j4⟩:=g;replace P:aS z i:=P;replace qd:ik h4 (.agg #[.slice a1 i1 j1,.slice a2 i2 j2,.slice a3 i3 j3,.slice a4 i4 j4]) d:=qd;have f1:A .aI .lss z (A .nat n)=decide (i<n):=P.iJ (aS.nat n);have f2:A .aI .lss z 25=decide (i<25):=by rw[bm A,decide_eq_decide];have:=P.eq;omega
 have cZ:=P.succ (A:=A);have cN:=P.eq;have aK:=O.le;have af:=S h4 a1 i1 j1 a2 i2 j2 a3 i3 j3 a4 i4 j4 R E d hl qd ⟨O.aj,O.ej.le (by omega),O.rp,O.ln,by omega⟩;by_cases U:i<n
 .by_cases X:i<25
  .obtain⟨x,hx⟩:=mQA xs i;obtain⟨Y,N,M,a⟩:=x;have cJ:b.isSome=true/\0<=z/\z<(n:Int):=⟨q.aT,P.ix U⟩;obtain⟨z2,dL⟩:∃z2,A .bB .add .i64 z 1=z2:=⟨_,rfl⟩;rw[dL]at cZ;have cD:∀h5 f F u j H v p J B r K C T vC d',Le h4 h5->ik h5 (.agg #[.slice f F u,.slice j H v,.slice p J B,.slice r K C]) d'->AL (i+1) T vC d'->I (25-(i+1)) (z2,⟨f,F,u,j,H,v,p,J,B,r,K,C⟩) h5:=λh5 f F u j H v p J B r K C T vC d' l q' V=>by
    rw[Q];exact⟨i+1,T,vC,d',cZ,X,U,rfl,hl.trans l,q',V⟩
   have sH:25-(i+1)<m:=by omega
   obtain⟨es,ig,DC,az,hv⟩:=bXR (n:=(N % 4).toNat) (x:=(M % 30).toNat) (y:=(a % 30).toNat) (t:=(a % 3).toNat) (by omega) (by omega) (by omega) (by omega);obtain⟨T,vC,V⟩:=O.step (by omega) (n:=(N % 4).toNat) (x:=(M % 30).toNat) (y:=(a % 30).toNat) (t:=(a % 3).toNat) (by omega) (by omega) (by omega) hv;have ej:=O.ej;have jm:2*i+700<2^18:=by omega
   obtain⟨tx,Tj⟩:∃tx,tx=aM (AH (N % 4).toNat (M % 30).toNat (a % 30).toNat (a % 3).toNat):=⟨_,rfl⟩;have aj:∀z4 L,aS z4 L->L=(N % ((4:Nat):Int)).toNat->L<4->∀h {k:Value->ad->Prop},(∀h',Le h h'->k (.string tx) h')->Ct 22 [.int .i64 z4,.int .i64 M,.int .i64 a] h k:=λz4 L h1 h2 h3 h k S=>hZu h1 h3 M a h (λh' l=>by
    have:=S h' l;rw[Tj]at this;rw[h2];exact this)
   rw[<-Tj]at ig DC;clear Tj hv;have Gm:iE d 0 (tV (a % 3).toNat es):=iE.no (by show(3:Int)≠6;decide) (by show(3:Int)≠4;decide) (by show(3:Int)≠5;decide);generalize tV (a % 3).toNat es=st at *;rw[f1,mQu U];cbv;rw[f2,mQu X];cbv;refine⟨cJ,?_⟩;cbv;refine(q.mono hl).vD hx cN (o:=1) (m:=1) (by decide) (λcs e ag=>?_);replace e:cs=[.int .i64 Y,.int .i64 N,.int .i64 M,.int .i64 a]:=e;subst e;cbv;refine⟨cJ,?_⟩;cbv;refine(q.mono hl).vD hx cN (o:=2) (m:=1) (by decide) (λcs e ab=>?_);replace e:cs=[.int .i64 Y,.int .i64 N,.int .i64 M,.int .i64 a]:=e;subst e;cbv;refine⟨cJ,?_⟩;cbv;refine(q.mono hl).vD hx cN (o:=3) (m:=1) (by decide) (λcs e Z=>?_);replace e:cs=[.int .i64 Y,.int .i64 N,.int .i64 M,.int .i64 a]:=e;subst e;cbv;refine nk N 4 (by decide) (by decide) h4 (λz4 L an ar au=>?_);cbv;refine Z _ _ (Le.refl _) ?_;cbv;refine⟨⟨_,rfl,rfl⟩,?_⟩;cbv;refine ab _ _ (Le.refl _) ?_;cbv;refine⟨⟨_,rfl,rfl⟩,?_⟩;cbv;refine aj z4 L an ar au h4 (λh5 l5=>?_);cbv;refine UH DC ig (λh6 w l6 qs=>?_);have aw:=qs;obtain⟨b5,n5,c5,b6,n6,c6,b7,n7,c7,b8,n8,c8,b9,n9,c9,gW,jD,gT,hw,-⟩:=aw.out;subst hw;replace qs:aQG h6 _ st:=qs;have Rx:=l5.trans l6;have Mc:=qd.mono Rx;clear ig DC ag ab Z aj;cbv;refine iJL (s:=0) Mc az ej jm (by decide) Gm qs (λh7 x1 u1 y1 x2 u2 y2 x3 u3 y3 x4 u4 y4 _ _ _ l7 ak _=>?_);have jd:=cD h7 x1 u1 y1 x2 u2 y2 x3 u3 y3 x4 u4 y4 T vC _ (Rx.trans l7) ak V;generalize iD d 0 st=D at *;obtain⟨D1,DR,De⟩:=D;clear cD Q hJ S af ak V;cbv;rw[dL];refine⟨_,(_,_),sH,by constructor<;>cbv,jd⟩
  rw[f1,mQu U];clear Q hJ S;cbv;rw[f2,mQv X];cbv;exact af
 rw[f1,mQv U];clear Q hJ S;cbv;exact af
theorem vR{xs:List wK}(q:zW kn h (.slice b n c) xs)
  (u:∀h' a p i e r j f s m g t o R l d,Le h h'->ik h' (.agg #[.slice a p i,.slice e r j,.slice f s m,.slice g t o]) d->AL 25 R l d->k (.agg #[.slice a p i,.slice e r j,.slice f s m,.slice g t o]) h'):
 Ct 7 [.slice b n c] h k:=eXt q (d0:=Cn) (be:=(dy eY 0).2) rfl AL.start u
theorem DW{X:List Row}{c d:Option Addr}{e o p:Nat}(q:Sl 84 aD h (.slice c e o) X)(f:Sl 84 aD h (.slice d n p) X)(s:k (.bool true) h):
 Ct 10 [.slice c e o,.slice d n p] h k:=by
 obtain⟨A,u⟩:=Ar.ex;have y:=q.len;have B:=f.len;have C:=q.bound.1;have K:n=e:=by omega
 subst K;have w:A .not true=false:=by rw[u.not];rfl
 have i:A .aI .neq (A .nat n) (A .nat n)=false:=by rw[aC A];simp
 obtain⟨I,Y⟩:∃I:Nat->Int->ad->Prop,∀m g h',I m g h'=∃j,aS g j/\m=n-j/\j<=n/\h'=h:=⟨_,λ_ _ _=>rfl⟩;have J:I n 0 h:=by rw[Y];exact⟨0,⟨rfl⟩,rfl,mQC _,rfl⟩
 refine mQF kQg A Tryz.func10 ?_;cbv;rw[i];cbv;refine aX.go (G:=Int) (λg=>[(5,.v (.int .i64 g))]) (λ_=>[]) (λm g h'=>I m g h') n 0 (by constructor<;>cbv) J ?_
 intro m z h' r;rw[Y]at r;cbv;obtain⟨j,b,F,E,rfl⟩:=r;have t:A .aI .lss z (A .nat n)=decide (j<n):=b.iJ (aS.nat n);rw[t];by_cases a:j<n
 .obtain⟨x,hx⟩:=mQA X j;have Q:c.isSome=true/\0<=z/\z<(n:Int):=⟨q.aT,b.ix a⟩;have v:d.isSome=true/\0<=z/\z<(n:Int):=⟨f.aT,b.ix a⟩;have N:=b.eq;have Z:=b.succ (A:=A);obtain⟨l,L⟩:∃l,A .bB .add .i64 z 1=l:=⟨_,rfl⟩;rw[L]at Z;have D:I (n-(j+1)) l h':=by rw[Y];exact⟨j+1,Z,rfl,a,rfl⟩
  have V:n-(j+1)<m:=by omega
  clear Y J s;rw[mQu a];cbv;refine⟨Q,?_⟩;cbv;refine bZ q hx N (λR O H s1=>?_);cbv;refine⟨v,?_⟩;cbv;refine bZ f hx N (λS P M s2=>?_);cbv;refine Hg s1 s2 ?_;cbv;rw[w];cbv;rw[L];refine⟨_,_,V,by constructor<;>cbv,D⟩
 rw[mQv a];clear Y J;cbv;exact s
theorem bQW(t:Nat)(X:List Row):aR ⟨aF t,X⟩=aR (dZ t):=rfl
theorem KZ(t:Nat)(X:List Row)(st:aJ):mR ⟨aF t,X⟩ st=mR (dZ t) st:=rfl
def aN(r:Row):Int:=(r.headD v0).n
def jn(a:Row)(bs:List Row):List Row:=(bs.filter λb=>decide (aN a<=aN b)).map (a++·)
end Go.S
