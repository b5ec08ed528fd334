import Derived.Test.YthnbpiejemlbeaaGreatBC
set_option linter.all false
set_option maxRecDepth 100000
set_option maxHeartbeats 4000000
namespace Go.S
open Go.Sx Go.Proofs
variable {A:Ar}{z:Int}{L:List Bs}{c:List Value}{e1 i j n:Nat}{g:Nat->Int}{fr:Nat×Nat}{b:Option Addr}{k:Value->ad->Prop}{s:W8}{h h0:ad}
theorem gA(s:ByteArray):(dZ s).length<=65537:=by unfold dZ gI fX;simp only[kXy,kZs,kXw,kJI];omega
theorem Lw(v:jq):(ju v).length<=65538:=by
 unfold ju;have:=gA v.s;have h:=ck v.n;rw[kZs];split
 .simp
 split
 .omega
 split
 .omega
 simp
theorem Oj{c:Nat}{r:Row}(q:Sl 45 bG h (.slice b n c) r)(hn:n<=2^16)(hs:∀x∈r,x.s.size<=2^40)
 (W:∀h' p n' c',Le h h'->bA 5 cD h h' (.slice p n' c') (gH r)->(gH r).length<=2^34->k (.slice p n' c') h'):Ct 133 [.slice b n c] h k:=by
 obtain⟨A,hA⟩:=Ar.ex;have C:=q.len;have Z:A .nat n=(r.length:Int):=by rw[hA.nat,C];rfl
 obtain⟨a,X⟩:∃a:Bs,a=[u8 (r.length:Int)]:=⟨_,rfl⟩;have ab:a.length=1:=by rw[X];rfl
 have hS:gH r=a++(r.map ju).flatten:=by rw[X];unfold gH;rw[List.flatMap_def];rfl
 rw[hS]at W;clear hS;have Gv:([]++[u8 (A .nat n)]:Bs)=a:=by rw[Z,X];rfl
 obtain⟨J,H⟩:∃J:Nat->((Option Addr×Nat×Nat)×Int)->ad->Prop,∀w g h',J w g h'=(∃i:Nat,bg g.2 i/\w=n-i/\i<=n/\Le h h'/\bA 5 cD h h' (.slice g.1.1 g.1.2.1 g.1.2.2) (a++((r.take i).map ju).flatten)/\(a++((r.take i).map ju).flatten).length<=2^17*(i+1)):=⟨_,λ_ _ _=>rfl⟩;refine kh eKH A Tryz.func133 ?_;cbv;refine pG (l:=[]) Sl.nil ip _ (λh1 b1 m1 c1 k1 Y=>?_);rw[Gv]at Y;have T:J n ((b1,m1,c1),0) h1:=by rw[H];refine⟨0,⟨rfl⟩,rfl,ip,k1,iu Y,by simp;omega⟩
 clear Gv Y Z;cbv;refine ba.gz (G:=(Option Addr×Nat×Nat)×Int) (λg=>[(3,.v (.slice g.1.1 g.1.2.1 g.1.2.2)),(11,.v (.zI g.2))]) (λ_=>[]) (λw g h'=>J w g h') n ((b1,m1,c1),0) T ?_
 intro w g N hI;rw[H]at hI;cbv;obtain⟨⟨gb,gm,gc⟩,z⟩:=g;obtain⟨i,s,hw,hi,O,t,hL⟩:=hI;have s:bg z i:=s;have t:bA 5 cD h N (.slice gb gm gc) (a++((r.take i).map ju).flatten):=t;have nQ:=t.sl.len;have f1:A .aQ .lss z (A .nat n)=decide (i<n):=by rw[aV A,s.eq,hA.nat];exact decide_eq_decide.2 (by show(i:Int)<(n:Int)↔_;omega)
 rw[f1];by_cases U:i<n
 .rw[kS U];obtain⟨x,hx⟩:=cK r i;have CK:=hs x (kQR hx);have R:=Lw x;have ix:=s.ix U;have iK:b.isSome=true:=q.bu;have P:n-(i+1)<w:=ip
  have m:∀p m' c' h',Le N h'->bA 5 cD N h' (.slice p m' c') ((a++((r.take i).map ju).flatten)++ju x)->J (n-(i+1)) ((p,m',c'),A .aX .add .i64 z 1) h':=λp m' c' h' l' q'=>by
   rw[H];have ha:(a++((r.take i).map ju).flatten)++ju x=a++((r.take (i+1)).map ju).flatten:=by rw[kJG,hx];simp
   refine⟨i+1,s.succ (A:=A),rfl,ip,O.trans l',?_,?_⟩
   .rw[<-ha];exact q'.base O
   rw[<-ha,kXy];omega
  have yL:(a++((r.take i).map ju).flatten).length<=2^34:=ip
  have u:A .aQ .eql x.k 1=decide (x.k=1):=au A ..;have v:A .aQ .eql x.k 2=decide (x.k=2):=au A ..;have y:A .aQ .eql x.k 3=decide (x.k=3):=au A ..;have V:ju x=u8 x.k::(if x.k=1 then [u8 x.n]else if x.k=2 then cP x.n else if x.k=3 then dZ x.s else []):=rfl;clear f1 hL H T R;generalize a++((r.take i).map ju).flatten=L at *;generalize ju x=vw at *;cbv;refine⟨⟨iK,ix⟩,?_⟩;cbv;refine(q.mono (O.t _)).load hx s.eq (λcs S=>?_);have S:cs=[.zI x.k,.zI x.n,.string x.s]:=S;subst S;generalize x.k=Q at *;generalize x.n=xn at *;generalize x.s=xs at *;cbv;refine pG t.sl ip Q (λh3 b3 m3 c3 o E=>?_);have OM:=E.sl.len;rw[kXy,kXm]at OM;cbv;rw[u];by_cases I:Q=1
  .rw[if_pos I]at V;rw[kS I];clear u v y;cbv;refine pG E.sl ip xn (λB d f e D F=>?_);have j:=m d f e B (o.trans D) (by rw[V];have:=F.base o;simpa using this);clear m;cbv;refine zqn _ ((d,f,e),A .aX .add .i64 z 1) P j
  rw[if_neg I]at V;rw[kQW I];cbv;rw[v];by_cases K:Q=2
  .rw[if_pos K]at V;rw[kS K];clear u v y;cbv;refine Oq E.sl ip xn (λB d f e D F=>?_);have j:=m d f e B (o.trans D) (by rw[V];have:=F.base o;simpa using this);clear m;cbv;refine zqn _ ((d,f,e),A .aX .add .i64 z 1) P j
  rw[if_neg K]at V;rw[kQW K];cbv;rw[y];by_cases M:Q=3
  .rw[if_pos M]at V;rw[kS M];clear u v y;cbv;refine BS (e1:=0) E.sl ip xs CK (λB d f e D F=>?_);have j:=m d f e B (o.trans D) (by rw[V];have:=F.base o;unfold dZ;simpa using this);clear m;cbv;refine zqn _ ((d,f,e),A .aX .add .i64 z 1) P j
  rw[if_neg M]at V;rw[kQW M];have j:=m b3 m3 c3 h3 o (by rw[V];exact E);clear u v y m;cbv;refine zqn _ ((b3,m3,c3),A .aX .add .i64 z 1) P j
 rw[kQW U];have hi:i=n:=ip
 rw[kXe ip]at t hL;have:=W N gb gm gc O t ip;clear W H T;cbv;exact this
set_option maxHeartbeats 8000000
theorem gQt{v:Int}{x:W}(c:lM z x)(h0:0<n)(f:n<32)(g:v=-(n:Int))(b:∀w,lM w (rr x n)->k (.zU w) h):
 Ct 391 [.zU z,.zI v] h k:=by
 obtain⟨A,a⟩:=Ar.ex;obtain⟨s1,P,e1⟩:∃s1,bg s1 (32-n)/\A .aX .and .u64 (A .conv .u64 v) 31=s1:=⟨_,⟨by
  rw[a.aX,a.conv,g];have:∀m:Nat,m<32->0<m->Sx.aX .and .u64 (IntKind.u64.wrap (-(m:Int))) 31=((32-m:Nat):Int):=dl
  grind⟩,rfl⟩
 obtain⟨s2,E,d⟩:∃s2,bg s2 n/\A .aX .sub .u64 32 s1=s2:=⟨_,⟨by
  rw[a.aX,P.eq];have:∀m:Nat,m<32->0<m->Sx.aX .sub .u64 32 ((32-m:Nat):Int)=(m:Int):=dl
  grind⟩,rfl⟩
 have s:0<=s1/\0<=s2:=by have:=P.eq;have:=E.eq;omega
 have r:=b _ (by
  have:=(c.shl (A:=A) P ip).or (A:=A) (c.shr (A:=A) E f);rw[BitVec.or_comm]at this;have e:32-n=32-n:=rfl;exact this)
 clear b;refine kh eQG A Tryz.func391 ?_;cbv;rw[e1];refine⟨s.1,?_⟩;cbv;rw[d];refine⟨s.2,?_⟩;cbv;exact r
theorem sE{m:Int}{x:W}(f:lM z x)(h0:0<n)(d:n<32)(c:m=(n:Int))(b:∀w,lM w (rr x n)->k (.zU w) h):
 Ct 383 [.zU z,.zI m] h k:=by
 obtain⟨A,a⟩:=Ar.ex;have v:A .aX .sub .i64 0 m=-(n:Int):=by rw[a.aX,c];show IntKind.i64.wrap (0-(n:Int))=_;rw[IntWalk.i64_in _ ip];omega
 refine kh eQH A Tryz.func383 ?_;cbv;refine gQt f h0 d v (λw e=>?_);have:=b w e;cbv;exact this
def wl(g:Nat->Int):List Value:=[.zU (g 0),.zU (g 1),.zU (g 2),.zU (g 3),.zU (g 4),.zU (g 5),.zU (g 6),.zU (g 7),.zU (g 8),.zU (g 9),.zU (g 10),.zU (g 11),.zU (g 12),.zU (g 13),.zU (g 14),.zU (g 15),.zU (g 16),.zU (g 17),.zU (g 18),.zU (g 19),.zU (g 20),.zU (g 21),.zU (g 22),.zU (g 23),.zU (g 24),.zU (g 25),.zU (g 26),.zU (g 27),.zU (g 28),.zU (g 29),.zU (g 30),.zU (g 31),.zU (g 32),.zU (g 33),.zU (g 34),.zU (g 35),.zU (g 36),.zU (g 37),.zU (g 38),.zU (g 39),.zU (g 40),.zU (g 41),.zU (g 42),.zU (g 43),.zU (g 44),.zU (g 45),.zU (g 46),.zU (g 47),.zU (g 48),.zU (g 49),.zU (g 50),.zU (g 51),.zU (g 52),.zU (g 53),.zU (g 54),.zU (g 55),.zU (g 56),.zU (g 57),.zU (g 58),.zU (g 59),.zU (g 60),.zU (g 61),.zU (g 62),.zU (g 63)]
theorem EZ(g:Nat->Int):wl g=(List.range 64).map λi=>Value.zU (g i):=rfl
theorem WX(g:Nat->Int)(h:i<64):(wl g)[i]? =some (.zU (g i)):=by
 grind [EZ]
theorem dQZ{xs:List W}(r:Go.Sx.Rows qf h c 0 xs)(e:c.length=64)(hx:xs.length=64):∃g,c=wl g/\∀i x,xs[i]? =some x->lM (g i) x:=by
 refine⟨λi=>match c[i]? with|some (.int _ z)=>z|_=>0,?_,λi x Q=>?_⟩
 .rw[EZ];apply kZq;intro i;rw[kZf];by_cases d:i<64
  .rw[List.getElem?_range d];obtain⟨x,b⟩:=cK xs i;obtain⟨z,a,w⟩:=r.at b;have U:=congrArg (λl=>l[0]?) a;simp only[kZo,kXz]at U;have n:qf.n=1:=rfl
   grind
  grind
 obtain⟨z,a,w⟩:=r.at Q;have U:=congrArg (λl=>l[0]?) a;simp only[kZo,kXz]at U;have n:qf.n=1:=rfl
 grind
theorem pe[a:bM A]{T:Nat}{k:List Value->Prop}(q:h n=some (.cells (wl g).toArray T fr))(c:bg z i)(d:i<64)(b:k [.zU (g i)]):
 Ai h (A .jt (zsA n) z 1) 1 k:=by
 have e:A .jt (zsA n) z 1=⟨n,i,none⟩:=by rw[a.jt,c.eq];simp[jt,cQ]
 rw[e];refine⟨_,⟨rfl,rfl,_,_,_,q,λj f=>?_⟩,b⟩
 grind [WX]
theorem fY[a:bM A]{T:Nat}{v:Value}{k:List Value->Prop}(d:z=(i:Int))(q:h n=some (.cells (List.toArray c) T fr))(hx:c[i]? =some v)(b:k [v]):
 Ai h (A .jt (zsA n) z 1) 1 k:=by
 have e:A .jt (zsA n) z 1=⟨n,i,none⟩:=by rw[a.jt,d];simp[jt,cQ]
 rw[e];refine⟨_,⟨rfl,rfl,_,_,_,q,λj f=>?_⟩,b⟩
 grind
theorem dZF(a:∀g:Nat->Int,(∀i,i<64->lM (g i) (HD.getD i 0))->k (.agg (wl g).toArray) h):Ct 382 [] h k:=by
 have r:=a (λi=>((HD.getD i 0).toNat:Int)) (λi c=>⟨rfl⟩);clear a;have e:wl (λi=>((HD.getD i 0).toNat:Int))=[.zU 1116352408,.zU 1899447441,.zU 3049323471,.zU 3921009573,.zU 961987163,.zU 1508970993,.zU 2453635748,.zU 2870763221,.zU 3624381080,.zU 310598401,.zU 607225278,.zU 1426881987,.zU 1925078388,.zU 2162078206,.zU 2614888103,.zU 3248222580,.zU 3835390401,.zU 4022224774,.zU 264347078,.zU 604807628,.zU 770255983,.zU 1249150122,.zU 1555081692,.zU 1996064986,.zU 2554220882,.zU 2821834349,.zU 2952996808,.zU 3210313671,.zU 3336571891,.zU 3584528711,.zU 113926993,.zU 338241895,.zU 666307205,.zU 773529912,.zU 1294757372,.zU 1396182291,.zU 1695183700,.zU 1986661051,.zU 2177026350,.zU 2456956037,.zU 2730485921,.zU 2820302411,.zU 3259730800,.zU 3345764771,.zU 3516065817,.zU 3600352804,.zU 4094571909,.zU 275423344,.zU 430227734,.zU 506948616,.zU 659060556,.zU 883997877,.zU 958139571,.zU 1322822218,.zU 1537002063,.zU 1747873779,.zU 1955562222,.zU 2024104815,.zU 2227730452,.zU 2361852424,.zU 2428436474,.zU 2756734187,.zU 3204031479,.zU 3329325298]:=by kernel_rfl
 rw[e]at r;clear e;refine cB eQI Tryz.func382 λA b=>?_;cbv;exact r
def Fa(a b c d e f g h:Int):List Value:=[.zU a,.zU b,.zU c,.zU d,.zU e,.zU f,.zU g,.zU h]
structure WL(a b c d e f g h:Int)(s:W8):Prop where
 a:lM a s.a
 b:lM b s.b
 c:lM c s.c
 d:lM d s.d
 e:lM e s.e
 f:lM f s.f
 g:lM g s.g
 h:lM h s.h
theorem cJI(j:∀a b c d e f g i,WL a b c d e f g i mE->k (.agg (Fa a b c d e f g i).toArray) h):Ct 368 [] h k:=by have r:=j _ _ _ _ _ _ _ _ ⟨⟨rfl⟩,⟨rfl⟩,⟨rfl⟩,⟨rfl⟩,⟨rfl⟩,⟨rfl⟩,⟨rfl⟩,⟨rfl⟩⟩;clear j;refine cB eQN Tryz.func368 λA l=>?_;cbv;exact r
def TK(l:Bs)(i:Nat):List W:=(List.range i).map (wF l)++List.replicate (64-i) 0
theorem Jx(l:Bs)(h:i<=64):(TK l i).length=64:=by unfold TK;simp;omega
theorem Ax(l:Bs)(h:j<i):(TK l i)[j]? =some (wF l j):=by
 grind [TK]
theorem Re(l:Bs)(h:i<64):(TK l i).set i (wF l i)=TK l (i+1):=by
 unfold TK;rw[kXr _ _ io,kZl,kZN,kKd,List.range_succ,kXQ,kJk];congr 1;obtain⟨m,a⟩:∃m,64-i=m+1:=⟨63-i,ip⟩
 grind
theorem IE{T:Nat}{f:Nat->W}(q:h n=zcL T (wl g))(b:∀i,i<64->lM (g i) (f i)):dt T qf h n 64 ((List.range 64).map f):=by
 refine⟨⟨wl g,q,⟨?_,λi x hx=>?_⟩,rfl⟩,io,io⟩
 .simp[EZ,qf]
 have a:i<64:=gg
 rw[kZf,List.getElem?_range a]at hx;cases hx;refine⟨g i,?_,b i a⟩;have w:=WX g a;show((wl g).drop (0+i*1)).take 1=_;rw[kJe,vi];apply kZq;intro j;rw[kZo,kXz]
 grind
theorem Ic{T:Nat}{xs:List W}(o:dt T qf h n 64 xs)(hx:xs.length=64):∃g,h n=zcL T (wl g)/\∀i x,xs[i]? =some x->lM (g i) x:=by
 obtain⟨c,a,b,d⟩:=o.out
 grind [dQZ,qf,hx]
theorem aZS{c:Nat}{l:Bs}(q:Sl e1 cD h (.slice b n c) l)(hn:l.length=64)(hk:∀h' (g:Nat->Int),Le h h'->(∀i,i<64->lM (g i) (wF l i))->k (.agg (wl g).toArray) h'):
 Ct 381 [.slice b n c] h k:=by
 have aw:=q.len;have E:b.isSome=true:=q.bu;refine cB eQJ Tryz.func381 λA hA=>?_;cbv;intro p h1 U e1;have l1:Le h h1:=zqs e1 U
 have o1:dt 355 qf h1 p 64 (TK l 0):=IE (g:=λ_=>0) (f:=λ_=>0) (zqt e1) (λ_ _=>⟨rfl⟩);obtain⟨J,H⟩:∃J:Nat->Nat->Int->ad->Prop,∀m w g h',J m w g h'=(∃i:Nat,bg g i/\w=m-i/\i<=m/\(m=64->16<=i)/\Le h h'/\dt 355 qf h' p 64 (TK l i)):=⟨_,λ_ _ _ _=>rfl⟩;have dP:J 16 16 0 h1:=by rw[H];exact⟨0,⟨rfl⟩,rfl,ip,ip,l1,o1⟩
 clear e1 o1;cbv;refine ba.gz (G:=Int) (λg=>[(8,.v (.zI g))]) (λ_=>[(2,List.replicate 64 (.zU 0))]) (λw g h'=>J 16 w g h') 16 0 dP ?_
 intro w z h2 I;rw[H]at I;cbv;obtain⟨i,d,hw,hi,-,l2,o2⟩:=I;have r:A .aQ .lss z 16=decide (i<16):=by rw[aV A,d.eq];grind
 rw[r];by_cases v:i<16
 .rw[kS v];have M:=q.mono (l2.t _);obtain⟨x0,vN⟩:=cK l (4*i);obtain⟨x1,Q⟩:=cK l (4*i+1);obtain⟨x2,Zo⟩:=cK l (4*i+2);obtain⟨x3,Wq⟩:=cK l (4*i+3);have C:bg (A .aX .mul .i64 4 z) (4*i):=⟨by
   rw[hA.aX,d.eq];show IntKind.i64.wrap (4*(i:Int))=_;rw[IntWalk.i64_in _ ip];omega⟩
  have m1:=C.succ (A:=A);have m2:=C.add (A:=A) (w:=2) (j:=2) ⟨rfl⟩ ip;have m3:=C.add (A:=A) (w:=3) (j:=3) ⟨rfl⟩ ip;have c0:0<=A .aX .mul .i64 4 z/\A .aX .mul .i64 4 z<(n:Int):=C.ix ip;have c1:=m1.ix (len:=n) ip;have R:=m2.ix (len:=n) ip;have c3:=m3.ix (len:=n) ip;have T:=d.ix (len:=64) ip;have N:wF l i=BitVec.ofNat 32 x0.toNat <<< 24|||BitVec.ofNat 32 x1.toNat <<< 16|||BitVec.ofNat 32 x2.toNat <<< 8|||BitVec.ofNat 32 x3.toNat:=by
   grind [wF,WW,bw]
  have D:∀h',Le h h'->dt 355 qf h' p 64 ((TK l i).set i (wF l i))->J 16 (16-(i+1)) (A .aX .add .i64 z 1) h':=λh' l' o'=>by
   rw[H];rw[Re l ip]at o';exact⟨i+1,d.succ (A:=A),rfl,ip,ip,l',o'⟩
  have P:16-(i+1)<w:=ip
  have jV:i<(TK l i).length:=by rw[Jx l ip];omega
  obtain⟨y0,W⟩:∃y:Int,y=(x0.toNat:Int):=⟨_,rfl⟩;obtain⟨y1,Z⟩:∃y:Int,y=(x1.toNat:Int):=⟨_,rfl⟩;obtain⟨y2,sy⟩:∃y:Int,y=(x2.toNat:Int):=⟨_,rfl⟩;obtain⟨y3,UH⟩:∃y:Int,y=(x3.toNat:Int):=⟨_,rfl⟩;have hR:lM (A .aX .or .u32 (A .aX .or .u32 (A .aX .or .u32 (A .aX .shl .u32 (A .conv .u32 y0) 24) (A .aX .shl .u32 (A .conv .u32 y1) 16)) (A .aX .shl .u32 (A .conv .u32 y2) 8)) (A .conv .u32 y3)) (wF l i):=by rw[N];exact((((lM.bZo (A:=A) W).shl (A:=A) (n:=24) (i:=24) ⟨rfl⟩ dl).or (A:=A) ((lM.bZo (A:=A) Z).shl (A:=A) (n:=16) (i:=16) ⟨rfl⟩ dl)).or (A:=A) ((lM.bZo (A:=A) sy).shl (A:=A) (n:=8) (i:=8) ⟨rfl⟩ dl)).or (A:=A) (lM.bZo (A:=A) UH)
  clear r H N;cbv;refine⟨⟨E,c0⟩,?_⟩;cbv;refine M.load vN C.eq (λcs a=>?_);have a:cs=[.int .u8 y0]:=by rw[W];exact a
  subst a;cbv;refine⟨dl,?_⟩;cbv;refine⟨⟨E,c1⟩,?_⟩;cbv;refine M.load Q m1.eq (λcs a=>?_);have a:cs=[.int .u8 y1]:=by rw[Z];exact a
  subst a;cbv;refine⟨dl,?_⟩;cbv;refine⟨⟨E,R⟩,?_⟩;cbv;refine M.load Zo m2.eq (λcs a=>?_);have a:cs=[.int .u8 y2]:=by rw[sy];exact a
  subst a;cbv;refine⟨dl,?_⟩;cbv;refine⟨⟨E,c3⟩,?_⟩;cbv;refine M.load Wq m3.eq (λcs a=>?_);have a:cs=[.int .u8 y3]:=by rw[UH];exact a
  subst a;cbv;refine⟨T,?_⟩;cbv;refine o2.setAt (s:=qf) (by simp[qf]) jV d.eq rfl (x:=wF l i) ⟨_,rfl,hR⟩ (λh3 k3 _ F=>?_);have L:=D h3 (l2.bf (bs:=[p]) (iu U) k3) F;clear D;cbv;refine zqn (16-(i+1)) (A .aX .add .i64 z 1) P L
 have ag:i=16:=ip
 subst ag;have D:J 64 48 16 h2:=by rw[H];exact⟨16,⟨rfl⟩,rfl,ip,λ_=>ip,l2,o2⟩
 rw[kQW v];clear r o2;cbv;refine ba.gz (G:=Int) (λg=>[(5,.v (.zI g))]) (λ_=>[(2,List.replicate 64 (.zU 0))]) (λw g h'=>J 64 w g h') 48 16 D ?_
 intro w z h3 I;rw[H]at I;cbv;obtain⟨i,d,hw,hi,K,l3,F⟩:=I;have K:=K rfl;have r:A .aQ .lss z 64=decide (i<64):=by rw[aV A,d.eq];grind
 obtain⟨g,o,O⟩:=Ic F (Jx l hi);rw[r];by_cases v:i<64
 .rw[kS v];have B:=d.sub (A:=A) (w:=15) (j:=15) ⟨rfl⟩ ip ip;have i2:=d.sub (A:=A) (w:=2) (j:=2) ⟨rfl⟩ ip ip;have e:=d.sub (A:=A) (w:=16) (j:=16) ⟨rfl⟩ ip ip;have t:=d.sub (A:=A) (w:=7) (j:=7) ⟨rfl⟩ ip ip;have V:=O _ _ (Ax l (i:=i) (j:=i-15) ip);have g2:=O _ _ (Ax l (i:=i) (j:=i-2) ip);have ak:=O _ _ (Ax l (i:=i) (j:=i-16) ip);have g7:=O _ _ (Ax l (i:=i) (j:=i-7) ip);have an:=B.ix (len:=64) ip;have R:=i2.ix (len:=64) ip;have al:=e.ix (len:=64) ip;have c7:=t.ix (len:=64) ip;have T:=d.ix (len:=64) ip;have N:wF l i=wF l (i-16)+gQp (wF l (i-15))+wF l (i-7)+gQo (wF l (i-2)):=by
   grind [wF]
  have L:∀h',Le h h'->dt 355 qf h' p 64 ((TK l i).set i (wF l i))->J 64 (64-(i+1)) (A .aX .add .i64 z 1) h':=λh' l' o'=>by
   rw[H];rw[Re l ip]at o';exact⟨i+1,d.succ (A:=A),rfl,ip,ip,l',o'⟩
  have P:64-(i+1)<w:=ip
  have jV:i<(TK l i).length:=by rw[Jx l ip];omega
  have ao:i-15<64:=ip
  have b2:i-2<64:=ip
  have X:i-16<64:=ip
  have u:i-7<64:=ip
  clear r H O;cbv;refine⟨an,?_⟩;cbv;refine pe o B ao ?_;cbv;refine⟨R,?_⟩;cbv;refine pe o i2 b2 ?_;cbv;refine⟨al,?_⟩;cbv;refine pe o e X ?_;cbv;refine⟨dl,?_⟩;cbv;refine⟨c7,?_⟩;cbv;refine pe o t u ?_;cbv;refine⟨dl,?_⟩;cbv;refine sE V (n:=7) dl dl rfl (λw1 OH=>?_);cbv;repeat (first|(refine pe o t u ?_;cbv)|(refine pe o e X ?_;cbv)|(refine zqr ?_;cbv))
  refine sE V (n:=18) dl dl rfl (λw2 IM=>?_);cbv;repeat (first|(refine pe o t u ?_;cbv)|(refine pe o e X ?_;cbv)|(refine zqr ?_;cbv))
  refine sE g2 (n:=17) dl dl rfl (λw3 Y=>?_);cbv;repeat (first|(refine pe o t u ?_;cbv)|(refine pe o e X ?_;cbv)|(refine zqr ?_;cbv))
  refine sE g2 (n:=19) dl dl rfl (λw4 ab=>?_);cbv;repeat (first|(refine pe o t u ?_;cbv)|(refine pe o e X ?_;cbv)|(refine zqr ?_;cbv))
  refine⟨T,?_⟩;cbv;have hR:=(((ak.add (A:=A) ((OH.xor (A:=A) IM).xor (A:=A) (V.shr (A:=A) (n:=3) (i:=3) ⟨rfl⟩ dl))).add (A:=A) g7).add (A:=A) ((Y.xor (A:=A) ab).xor (A:=A) (g2.shr (A:=A) (n:=10) (i:=10) ⟨rfl⟩ dl)));refine F.setAt (s:=qf) (by simp[qf]) jV d.eq rfl (x:=wF l i) ⟨_,rfl,by rw[N];exact hR⟩ (λh4 k4 _ o4=>?_);have aq:=L h4 (l3.bf (bs:=[p]) (iu U) k4) o4;clear L;cbv;refine zqn (64-(i+1)) (A .aX .add .i64 z 1) P aq
 have S:i=64:=ip
 subst S;have:=hk h3 g l3 (λj hj=>O j _ (Ax l hj));rw[kQW v];clear hk O;cbv;refine cy o ?_;cbv;exact this
def BP(t s:W8)(i:Nat):List W:=(List.range 8).map λj=>if j<i then t.l.getD j 0+s.l.getD j 0 else t.l.getD j 0
theorem aXs(t s:W8):BP t s 8=(t.add s).l:=rfl
theorem Oc(t s:W8)(h:i<8):(BP t s i).set i (t.l.getD i 0+s.l.getD i 0)=BP t s (i+1):=by
 have:i=0\/i=1\/i=2\/i=3\/i=4\/i=5\/i=6\/i=7:=ip
 rcases this with rfl|rfl|rfl|rfl|rfl|rfl|rfl|rfl<;>rfl
theorem Od(t s:W8)(h:i<8):(BP t s i)[i]? =some (t.l.getD i 0):=by
 grind [BP]
theorem Fb{T:Nat}{a b c d e f g i:Int}(q:h n=zcL T (Fa a b c d e f g i))(k:WL a b c d e f g i s):dt T qf h n 8 s.l:=by
 refine⟨⟨_,q,⟨qA _,λj x hx=>?_⟩,rfl⟩,qA _,by simp[W8.l]⟩;have l:j<8:=(HH.1 hx).1;have:j=0\/j=1\/j=2\/j=3\/j=4\/j=5\/j=6\/j=7:=ip
 rcases this with rfl|rfl|rfl|rfl|rfl|rfl|rfl|rfl<;>cases hx
 .exact⟨_,rfl,k.a⟩
 .exact⟨_,rfl,k.b⟩
 .exact⟨_,rfl,k.c⟩
 .exact⟨_,rfl,k.d⟩
 .exact⟨_,rfl,k.e⟩
 .exact⟨_,rfl,k.f⟩
 .exact⟨_,rfl,k.g⟩
 exact⟨_,rfl,k.h⟩
theorem WZ{T:Nat}(o:dt T qf h n 8 s.l):∃a b c d e f g i,h n=zcL T (Fa a b c d e f g i)/\WL a b c d e f g i s:=by
 obtain⟨cs,m,p,k⟩:=o.out;have k:cs.length=8:=k;have key:∀j x,s.l[j]? =some x->∃z,cs[j]? =some (Value.zU z)/\lM z x:=λj x hx=>by
  obtain⟨z,C,B⟩:=p.at hx;have U:=congrArg (λl=>l[0]?) C;simp only[kZo,kXz]at U;have A:qf.n=1:=rfl;rw[A]at U;exact⟨z,iu U,B⟩
 obtain⟨a,q,wa⟩:=key 0 _ rfl;obtain⟨b,r,wb⟩:=key 1 _ rfl;obtain⟨c,t,wc⟩:=key 2 _ rfl;obtain⟨d,hd,D⟩:=key 3 _ rfl;obtain⟨e,u,E⟩:=key 4 _ rfl;obtain⟨f,v,F⟩:=key 5 _ rfl;obtain⟨g,w,G⟩:=key 6 _ rfl;obtain⟨i,y,H⟩:=key 7 _ rfl;refine⟨a,b,c,d,e,f,g,i,?_,⟨wa,wb,wc,D,E,F,G,H⟩⟩;rw[m];have:cs=Fa a b c d e f g i:=by
  apply kZq;intro j;by_cases I:j<8
  .have:j=0\/j=1\/j=2\/j=3\/j=4\/j=5\/j=6\/j=7:=ip
   rcases this with rfl|rfl|rfl|rfl|rfl|rfl|rfl|rfl<;>(first|rw[q] |rw[r] |rw[t] |rw[hd] |rw[u] |rw[v] |rw[w] |rw[y])<;>rfl
  rw[kZM ip,kZM (by show 8<=j;omega)]
 rw[this]
theorem JM(z:Value)(g:Nat->Int):iv (List.replicate 64 z) 0 (wl g)=wl g:=by kernel_rfl
theorem nt{m:Nat}{o:Obj}(a:h m=some o)(b:h n=none):m≠n:=λe=>gg
theorem hXs{P a1 a2 Q R S T U:Int}(hs:WL P a1 a2 Q R S T U s){c:Nat}{l:Bs}(q:Sl e1 cD h (.slice b n c) l)(hn:l.length=64)
 (hk:∀h' B C D V E F H W,Le h h'->WL B C D V E F H W (HW s l)->k (.agg (Fa B C D V E F H W).toArray) h'):
 Ct 370 [.agg (Fa P a1 a2 Q R S T U).toArray,.slice b n c] h k:=by
 refine cB eQL Tryz.func370 λA hA=>?_;cbv;intro K h1 fA e2;have l1:Le h h1:=zqs e2 fA
 have m:h1 K=zcL 509 (Fa P a1 a2 Q R S T U):=zqt e2;clear e2;cbv;refine aZS (q.mono (l1.t _)) hn (λh2 g X hg=>?_);have m:=X _ _ m;have X:=l1.trans X;cbv;refine dZF (λkg aD=>?_);cbv;intro u h3 Na M;have PF:Le h2 h3:=M ▸ Le.set Na;have l3:=X.trans PF;have az:=m;have ao:=PF _ _ m;have m:=ao;have e:h3 u=zcL 355 (List.replicate 64 (.zU 0)):=zqt M;have aL:=e;clear M;cbv;intro v h4 MZ N;have zg:Le h3 h4:=N ▸ Le.set MZ;have o:h4 v=zcL 355 (List.replicate 64 (.zU 0)):=zqt N;have aB:K≠u:=nt az Na;clear N;have m:=zg _ _ m;have e:=zg _ _ e;have aC:K≠v:=nt ao MZ;have ag:u≠v:=nt aL MZ;have z5:=X.none Na;have z6:=l3.none MZ;have l4:=l3.trans zg;cbv;refine jE e (qA _) (λh5 M=>?_);have k5:Kp [u] h4 h5:=by rw[M];exact Kp.set io
 have e:h5 u=zcL 355 (wl g):=by rw[M,ae];exact congrArg (λc=>some (Obj.cells (List.toArray c) 355 (0,0))) (JM _ g)
 have m:=k5 _ _ m (iu aB);have o:=k5 _ _ o (by simpa using Ne.symm ag);have l5:=l4.bf (bs:=[u]) (iu z5) k5;clear M k5;cbv;refine jE o (qA _) (λh6 N=>?_);have k6:Kp [v] h5 h6:=by rw[N];exact Kp.set io
 have o:h6 v=zcL 355 (wl kg):=by rw[N,ae];exact congrArg (λc=>some (Obj.cells (List.toArray c) 355 (0,0))) (JM _ kg)
 have m:=k6 _ _ m (iu aC);have e:=k6 _ _ e (iu ag);have l6:=l5.bf (bs:=[v]) (iu z6) k6;clear N k6;cbv;refine cy m ?_;cbv;intro p h7 Z e7;have HC:Le h6 h7:=e7 ▸ Le.set Z;have a:h7 p=zcL 509 (List.replicate 8 (.zU 0)):=zqt e7;have L:K≠p:=nt m Z;have ak:u≠p:=nt e Z;have al:v≠p:=nt o Z;have z7:=l6.none Z;have l7:=l6.trans HC;have m:=HC _ _ m;have e:=HC _ _ e;have o:=HC _ _ o;clear e7 HC;cbv;refine jE a (qA _) (λd e8=>?_);have k8:Kp [p] h7 d:=by rw[e8];exact Kp.set io
 have a:d p=zcL 509 (Fa P a1 a2 Q R S T U):=by rw[e8,ae];rfl
 have m:=k8 _ _ m (iu L);have e:=k8 _ _ e (iu ak);have o:=k8 _ _ o (iu al);have l8:=l7.bf (bs:=[p]) (iu z7) k8;clear e8 k8;obtain⟨J,bH⟩:∃J:Nat->Int->ad->Prop,∀w z h',J w z h'=(∃i B C D V E F H W,bg z i/\w=64-i/\i<=64/\Le h h'/\h' K=zcL 509 (Fa P a1 a2 Q R S T U)/\h' u=zcL 355 (wl g)/\h' v=zcL 355 (wl kg)/\
  h' p=zcL 509 (Fa B C D V E F H W)/\WL B C D V E F H W (yY l s i)):=⟨_,λ_ _ _=>rfl⟩
 have dP:J 64 0 d:=by rw[bH];exact⟨0,_,_,_,_,_,_,_,_,⟨rfl⟩,rfl,ip,l8,m,e,o,a,hs⟩
 clear m e o a l8 l7 l6 l5 l4 l3 X zg;cbv;refine ba.gz (G:=Int) (λz=>[(18,.v (.zI z))]) (λ_=>[(4,List.replicate 8 (.zU 0))]) (λw z h'=>J w z h') 64 0 dP ?_
 intro w z h9 hI;rw[bH]at hI;cbv;obtain⟨i,B,C,D,V,E,F,H,W,j,hw,hi,l9,m,e,o,a,d⟩:=hI;have O:A .aQ .lss z 64=decide (i<64):=by rw[aV A,j.eq];grind
 rw[O];by_cases f:i<64
 .rw[kS f];have r:=j.ix (len:=64) ip;have gk:=aD i f;have gw:=hg i f;have cm:∀h' x y,Le h h'->h' K=zcL 509 (Fa P a1 a2 Q R S T U)->h' u=zcL 355 (wl g)->h' v=zcL 355 (wl kg)->
   h' p=zcL 509 (Fa x B C D y E F H)->WL x B C D y E F H (bKG (yY l s i) (HD.getD i 0) (wF l i))->J (64-(i+1)) (A .aX .add .i64 z 1) h':=λh' x y l' q2 q5 q6 Y q8=>by
   rw[bH];exact⟨i+1,_,_,_,_,_,_,_,_,j.succ (A:=A),rfl,ip,l',q2,q5,q6,Y,q8⟩
  have aZ:64-(i+1)<w:=ip
  clear bH dP O;generalize yY l s i=t at *;cbv;repeat ((first|refine fY (i:=4) rfl a rfl ?_|refine fY (i:=0) rfl a rfl ?_|refine fY (i:=7) rfl a rfl ?_|refine fY (i:=5) rfl a rfl ?_|refine fY (i:=6) rfl a rfl ?_|refine fY (i:=1) rfl a rfl ?_|refine fY (i:=2) rfl a rfl ?_|refine fY (i:=3) rfl a rfl ?_|refine pe o j f ?_|refine pe e j f ?_|refine⟨dl,?_⟩ |refine⟨r,?_⟩ |refine zqr ?_);cbv)
  refine sE d.e (n:=6) dl dl rfl (λw6 aq=>?_);cbv;repeat ((first|refine fY (i:=4) rfl a rfl ?_|refine fY (i:=0) rfl a rfl ?_|refine fY (i:=7) rfl a rfl ?_|refine fY (i:=5) rfl a rfl ?_|refine fY (i:=6) rfl a rfl ?_|refine fY (i:=1) rfl a rfl ?_|refine fY (i:=2) rfl a rfl ?_|refine fY (i:=3) rfl a rfl ?_|refine pe o j f ?_|refine pe e j f ?_|refine⟨dl,?_⟩ |refine⟨r,?_⟩ |refine zqr ?_);cbv)
  refine sE d.e (n:=11) dl dl rfl (λaM ax=>?_);cbv;repeat ((first|refine fY (i:=4) rfl a rfl ?_|refine fY (i:=0) rfl a rfl ?_|refine fY (i:=7) rfl a rfl ?_|refine fY (i:=5) rfl a rfl ?_|refine fY (i:=6) rfl a rfl ?_|refine fY (i:=1) rfl a rfl ?_|refine fY (i:=2) rfl a rfl ?_|refine fY (i:=3) rfl a rfl ?_|refine pe o j f ?_|refine pe e j f ?_|refine⟨dl,?_⟩ |refine⟨r,?_⟩ |refine zqr ?_);cbv)
  refine sE d.e (n:=25) dl dl rfl (λaN aw=>?_);cbv;repeat ((first|refine fY (i:=4) rfl a rfl ?_|refine fY (i:=0) rfl a rfl ?_|refine fY (i:=7) rfl a rfl ?_|refine fY (i:=5) rfl a rfl ?_|refine fY (i:=6) rfl a rfl ?_|refine fY (i:=1) rfl a rfl ?_|refine fY (i:=2) rfl a rfl ?_|refine fY (i:=3) rfl a rfl ?_|refine pe o j f ?_|refine pe e j f ?_|refine⟨dl,?_⟩ |refine⟨r,?_⟩ |refine zqr ?_);cbv)
  refine sE d.a (n:=2) dl dl rfl (λw2 IM=>?_);cbv;repeat ((first|refine fY (i:=4) rfl a rfl ?_|refine fY (i:=0) rfl a rfl ?_|refine fY (i:=7) rfl a rfl ?_|refine fY (i:=5) rfl a rfl ?_|refine fY (i:=6) rfl a rfl ?_|refine fY (i:=1) rfl a rfl ?_|refine fY (i:=2) rfl a rfl ?_|refine fY (i:=3) rfl a rfl ?_|refine pe o j f ?_|refine pe e j f ?_|refine⟨dl,?_⟩ |refine⟨r,?_⟩ |refine zqr ?_);cbv)
  refine sE d.a (n:=13) dl dl rfl (λaW aG=>?_);cbv;repeat ((first|refine fY (i:=4) rfl a rfl ?_|refine fY (i:=0) rfl a rfl ?_|refine fY (i:=7) rfl a rfl ?_|refine fY (i:=5) rfl a rfl ?_|refine fY (i:=6) rfl a rfl ?_|refine fY (i:=1) rfl a rfl ?_|refine fY (i:=2) rfl a rfl ?_|refine fY (i:=3) rfl a rfl ?_|refine pe o j f ?_|refine pe e j f ?_|refine⟨dl,?_⟩ |refine⟨r,?_⟩ |refine zqr ?_);cbv)
  refine sE d.a (n:=22) dl dl rfl (λaO aF=>?_);cbv;repeat ((first|refine fY (i:=4) rfl a rfl ?_|refine fY (i:=0) rfl a rfl ?_|refine fY (i:=7) rfl a rfl ?_|refine fY (i:=5) rfl a rfl ?_|refine fY (i:=6) rfl a rfl ?_|refine fY (i:=1) rfl a rfl ?_|refine fY (i:=2) rfl a rfl ?_|refine fY (i:=3) rfl a rfl ?_|refine pe o j f ?_|refine pe e j f ?_|refine⟨dl,?_⟩ |refine⟨r,?_⟩ |refine zqr ?_);cbv)
  have hX:=((((d.h.add (A:=A) ((aq.xor (A:=A) ax).xor (A:=A) aw)).add (A:=A) ((d.e.and (A:=A) d.f).xor (A:=A) ((d.e.not (A:=A)).and (A:=A) d.g))).add (A:=A) gk).add (A:=A) gw);have hY:=((IM.xor (A:=A) aG).xor (A:=A) aF).add (A:=A) (((d.a.and (A:=A) d.b).xor (A:=A) (d.a.and (A:=A) d.c)).xor (A:=A) (d.b.and (A:=A) d.c));refine jE a (qA _) (λiE rE=>?_);have Be:Kp [p] h9 iE:=by rw[rE];exact Kp.set io
  have Y:iE p=zcL 509 (Fa _ B C D _ E F H):=zqt rE;have iL:=cm iE _ _ (l9.bf (bs:=[p]) (iu z7) Be) (Be _ _ m (iu L)) (Be _ _ e (iu ak)) (Be _ _ o (iu al)) Y ⟨hX.add (A:=A) hY,d.a,d.b,d.c,d.d.add (A:=A) hX,d.e,d.f,d.g⟩;clear cm rE;cbv;refine zqn (64-(i+1)) (A .aX .add .i64 z 1) aZ iL
 have aA:i=64:=ip
 subst aA;generalize ht:yY l s 64=t at *;have an:HW s l=t.add s:=by unfold HW;rw[ht]
 rw[an]at hk;clear an ht;rw[kQW f];obtain⟨I,gX⟩:∃I:Nat->Int->ad->Prop,∀w z h',I w z h'=(∃i,bg z i/\w=8-i/\i<=8/\Le h h'/\dt 509 qf h' K 8 s.l/\dt 509 qf h' p 8 (BP t s i)):=⟨_,λ_ _ _=>rfl⟩;have kM:I 8 0 h9:=by rw[gX];exact⟨0,⟨rfl⟩,rfl,ip,l9,Fb m hs,Fb a d⟩
 clear m e o a bH dP O;cbv;refine ba.gz (G:=Int) (λz=>[(100,.v (.zI z))]) (λ_=>[(4,List.replicate 8 (.zU 0))]) (λw z h'=>I w z h') 8 0 kM ?_
 intro w z iE hI;rw[gX]at hI;cbv;obtain⟨i,j,hw,hi,gD,o2,o7⟩:=hI;have O:A .aQ .lss z 8=decide (i<8):=by rw[aV A,j.eq];grind
 rw[O];by_cases f:i<8
 .rw[kS f];have r:=j.ix (len:=8) ip;have aZ:8-(i+1)<w:=ip
  have aI:=Od t s f;have Zo:s.l[i]? =some (s.l.getD i 0):=by rw[kXC,kZG (show i<s.l.length from f)];rfl
  have kL:∀h',Le h h'->dt 509 qf h' K 8 s.l->dt 509 qf h' p 8 ((BP t s i).set i (t.l.getD i 0+s.l.getD i 0))->I (8-(i+1)) (A .aX .add .i64 z 1) h':=λh' l' q2 Y=>by
   rw[gX];rw[Oc t s f]at Y;exact⟨i+1,j.succ (A:=A),rfl,ip,l',q2,Y⟩
  have jV:i<(BP t s i).length:=gg
  clear gX kM O;cbv;refine⟨r,?_⟩;cbv;refine(o7.sl (n:=8) rfl).load aI j.eq (λcs ar=>?_);obtain⟨u7,rfl,aK⟩:=ar;cbv;refine⟨r,?_⟩;cbv;refine(o2.sl (n:=8) rfl).load Zo j.eq (λcs ar=>?_);obtain⟨u2,rfl,Zr⟩:=ar;cbv;refine⟨r,?_⟩;cbv;refine o7.setAt (s:=qf) (by simp[qf]) jV j.eq rfl ⟨_,rfl,aK.add (A:=A) Zr⟩ (λoV ab _ aH=>?_);have Bv:=kL oV (gD.bf (bs:=[p]) (iu z7) ab) (o2.kp ab (iu L) (λ_ _ _ _ hm _=>by cases hm)) aH;clear kL;cbv;refine zqn (8-(i+1)) (A .aX .add .i64 z 1) aZ Bv
 have aE:i=8:=ip
 subst aE;rw[kQW f];rw[aXs]at o7;obtain⟨c0,c1,c2,c3,c4,c5,c6,c7,a,w8⟩:=WZ o7;have:=hk iE c0 c1 c2 c3 c4 c5 c6 c7 gD w8;clear hk gX kM O;cbv;refine cy a ?_;cbv;exact this
def aZy(n i:Nat):UInt8:=u8 ((n*8 % 2^64 / 2^(56-8*i):Nat):Int)
theorem yA(n:Nat):(NV n).length=8:=rfl
theorem jJm[a:bM A](j:n<=2^40){N:Int}(e:bg N (n*8))(f:bg z i)(g:i<8):
 0<=A .aX .sub .i64 56 (A .aX .mul .i64 8 z)/\cD.R h [.int .u8 (A .conv .u8 (A .aX .shr .u64 N (A .aX .sub .i64 56 (A .aX .mul .i64 8 z))))] (aZy n i):=by
 have b:A .aX .mul .i64 8 z=((8*i:Nat):Int):=by rw[a.aX,f.eq];show IntKind.i64.wrap (8*(i:Int))=_;rw[IntWalk.i64_in _ ip];omega
 have c:A .aX .sub .i64 56 ((8*i:Nat):Int)=((56-8*i:Nat):Int):=by rw[a.aX];show IntKind.i64.wrap (56-((8*i:Nat):Int))=_;rw[IntWalk.i64_in _ ip];omega
 have d:A .aX .shr .u64 N ((56-8*i:Nat):Int)=((n*8 % 2^64 / 2^(56-8*i):Nat):Int):=by
  rw[a.aX,e.eq];show((n*8:Nat):Int).fdiv (2^(min ((56-8*i:Nat):Int).toNat 64))=_
  grind
 rw[b,c,d];exact⟨ip,lD _⟩
theorem aJG(l0:Le h0 h){c:Nat}{l:Bs}(q:bA 5 cD h0 h (.slice b n c) l)(hn:n<=2^38)
 (T:∀h' a n' c',Le h0 h'->(∀tys,5∉tys->cX tys h h')->bA 5 cD h0 h' (.slice a n' c') (FN l)->k (.slice a n' c') h'):
 Ct 369 [.slice b n c] h k:=by
 obtain⟨A,B⟩:=Ar.ex;have D:=q.sl.len;obtain⟨N,K⟩:∃N,N=A .aX .mul .u64 (A .conv .u64 (A .nat n)) 8:=⟨_,rfl⟩;have hN:bg N (l.length*8):=⟨by
  rw[K,B.nat,B.conv,B.aX,<-D];show IntKind.u64.wrap (IntKind.u64.wrap (n:Int)*8)=_;rw[pJ,pJ];omega⟩
 obtain⟨J,H⟩:∃J:Nat->(Option Addr×Nat×Nat)->ad->Prop,∀w g h',J w g h'=(∃j,w=nK l.length-j/\j<=nK l.length/\Le h0 h'/\(∀tys,5∉tys->cX tys h h')/\bA 5 cD h0 h' (.slice g.1 g.2.1 g.2.2) (l++[128]++List.replicate j 0)):=⟨_,λ_ _ _=>rfl⟩;refine kh eQM A Tryz.func369 ?_;cbv;intro n1 h1 fG e1;have W:Le h h1:=zqs e1 fG
 have q1:=bh (s:=cD) (x:=128) (zqt e1) rfl;clear e1;cbv;refine(q.mono (W.t _)).app q1 dl rfl dl ip (l0.trans W) (λm2 b2 c2 h2 zV l2 t2 k2 q2=>?_);have M:J (nK l.length) (b2,m2,c2) h2:=by rw[H];exact⟨0,rfl,kXH _,l2,λtys t=>(W.t _).trans (t2 _ t),iu q2⟩
 clear k2;cbv;rw[<-K];refine ba.gz (G:=Option Addr×Nat×Nat) (λg=>[(0,.v (.slice g.1 g.2.1 g.2.2))]) (λ_=>[]) (λw g h'=>J w g h') (nK l.length) (b2,m2,c2) M ?_
 intro w g L C;rw[H]at C;cbv;obtain⟨p,m,r⟩:=g;obtain⟨j,hw,hj,l3,t3,f⟩:=C;have f:bA 5 cD h0 L (.slice p m r) (l++[128]++List.replicate j 0):=f;have Y:m=l.length+1+j:=by have:=f.sl.len;grind
 have ab:nK l.length<64:=kZy _ dl;have o:A .aQ .neq (A .aX .rem .i64 (A .nat m) 64) 56=decide (j<nK l.length):=by
  rw[aJ A,B.aX,B.nat];show decide (((m:Int)).tmod 64≠56)=_
  grind [nK]
 have cm:∀h' a m' c',j<nK l.length->Le h0 h'->(∀tys,5∉tys->cX tys L h')->bA 5 cD h0 h' (.slice a m' c') (l++[128]++List.replicate j 0++[0])->J (nK l.length-(j+1)) (a,m',c') h':=λh' a m' c' Z V t' q'=>by
  rw[H];refine⟨j+1,rfl,Z,V,λtys t=>(t3 _ t).trans (t' _ t),?_⟩;rw[kJk,<-List.replicate_succ']at q';exact q'
 refine⟨dl,?_⟩;cbv;rw[o];by_cases d:j<nK l.length
 .rw[kS d];have Z:nK l.length-(j+1)<w:=ip
  clear o H M;generalize l++[128]++List.replicate j 0=cur at *;cbv;intro n4 u Gq O;have v:Le L u:=zqs O Gq
  have e:=bh (s:=cD) (x:=0) (zqt O) rfl;clear O;cbv;refine(f.mono (v.t _)).app e dl rfl dl ip (l3.trans v) (λm5 b5 c5 R Lf F t5 k5 q5=>?_);have iL:=cm R b5 m5 c5 d F (λtys t=>(v.t _).trans (t5 _ t)) q5;clear k5;cbv;refine zqn _ (b5,m5,c5) Z iL
 rw[kQW d];have hj:j=nK l.length:=ip
 subst hj;clear o cm;obtain⟨P,S⟩:∃P,P=l++[128]++List.replicate (nK l.length) 0:=⟨_,rfl⟩;have az:FN l=P++NV l.length:=by rw[S];rfl
 have Lj:P.length<=2^38+100:=gg
 rw[<-S]at f;rw[az]at T;obtain⟨I,X⟩:∃I:Nat->(Int×Option Addr×Nat×Nat)->ad->Prop,∀w g h',I w g h'=(∃i,bg g.1 i/\w=8-i/\i<=8/\Le h0 h'/\(∀tys,5∉tys->cX tys h h')/\bA 5 cD h0 h' (.slice g.2.1 g.2.2.1 g.2.2.2) (P++(NV l.length).take i)):=⟨_,λ_ _ _=>rfl⟩;have U:I 8 (0,p,m,r) L:=by rw[X];exact⟨0,⟨rfl⟩,rfl,ip,l3,t3,iu f⟩
 clear H M S az f;cbv;refine ba.gz (G:=Int×Option Addr×Nat×Nat) (λg=>[(19,.v (.zI g.1)),(0,.v (.slice g.2.1 g.2.2.1 g.2.2.2))]) (λ_=>[]) (λw g h'=>I w g h') 8 (0,p,m,r) U ?_
 intro w g u C;rw[X]at C;cbv;obtain⟨z,p,m,r⟩:=g;obtain⟨i,E,hw,hi,v,t4,e⟩:=C;have E:bg z i:=E;have e:bA 5 cD h0 u (.slice p m r) (P++(NV l.length).take i):=e;have Y:=e.sl.len;rw[kXy,kJI,yA]at Y;have o:A .aQ .lss z 8=decide (i<8):=by rw[aV A,E.eq];grind
 rw[o];by_cases d:i<8
 .rw[kS d];obtain⟨eL,hR⟩:=jJm (A:=A) (h:=u) (n:=l.length) ip hN E d;have fV:(NV l.length).take (i+1)=(NV l.length).take i++[aZy l.length i]:=uC (aZy l.length) d;have kL:∀h' m' a c',Le h0 h'->(∀tys,5∉tys->cX tys h h')->bA 5 cD h0 h' (.slice a m' c') (P++(NV l.length).take i++[aZy l.length i])->I (8-(i+1)) (A .aX .add .i64 z 1,a,m',c') h':=λh' m' a c' V t' q'=>by
   rw[X];exact⟨i+1,E.succ (A:=A),rfl,d,V,t',gg⟩
  have Z:8-(i+1)<w:=ip
  have oU:m+1<=2^39:=ip
  clear o X U fV Y;generalize aZy l.length i=y at *;generalize P++(NV l.length).take i=cur at *;cbv;refine⟨eL,?_⟩;cbv;intro n5 R Na Q;have F:Le u R:=zqs Q Na
  have q5:=bh (s:=cD) (zqt Q) hR;clear Q;cbv;refine(e.mono (F.t _)).app q5 dl rfl dl oU (v.trans F) (λm6 b6 c6 h6 Sr l6 t6 k6 q6=>?_);have Bv:=kL h6 m6 b6 c6 l6 (λtys t=>(t4 _ t).trans ((F.t _).trans (t6 _ t))) q6;clear kL k6;cbv;refine zqn (8-(i+1)) (_,b6,m6,c6) Z Bv
 rw[kQW d];have hi:i=8:=ip
 rw[kXe (by rw[yA];omega)]at e;have:=T u p m r v t4 e;clear T X U;cbv;exact this
def hl(g:Nat->Int):List Value:=[.int .u8 (g 0),.int .u8 (g 1),.int .u8 (g 2),.int .u8 (g 3),.int .u8 (g 4),.int .u8 (g 5),.int .u8 (g 6),.int .u8 (g 7),.int .u8 (g 8),.int .u8 (g 9),.int .u8 (g 10),.int .u8 (g 11),.int .u8 (g 12),.int .u8 (g 13),.int .u8 (g 14),.int .u8 (g 15),.int .u8 (g 16),.int .u8 (g 17),.int .u8 (g 18),.int .u8 (g 19),.int .u8 (g 20),.int .u8 (g 21),.int .u8 (g 22),.int .u8 (g 23),.int .u8 (g 24),.int .u8 (g 25),.int .u8 (g 26),.int .u8 (g 27),.int .u8 (g 28),.int .u8 (g 29),.int .u8 (g 30),.int .u8 (g 31)]
def oR(v:Value)(d s:Int)(g:Nat->Int):List Value:=[v,.zU d,.int .i32 s,.zU 0,.int .u8 (g 0),.int .u8 (g 1),.int .u8 (g 2),.int .u8 (g 3),.int .u8 (g 4),.int .u8 (g 5),.int .u8 (g 6),.int .u8 (g 7),.int .u8 (g 8),.int .u8 (g 9),.int .u8 (g 10),.int .u8 (g 11),.int .u8 (g 12),.int .u8 (g 13),.int .u8 (g 14),.int .u8 (g 15),.int .u8 (g 16),.int .u8 (g 17),.int .u8 (g 18),.int .u8 (g 19),.int .u8 (g 20),.int .u8 (g 21),.int .u8 (g 22),.int .u8 (g 23),.int .u8 (g 24),.int .u8 (g 25),.int .u8 (g 26),.int .u8 (g 27),.int .u8 (g 28),.int .u8 (g 29),.int .u8 (g 30),.int .u8 (g 31)]
theorem Gu(g:Nat->Int):hl g=(List.range 32).map λi=>Value.int .u8 (g i):=rfl
theorem Zt(v:Value)(d s:Int)(g:Nat->Int):oR v d s g=[v,.zU d,.int .i32 s,.zU 0]++hl g:=rfl
theorem CS(g:Nat->Int)(x:Int)(h:i<32):(hl g).set i (.int .u8 x)=hl (λj=>if j=i then x else g j):=by
 rw[Gu,Gu];apply kZq;intro j
 grind
theorem aKr(v:Value)(d s:Int)(g:Nat->Int)(x:Int)(h:i<32):(oR v d s g).set (4+i) (.int .u8 x)=oR v d s (λj=>if j=i then x else g j):=by
 grind [Zt,CS]
theorem bKm[a:bM A]{T o:Nat}{v:Value}{k:ad->Prop}(d:bg z i)(q:h n=zcL T c)(f:o+i<c.length)
 (b:∀h',h'=bO h n (.cells (c.set (o+i) v).toArray T (0,0))->k h'):Hy h (A .jt (some ⟨n,o,none⟩) z 1) [v] k:=by
 have e:A .jt (some ⟨n,o,none⟩) z 1=⟨n,o+i,none⟩:=by rw[a.jt,d.eq];simp[jt,cQ]
 rw[e];exact jE q gg b
theorem Bp{b:Bs}(h:b.length=32)(a:∀i x,b[i]? =some x->g i=(x.toNat:Int)):hl g=aT b:=by
 rw[Gu];unfold aT;apply kZq;intro i
 grind
theorem tJ{b:Bs}(h:b.length=32):∃g,hl g=aT b:=⟨λi=>((b.getD i 0).toNat:Int),Bp h λi x hx=>gg⟩
theorem Ms(s:W8)(h:j<32):(Uy s)[j]? =some (wB (s.l.getD (j / 4) 0) (j % 4)):=by
 have:Uy s=(List.range 32).map λj=>wB (s.l.getD (j / 4) 0) (j % 4):=rfl
 grind
theorem Mq(l:Bs):(FN l).length % 64=0:=by
 grind [FN,yA,nK]
theorem lM.byte[d:bM A]{u:Int}{w:W}(e:lM u w)(f:bg z i):
 0<=A .aX .sub .i64 24 (A .aX .mul .i64 8 (A .aX .rem .i64 z 4))/\A .conv .u8 (A .aX .shr .u32 u (A .aX .sub .i64 24 (A .aX .mul .i64 8 (A .aX .rem .i64 z 4))))=((wB w (i % 4)).toNat:Int):=by
 have b:A .aX .sub .i64 24 (A .aX .mul .i64 8 (A .aX .rem .i64 z 4))=((24-8*(i % 4):Nat):Int):=by rw[d.aX,f.eq];show IntKind.i64.wrap (24-IntKind.i64.wrap (8*((i:Int)).tmod 4))=_;rw[kZL ip,IntWalk.i64_in (8*((i:Int) % 4)) ip,IntWalk.i64_in _ ip];omega
 rw[b];refine⟨ip,?_⟩;have c:=(e.shr (A:=A) (n:=((24-8*(i % 4):Nat):Int)) (i:=24-8*(i % 4)) ⟨rfl⟩ ip).eq;rw[c];have a:=lD (A:=A) (h:=λ_=>none) (((w >>> (24-8*(i % 4))).toNat:Nat):Int);have a:[Value.int .u8 (A .conv .u8 (((w >>> (24-8*(i % 4))).toNat:Nat):Int))]=[.int .u8 ((u8 (((w >>> (24-8*(i % 4))).toNat:Nat):Int)).toNat:Int)]:=a;injection a with a _
 injection a with _ a
theorem dJi(l0:Le h0 h){p:Nat}{c:Nat}{l:Bs}(q:bA 5 cD h0 h (.slice b n c) l)(gp:h p=zcL 493 (oR (.slice b n c) 0 1 λ_=>0))(hp:h0 p=none)(hn:n<=2^38)
 (hk:∀h' g,Le h0 h'->h' p=zcL 493 (oR (.slice b n c) 0 1 g)->hl g=aT (Ul l)->k (.tuple #[]) h'):
 Ct 351 [.zP p] h k:=by
 have Zu:Ul l=Uy (ku mE (FN l)):=rfl;have ak:=Mq l;rw[Zu]at hk;clear Zu;refine cB eXa Tryz.func351 λA hA=>?_;cbv;refine cJI (λa0 a1 a2 a3 a4 a5 a6 a7 h8=>?_);cbv;intro a h1 fA e1;have N:Le h h1:=zqs e1 fA
 have d:h1 a=zcL 509 (List.replicate 8 (.zU 0)):=zqt e1;have Q:p≠a:=nt gp fA;have z2:=l0.none fA;have q1:=q.mono (N.t _);have L:=N _ _ gp;have N:=l0.trans N;clear e1;cbv;refine jE d (qA _) (λh2 Y=>?_);have k2:Kp [a] h1 h2:=by rw[Y];exact Kp.set io
 have q2:bA 5 cD h0 h2 (.slice b n c) l:=q1.mono (by rw[Y];exact cX.set d dl);have d:h2 a=zcL 509 (Fa a0 a1 a2 a3 a4 a5 a6 a7):=by rw[Y,ae];rfl
 have v:=k2 _ _ L (iu Q);have l2:=N.bf (bs:=[a]) (iu z2) k2;clear Y k2 L;cbv;rw[av A];refine cy v ?_;cbv;refine aJG l2 q2 hn (λh3 B m3 c3 l3 t3 q3=>?_);have d:=t3 [509] dl _ _ _ _ io d;have ag:=t3 [493] dl _ _ _ _ io v;have q3:=q3.sl;obtain⟨J,bH⟩:∃J:Nat->(Option Addr×Nat×Nat)->ad->Prop,∀w g h',J w g h'=(∃b0 b1 b2 B b4 b5 b6 b7 S r,w=g.2.1/\Le h0 h'/\Sl 5 cD h' (.slice g.1 g.2.1 g.2.2) r/\r.length % 64=0/\ku S r=ku mE (FN l)/\WL b0 b1 b2 B b4 b5 b6 b7 S/\
  h' a=zcL 509 (Fa b0 b1 b2 B b4 b5 b6 b7)/\h' p=zcL 493 (oR (.slice b n c) 0 1 λ_=>0)):=⟨_,λ_ _ _=>rfl⟩
 have dP:J m3 (B,m3,c3) h3:=gg
 generalize ku mE (FN l)=SF at *;clear d ag v t3 q3 q2 l2 q1 ak;cbv;refine ba.gz (G:=Option Addr×Nat×Nat) (λg=>[(3,.v (.slice g.1 g.2.1 g.2.2))]) (λ_=>[]) (λw g h'=>J w g h') m3 (B,m3,c3) dP ?_
 intro w g h4 H;rw[bH]at H;cbv;obtain⟨gb,m,e⟩:=g;obtain⟨b0,b1,b2,B,b4,b5,b6,b7,S,r,hw,l4,F,BY,hS,w8,d,t⟩:=H;have hw:w=m:=hw;have F:Sl 5 cD h4 (.slice gb m e) r:=F;have nQ:=F.len;have kE:=F.bound;have C:A .aQ .gtr (A .nat m) 0=decide (64<=r.length):=by rw[bF A,hA.nat];grind
 have K:ku S r=if h:64<=r.length then ku (HW S (r.take 64)) (r.drop 64)else S:=by rw[ku]
 rw[C];by_cases s:64<=r.length
 .rw[dif_pos s,hS]at K;rw[kS s];have f:bg 64 64:=⟨rfl⟩;have eL:(0:Int)<=64/\(64:Int)<=(e:Int):=ip
  have jW:(0:Int)<=64/\(64:Int)<=(m:Int):=ip
  have an:=dJ (A:=A) f;have Ln:=cS (A:=A) (n:=m) f;have SY:=cS (A:=A) (n:=e) f;have tk:=F.vU (A:=A) (z:=A .nat e) (i:=64) ip rfl;have td:=F.jX (A:=A) f ip rfl rfl;have aZ:m-64<w:=ip
  have Ap:(r.take 64).length=64:=gg
  have ao:(r.drop 64).length % 64=0:=gg
  have cm:∀h' x0 O P R T U V W,Le h0 h'->Sl 5 cD h' (.slice (A .cut gb 64 (A .nat e) 1) (m-64) (e-64)) (r.drop 64)->WL x0 O P R T U V W (HW S (r.take 64))->h' a=zcL 509 (Fa x0 O P R T U V W)->
   h' p=zcL 493 (oR (.slice b n c) 0 1 λ_=>0)->J (m-64) (A .cut gb 64 (A .nat e) 1,m-64,e-64) h':=λh' x0 O P R T U V W l' q' w' g' aq=>by
   grind
  clear bH dP C hS K;cbv;refine cy d ?_;cbv;refine⟨eL,?_⟩;cbv;rw[an];refine hXs w8 tk Ap (λh5 x0 O P R T U V W y w5=>?_);have g5:=y _ _ d;have Z:=y _ _ t;have al:=td.mono (y.t _);cbv;refine jE g5 (qA _) (λD o=>?_);have M:Kp [a] h5 D:=by rw[o];exact Kp.set io
  have g6:D a=zcL 509 (Fa x0 O P R T U V W):=by rw[o,ae];rfl
  have iL:=cm D _ _ _ _ _ _ _ _ ((l4.trans y).bf (bs:=[a]) (iu z2) M) (al.mono (by rw[o];exact cX.set g5 dl)) w5 g6 (M _ _ Z (iu Q));clear cm o;cbv;refine⟨jW,?_⟩;cbv;rw[Ln,SY];refine zqn _ (_,m-64,e-64) aZ iL
 rw[kQW s];rw[dif_neg s,hS]at K;subst K;obtain⟨I,X⟩:∃I:Nat->Int->ad->Prop,∀w z h',I w z h'=(∃i g,bg z i/\w=32-i/\i<=32/\Le h0 h'/\dt 509 qf h' a 8 SF.l/\h' p=zcL 493 (oR (.slice b n c) 0 1 g)/\∀j,j<i->g j=((wB (SF.l.getD (j / 4) 0) (j % 4)).toNat:Int)):=⟨_,λ_ _ _=>rfl⟩;have kM:I 32 0 h4:=by rw[X];exact⟨0,_,⟨rfl⟩,rfl,ip,l4,Fb d w8,t,λj hj=>ip⟩
 clear bH dP C d t hS;cbv;refine ba.gz (G:=Int) (λz=>[(20,.v (.zI z))]) (λ_=>[]) (λw z h'=>I w z h') 32 0 kM ?_
 intro w z h5 H;rw[X]at H;cbv;obtain⟨i,g,E,hw,hi,y,o5,Z,ab⟩:=H;have C:A .aQ .lss z 32=decide (i<32):=by rw[aV A,E.eq];grind
 rw[C];by_cases s:i<32
 .rw[kS s];have hq:bg (A .aX .quo .i64 z 4) (i / 4):=⟨by
   rw[hA.aX,E.eq];show IntKind.i64.wrap ((i:Int).tdiv 4)=_;rw[kQY ip,IntWalk.i64_in _ ip];omega⟩
  have cq:=hq.ix (len:=8) ip;have cz:=E.ix (len:=32) ip;have aZ:32-(i+1)<w:=ip
  have hx:SF.l[i / 4]? =some (SF.l.getD (i / 4) 0):=by rw[kXC,kZG (show i / 4<SF.l.length from(by show i / 4<8;omega))];rfl
  have kL:∀h' x,x=((wB (SF.l.getD (i / 4) 0) (i % 4)).toNat:Int)->Le h0 h'->dt 509 qf h' a 8 SF.l->h' p=zcL 493 ((oR (.slice b n c) 0 1 g).set (4+i) (.int .u8 x))->I (32-(i+1)) (A .aX .add .i64 z 1) h':=λh' x hx l' o' g'=>by
   rw[X];rw[aKr _ _ _ _ _ s]at g';refine⟨i+1,_,E.succ (A:=A),rfl,ip,l',o',g',λj hj=>?_⟩
   grind
  clear X kM C ab;cbv;refine⟨dl,?_⟩;cbv;refine⟨cq,?_⟩;cbv;refine(o5.sl (n:=8) rfl).load hx hq.eq (λcs ar=>?_);obtain⟨u,rfl,hu⟩:=ar;obtain⟨eL,py⟩:=hu.byte (A:=A) E;cbv;refine⟨dl,?_⟩;cbv;refine⟨eL,?_⟩;cbv;refine⟨cz,?_⟩;cbv;rw[av A];refine bKm E Z (by show 0+4+i<36;omega) (λD o=>?_);have M:Kp [p] h5 D:=by rw[o];exact Kp.set io
  have iL:=kL D _ py (y.bf (bs:=[p]) (iu hp) M) (o5.kp M (by simpa using Ne.symm Q) (λ_ _ _ _ hm _=>by cases hm)) (by rw[o,ae]);clear kL o;cbv;refine zqn _ (A .aX .add .i64 z 1) aZ iL
 have hi:i=32:=ip
 subst hi;rw[kQW s];have:=hk h5 g y Z (Bp (wP _) λj x hx=>by
  grind [hx,wP,Ms])
 clear hk X kM;cbv;exact this
theorem QR{c:Nat}(q:Sl 176 DS h (.slice b n c) L)(G:L.flatten.length<=2^38)
 (v:∀h' g,Le h h'->hl g=aT (Ul L.flatten)->k (.agg (hl g).toArray) h'):Ct 290 [.slice b n c] h k:=by
 refine cB eZb Tryz.func290 λA P=>?_;cbv;refine BH q G (λE a f d x z=>?_);have O:=z.sl.len;cbv;intro p t w l;have y:Le E t:=zqs l w
 have s:t p=zcL 493 (oR (.slice a f d) 0 0 λ_=>0):=zqt l;have K:=z.mono (y.t _);have M:=x.none w;clear l;cbv;rw[av A];refine dQF s (o:=1) rfl rfl (λm i=>?_);have B:m p=zcL 493 (oR (.slice a f d) 0 1 λ_=>0):=by rw[i,ae];rfl
 have H:Le h m:=(x.trans y).bf (bs:=[p]) (iu M) (by rw[i];exact Kp.set io);have N:bA 5 cD h m (.slice a f d) L.flatten:=K.mono (by rw[i];exact cX.set s dl);clear i;refine dJi H N B M ip (λu g I C F=>?_);refine⟨rfl,_,C,rfl,rfl,?_⟩;obtain⟨e,j⟩:∃e,e=bO u p (.cells (oR (.slice a f d) 1 0 g).toArray 493 (0,0)):=⟨_,rfl⟩;have r:bO u p (.cells (((oR (.slice a f d) 0 1 g).set 1 (.zU 1)).set (1+1) (.int .i32 0)).toArray 493 (0,0))=e:=j.symm;rw[r];have D:=zqt j;have J:Le h e:=I.bf (bs:=[p]) (iu M) (by rw[j];exact Kp.set io);have:=v e g J F;clear j r v;cbv;rw[av A];refine cy D ?_;cbv;exact this
def yV:Sh Bs where
 n:=32
 R _ cs b:=cs=aT b/\b.length=32
 len:=by rintro h cs b ⟨rfl,hl⟩;simpa[aT]using hl
 one:=by rintro h cs b ⟨rfl,-⟩;exact iX b
 tys:=[]
 mono:=λ_ q=>q
theorem FA{b:Bs}(c:hl g=aT b)(a:b.length=32):yV.R h (hl g) b:=⟨c,a⟩
theorem kG{T:Nat}{x:Bs}(q:h n=zcL T (hl g))(b:hl g=aT x)(hx:x.length=32):Sl T cD h (.slice (zsA n) 32 32) x:=by
 rw[b]at q;have:=Sl.fresh (e:=T) (s:=cD) (xs:=x) (cap:=32) q ⟨by simp[cD,aT],λi y a=>?_⟩ ip ip
 .rw[hx]at this;exact this
 show((aT x).drop (0+i*1)).take 1=[.int .u8 (y.toNat:Int)];rw[kJe,vi];unfold aT;rw[<-kZV,<-wL];have c:i<x.length:=(HH.1 a).1;rw[kQP c];have:=(HH.1 a).2;simp[this]
theorem xP(z:Value)(g:Nat->Int):iv (List.replicate 32 z) 0 (hl g)=hl g:=by kernel_rfl
theorem LW(f g:Nat->Int):iv (hl f) 0 (hl g)=hl g:=by kernel_rfl
theorem rS{h':ad}{T:Nat}(e:h'=bO h n (.cells (iv c 0 (hl g)).toArray T (0,0)))(a:iv c 0 (hl g)=hl g):h' n=zcL T (hl g):=by rw[e,ae,a]
theorem bJM{c:Nat}{l:Bs}(q:Sl e1 cD h (.slice b n c) l)(r:e1∈fZu)(C:n<=2^37)
 (u:∀h' g,Le h h'->hl g=aT (Bc l)->k (.agg (hl g).toArray) h'):Ct 256 [.slice b n c] h k:=by
 have f:=q.len;refine cB eZH Tryz.func256 λA B=>?_;cbv;intro w d G e1;have i:Le h d:=zqs e1 G
 have z:=bh (s:=cD) (x:=0) (zqt e1) rfl;clear e1;cbv;intro y o j e;have a:Le d o:=zqs e j
 have m:=zqt e;clear e;cbv;refine QR (L:=[[0],l]) (pf (s:=DS) rfl m (eU (z.mono (a.t _))) (eU (q.mono ((i.trans a).t _)) r)) (by simp;omega) (λp g v t=>?_);have:=u p g ((i.trans a).trans v) (by rw[t];unfold Bc;simp);cbv;exact this
theorem LF(a b:Bs):(AD a b).length=32:=gu _
theorem cXV{c:Nat}(q:Sl 100 yV h (.slice b n c) L){o:Nat->Int}{x0:Bs}(h0:hl o=aT x0)(vN:x0.length=32)
 (hk:∀h' g,Le h h'->hl g=aT (L.foldl AD x0)->(L.foldl AD x0).length=32->k (.agg (hl g).toArray) h'):Ct 328 [.agg (hl o).toArray,.slice b n c] h k:=by
 have ab:=q.len;have kE:=q.bound;refine cB eXt Tryz.func328 λA hA=>?_;cbv;intro f e W e1;have l1:Le h e:=zqs e1 W
 have X:e f=zcL 100 (hl o):=zqt e1;obtain⟨J,H⟩:∃J:Nat->Int->ad->Prop,∀w z h',J w z h'=(∃i g x,bg z i/\w=n-i/\i<=n/\Le h h'/\h' f=zcL 100 (hl g)/\hl g=aT x/\x.length=32/\(L.drop i).foldl AD x=L.foldl AD x0):=⟨_,λ_ _ _=>rfl⟩;have P:J n 0 e:=by rw[H];exact⟨0,o,x0,⟨rfl⟩,rfl,ip,l1,X,h0,vN,rfl⟩
 generalize L.foldl AD x0=F at *;clear e1 X;cbv;refine ba.gz (G:=Int) (λz=>[(9,.v (.zI z))]) (λ_=>[(4,List.replicate 32 (.int .u8 0))]) (λw z h'=>J w z h') n 0 P ?_
 intro w z h2 hI;rw[H]at hI;cbv;obtain⟨i,g,x,t,hw,hi,u,O,hg,hx,d⟩:=hI;have V:A .aQ .lss z (A .nat n)=decide (i<n):=by rw[aV A,t.eq,hA.nat];exact decide_eq_decide.2 (by show(i:Int)<(n:Int)↔_;omega)
 rw[V];by_cases p:i<n
 .rw[kS p];obtain⟨y,hy⟩:=cK L i;have ix:=t.ix p;have iK:b.isSome=true:=q.bu;have aZ:n-(i+1)<w:=ip
  have IZ:L.drop i=y::L.drop (i+1):=by have e:=(HH.1 hy);rw[kQP e.1,e.2]
  rw[IZ,kJF]at d;have U:∀h' a,Le h h'->h' f=zcL 100 (hl a)->hl a=aT (AD x y)->J (n-(i+1)) (A .aX .add .i64 z 1) h':=λh' a l' q' l=>by
   rw[H];exact⟨i+1,a,_,t.succ (A:=A),rfl,p,l',q',l,LF _ _,d⟩
  clear H P V d;cbv;refine⟨⟨iK,ix⟩,?_⟩;cbv;refine(q.mono (u.t _)).load hy t.eq (λcs r=>?_);obtain⟨r,Z⟩:=r;obtain⟨gy,m⟩:=tJ Z;rw[<-m]at r;subst r;cbv;intro j R M C;have l3:Le h2 R:=zqs C M
  have Q:R j=zcL 100 (List.replicate 32 (.int .u8 0)):=zqt C;have B:f≠j:=nt O M;have g3:=l3 _ _ O;have z6:=u.none M;clear C;cbv;refine jE Q (qA _) (λS E=>?_);have T:Kp [j] R S:=by rw[E];exact Kp.set io
  have Q:S j=zcL 100 (hl gy):=rS E (xP _ _);have Y:=T _ _ g3 (iu B);have l4:=(u.trans l3).bf (bs:=[j]) (iu z6) T;clear E T;cbv;intro n7 h5 Gp I;have l5:Le S h5:=zqs I Gp
  have q7:=bh (s:=cD) (x:=1) (zqt I) rfl;clear I;cbv;intro n8 h6 nI K;have l6:Le h5 h6:=zqs K nI
  have g8:=zqt K;have D:=l5.trans l6;clear K;cbv;refine QR (L:=[[1],x,y]) (gT (s:=DS) rfl g8 (eU (q7.mono (l6.t _))) (eU (kG (D _ _ Y) hg hx)) (eU (kG (D _ _ Q) m Z))) (by simp;omega) (λh7 a l7 l=>?_);have g7:=l7 _ _ (D _ _ Y);have v:=l4.trans (D.trans l7);have l:hl a=aT (AD x y):=by rw[l];unfold AD;simp
  cbv;refine jE g7 (qA _) (λh8 N=>?_);have iL:=U h8 a (v.bf (bs:=[f]) (iu W) (by rw[N];exact Kp.set io)) (rS N (LW _ _)) l;clear U N;cbv;refine zqn (n-(i+1)) (A .aX .add .i64 z 1) aZ iL
 have fN:i=n:=ip
 subst fN;rw[kXc ip]at d;have d:x=F:=d;subst d;have:=hk h2 g u hg hx;rw[kQW p];clear hk H P;cbv;refine cy O ?_;cbv;exact this
theorem dZo(p:bg z n)(t:2<=n)(r:n<=2^60)(a:∀w,bg w (BF n)->k (.zI w) h):Ct 327 [.zI z] h k:=by
 obtain⟨J,b⟩:∃J:Nat->Int->ad->Prop,∀w y h',J w y h'=(∃i,bg y i/\w=n-i/\0<i/\i<n/\h'=h/\De i n=BF n):=⟨_,λ_ _ _=>rfl⟩;have d:J (n-1) 1 h:=by rw[b];exact⟨1,⟨rfl⟩,rfl,ip,ip,rfl,rfl⟩
 generalize BF n=C at *;refine cB eXu Tryz.func327 λA e=>?_;cbv;refine ba.gz (G:=Int) (λy=>[(3,.v (.zI y))]) (λ_=>[]) (λw y h'=>J w y h') (n-1) 1 d ?_
 intro w y l I;rw[b]at I;cbv;obtain⟨i,j,u,h0,s,rfl,g⟩:=I;have m:A .aX .mul .i64 2 y=((2*i:Nat):Int):=by rw[e.aX,j.eq];show IntKind.i64.wrap (2*(i:Int))=_;rw[IntWalk.i64_in _ ip];omega
 have q:A .aX .mul .i64 y 2=A .aX .mul .i64 2 y:=by rw[e.aX];show IntKind.i64.wrap (y*2)=IntKind.i64.wrap (2*y);rw[Int.mul_comm]
 have f:A .aQ .lss (A .aX .mul .i64 2 y) z=decide (2*i<n):=by rw[m,aV A,p.eq];exact decide_eq_decide.2 ip
 have F:De i n=if h:2*i<n/\0<i then De (2*i) n else i:=by rw[De]
 rw[f];by_cases c:2*i<n
 .rw[dif_pos ⟨c,h0⟩,g]at F;have L:J (n-2*i) (A .aX .mul .i64 2 y) l:=by rw[b];exact⟨2*i,⟨m⟩,rfl,ip,c,rfl,F.symm⟩
  have Z:n-2*i<w:=ip
  rw[kS c];clear b d a f m;cbv;rw[q];refine zqn _ (A .aX .mul .i64 2 y) Z L
 rw[dif_neg (λo=>c o.1),g]at F;have:=a y (by rw[F];exact j);rw[kQW c];clear b d a f m;cbv;exact this
set_option maxHeartbeats 2000000
theorem Iz(h:2<=L.length):gW L=AD (gW (L.take (BF L.length))) (gW (L.drop (BF L.length))):=by
 match L,h with
 |x::y::r,_=>rw[gW];rfl
theorem bJH(N:Nat):∀ {h:ad} {b:Option Addr} {n c:Nat} {L:List Bs} (q:Sl 100 yV h (.slice b n c) L) (K:L.length<=N) {k:Value->ad->Prop}
 (a:∀h' g,Le h h'->hl g=aT (gW L)->(gW L).length=32->k (.agg (hl g).toArray) h'),Ct 246 [.slice b n c] h k:=by
 induction N with
 |zero=>
  intro h b n c L q K k a;obtain⟨A,u⟩:=Ar.ex;have l:=q.len;have j:L=[]:=kZh ip;subst j;have p:A .aQ .eql (A .nat n) 0=true:=by rw[au A,u.nat,l];rfl
  refine kh bXd A Tryz.func246 ?_;cbv;rw[p];cbv;refine QR (L:=[]) Sl.nil io (λt g f d=>?_);have:=a t g f (by rw[d];rw[gW];rfl) (by rw[gW];exact gu _);cbv;exact this
 |succ N o=>
  intro h b n c L q K k a;obtain⟨A,u⟩:=Ar.ex;have l:=q.len;have kE:=q.bound;have p:A .aQ .eql (A .nat n) 0=decide (L.length=0):=by rw[au A,u.nat,<-l];exact decide_eq_decide.2 (by show(n:Int)=0↔_;omega)
  have H:A .aQ .eql (A .nat n) 1=decide (L.length=1):=by rw[au A,u.nat,<-l];exact decide_eq_decide.2 (by show(n:Int)=1↔_;omega)
  refine kh bXd A Tryz.func246 ?_;cbv;rw[p];by_cases v:L.length=0
  .have j:L=[]:=kZh v;subst j;rw[kS v];clear o;cbv;refine QR (L:=[]) Sl.nil io (λt g f d=>?_);have:=a t g f (by rw[d];rw[gW];rfl) (by rw[gW];exact gu _);cbv;exact this
  rw[kQW v];cbv;rw[H];by_cases B:L.length=1
  .obtain⟨x,hx⟩:=cK L 0;have j:L=[x]:=by
    match L,B with
    | [y],_=>cases hx;rfl
   have hR:gW L=x:=by rw[j,gW]
   rw[hR]at a;have iK:b.isSome=true:=q.bu;have ix:(0:Int)<=0/\(0:Int)<(n:Int):=ip
   rw[kS B];clear o;cbv;refine⟨⟨iK,ix⟩,?_⟩;cbv;refine q.load hx rfl (λcs r=>?_);obtain⟨r,F⟩:=r;obtain⟨g,d⟩:=tJ F;rw[<-d]at r;subst r;have:=a h g (Le.refl _) d F;cbv;exact this
  rw[kQW B];have hR:=Iz (L:=L) ip;obtain⟨G,O⟩:=EI (n:=L.length) ip;rw[hR]at a;have W:2<=n:=ip
  have J:L.length=n:=l.symm;rw[J]at a G O;obtain⟨m,M⟩:∃m,m=BF n:=⟨_,rfl⟩;rw[<-M]at a G O;clear p H hR;cbv;refine dZo (bg.nat n) W ip (λw e=>?_);rw[<-M]at e;have oY:0<=w/\w<=(c:Int):=by have:=e.eq;omega
  have pF:0<=w/\w<=(n:Int):=by have:=e.eq;omega
  have V:=dJ (A:=A) e;obtain⟨n2,Z⟩:∃x,x=n-m:=⟨_,rfl⟩;obtain⟨c2,Q⟩:∃x,x=c-m:=⟨_,rfl⟩;have E:=cS (A:=A) (n:=n) e;have S:=cS (A:=A) (n:=c) e;rw[<-Z]at E;rw[<-Q]at S;have tk:=q.vU (A:=A) (z:=A .nat c) (i:=m) ip rfl;have P:=q.jX (A:=A) e ip Z Q;cbv;refine⟨oY,?_⟩;cbv;refine⟨pF,?_⟩;cbv;rw[V,E,S];refine o tk (by rw[kJI];omega) (λt g1 f ui X=>?_);have D:=P.mono (f.t _);clear P tk;cbv;refine o D (by rw[kJb];omega) (λh2 Y l2 R U=>?_);clear o;cbv;intro n3 I T C;have l3:Le h2 I:=zqs C T
  have q3:=bh (s:=yV) (cs:=hl Y) (zqt C) (FA (h:=I) R U);clear C;cbv;refine cXV q3 ui X (λh4 g l4 d pw=>?_);have:=a h4 g (((f.trans l2).trans l3).trans l4) d pw;cbv;exact this
end Go.S
