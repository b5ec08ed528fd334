import Derived.Test.YthnbpiejemlbeaaGreatBC
set_option linter.all false
set_option maxRecDepth 100000
set_option maxHeartbeats 4000000
namespace Go.S
open Go.Sx Go.Proofs
variable {A:Ar}{z:Int}{L:List Bs}{c:List Value}{e1 i j n:Nat}{g:Nat->Int}{fr:Nat×Nat}{b:Option Addr}{k:Value->ad->Prop}{s:W8}{h h0:ad}
theorem fO(s:ByteArray):(dS s).length<=65537:=by unfold dS gM fW;simp only[cy,wS,yk,eA];omega
theorem Kx(v:jd):(js v).length<=65538:=by
 unfold js;have:=fO v.s;have h:=bY v.n;rw[wS];split
 .simp
 split
 .omega
 split
 .omega
 simp
theorem MW{c:Nat}{r:Row}(q:Sl 45 bA h (.slice b n c) r)(hn:n<=2^16)(hs:∀x∈r,x.s.size<=2^40)
 (W:∀h' j n' c',Le h h'->bt 5 cj h h' (.slice j n' c') (gn r)->(gn r).length<=2^34->k (.slice j n' c') h'):Ct 133 [.slice b n c] h k:=by
 obtain⟨A,hA⟩:=Ar.ex;have B:=q.len;have Q:A .nat n=(r.length:Int):=by rw[hA.nat,B];rfl
 obtain⟨a,Y⟩:∃a:Bs,a=[u8 (r.length:Int)]:=⟨_,rfl⟩;have ab:a.length=1:=by rw[Y];rfl
 have hS:gn r=a++(r.map js).flatten:=by rw[Y];unfold gn;rw[List.flatMap_def];rfl
 rw[hS]at W;clear hS;have FG:([]++[u8 (A .nat n)]:Bs)=a:=by rw[Q,Y];rfl
 obtain⟨J,s⟩:∃J:Nat->((Option Addr×Nat×Nat)×Int)->ad->Prop,∀w g h',J w g h'=(∃i:Nat,aZ g.2 i/\w=n-i/\i<=n/\Le h h'/\bt 5 cj h h' (.slice g.1.1 g.1.2.1 g.1.2.2) (a++((r.take i).map js).flatten)/\(a++((r.take i).map js).flatten).length<=2^17*(i+1)):=⟨_,λ_ _ _=>rfl⟩;refine fz eJl A Tryz.func133 ?_;cbv;refine pf (l:=[]) Sl.nil (by omega) _ (λh1 b1 m1 c1 k1 Z=>?_);rw[FG]at Z;have T:J n ((b1,m1,c1),0) h1:=by rw[s];refine⟨0,⟨rfl⟩,rfl,by omega,k1,by simpa using Z,by simp;omega⟩
 clear FG Z Q;cbv;refine aX.go (G:=(Option Addr×Nat×Nat)×Int) (λg=>[(3,.v (.slice g.1.1 g.1.2.1 g.1.2.2)),(11,.v (.int .i64 g.2))]) (λ_=>[]) (λw g h'=>J w g h') n ((b1,m1,c1),0) (by constructor<;>cbv) T ?_
 intro w g M hI;rw[s]at hI;cbv;obtain⟨⟨gb,gm,gc⟩,z⟩:=g;obtain⟨i,o,hw,hi,N,p,hL⟩:=hI;have o:aZ z i:=o;have p:bt 5 cj h M (.slice gb gm gc) (a++((r.take i).map js).flatten):=p;have nq:=p.sl.len;have f1:A .aN .lss z (A .nat n)=decide (i<n):=by rw[aR A,o.eq,hA.nat];exact decide_eq_decide.2 (by show(i:Int)<(n:Int)↔_;omega)
 rw[f1];by_cases U:i<n
 .rw[ak U];obtain⟨x,hx⟩:=cB r i;have Ce:=hs x (cK hx);have S:=Kx x;have ix:=o.ix U;have iV:b.isSome=true:=q.bp;have O:n-(i+1)<w:=by omega
  have X:∀j m' c' h',Le M h'->bt 5 cj M h' (.slice j m' c') ((a++((r.take i).map js).flatten)++js x)->J (n-(i+1)) ((j,m',c'),A .aT .add .i64 z 1) h':=λj m' c' h' l' q'=>by
   rw[s];have ha:(a++((r.take i).map js).flatten)++js x=a++((r.take (i+1)).map js).flatten:=by rw[qM,hx];simp
   refine⟨i+1,o.succ (A:=A),rfl,by omega,N.trans l',?_,?_⟩
   .rw[<-ha];exact q'.base N
   rw[<-ha,cy];omega
  have xU:(a++((r.take i).map js).flatten).length<=2^34:=by omega
  have t:A .aN .eql x.k 1=decide (x.k=1):=au A ..;have u:A .aN .eql x.k 2=decide (x.k=2):=au A ..;have v:A .aN .eql x.k 3=decide (x.k=3):=au A ..;have V:js x=u8 x.k::(if x.k=1 then [u8 x.n]else if x.k=2 then cF x.n else if x.k=3 then dS x.s else []):=rfl;clear f1 hL s T S;generalize a++((r.take i).map js).flatten=L at *;generalize js x=vw at *;cbv;refine⟨⟨iV,ix⟩,?_⟩;cbv;refine(q.mono (N.t _)).load hx o.eq (λcs R=>?_);have R:cs=[.int .i64 x.k,.int .i64 x.n,.string x.s]:=R;subst R;generalize x.k=P at *;generalize x.n=xn at *;generalize x.s=xs at *;cbv;refine pf p.sl (by omega) P (λh3 b3 m3 c3 f E=>?_);have Nq:=E.sl.len;rw[cy,qA]at Nq;cbv;rw[t];by_cases H:P=1
  .rw[if_pos H]at V;rw[ak H];clear t u v;cbv;refine pf E.sl (by omega) xn (λy d m e C F=>?_);have D:=X d m e y (f.trans C) (by rw[V];have:=F.base f;simpa using this);clear X;cbv;refine⟨_,((d,m,e),A .aT .add .i64 z 1),O,by constructor<;>cbv,D⟩
  rw[if_neg H]at V;rw[bn H];cbv;rw[u];by_cases I:P=2
  .rw[if_pos I]at V;rw[ak I];clear t u v;cbv;refine Nc E.sl (by omega) xn (λy d m e C F=>?_);have D:=X d m e y (f.trans C) (by rw[V];have:=F.base f;simpa using this);clear X;cbv;refine⟨_,((d,m,e),A .aT .add .i64 z 1),O,by constructor<;>cbv,D⟩
  rw[if_neg I]at V;rw[bn I];cbv;rw[v];by_cases K:P=3
  .rw[if_pos K]at V;rw[ak K];clear t u v;cbv;refine Bj (e1:=0) E.sl (by omega) xs Ce (λy d m e C F=>?_);have D:=X d m e y (f.trans C) (by rw[V];have:=F.base f;unfold dS;simpa using this);clear X;cbv;refine⟨_,((d,m,e),A .aT .add .i64 z 1),O,by constructor<;>cbv,D⟩
  rw[if_neg K]at V;rw[bn K];have D:=X b3 m3 c3 h3 f (by rw[V];exact E);clear t u v X;cbv;refine⟨_,((b3,m3,c3),A .aT .add .i64 z 1),O,by constructor<;>cbv,D⟩
 rw[bn U];have hi:i=n:=by omega
 rw[ie (by omega)]at p hL;have:=W M gb gm gc N p (by omega);clear W s T;cbv;exact this
set_option maxHeartbeats 8000000
theorem fJR{v:Int}{x:W}(d:lp z x)(h0:0<n)(b:n<32)(g:v=-(n:Int))(c:∀w,lp w (rr x n)->k (.int .u32 w) h):
 Ct 391 [.int .u32 z,.int .i64 v] h k:=by
 obtain⟨A,a⟩:=Ar.ex;obtain⟨s1,O,e1⟩:∃s1,aZ s1 (32-n)/\A .aT .and .u64 (A .conv .u64 v) 31=s1:=⟨_,⟨by
  rw[a.aT,a.conv,g];have:∀m:Nat,m<32->0<m->Sx.aT .and .u64 (IntKind.u64.wrap (-(m:Int))) 31=((32-m:Nat):Int):=by decide
  exact this n b h0⟩,rfl⟩
 obtain⟨s2,F,f⟩:∃s2,aZ s2 n/\A .aT .sub .u64 32 s1=s2:=⟨_,⟨by
  rw[a.aT,O.eq];have:∀m:Nat,m<32->0<m->Sx.aT .sub .u64 32 ((32-m:Nat):Int)=(m:Int):=by decide
  exact this n b h0⟩,rfl⟩
 have s:0<=s1/\0<=s2:=by have:=O.eq;have:=F.eq;omega
 have r:=c _ (by
  have:=(d.shl (A:=A) O (by omega)).or (A:=A) (d.shr (A:=A) F b);rw[BitVec.or_comm]at this;have e:32-n=32-n:=rfl;exact this)
 clear c;refine fz dKk A Tryz.func391 ?_;cbv;rw[e1];refine⟨s.1,?_⟩;cbv;rw[f];refine⟨s.2,?_⟩;cbv;exact r
theorem rN{m:Int}{x:W}(f:lp z x)(h0:0<n)(d:n<32)(c:m=(n:Int))(b:∀w,lp w (rr x n)->k (.int .u32 w) h):
 Ct 383 [.int .u32 z,.int .i64 m] h k:=by
 obtain⟨A,a⟩:=Ar.ex;have v:A .aT .sub .i64 0 m=-(n:Int):=by rw[a.aT,c];show IntKind.i64.wrap (0-(n:Int))=_;rw[IntWalk.i64_in _ (by omega)];omega
 refine fz dKl A Tryz.func383 ?_;cbv;refine fJR f h0 d v (λw e=>?_);have:=b w e;cbv;exact this
def wl(g:Nat->Int):List Value:=[.int .u32 (g 0),.int .u32 (g 1),.int .u32 (g 2),.int .u32 (g 3),.int .u32 (g 4),.int .u32 (g 5),.int .u32 (g 6),.int .u32 (g 7),.int .u32 (g 8),.int .u32 (g 9),.int .u32 (g 10),.int .u32 (g 11),.int .u32 (g 12),.int .u32 (g 13),.int .u32 (g 14),.int .u32 (g 15),.int .u32 (g 16),.int .u32 (g 17),.int .u32 (g 18),.int .u32 (g 19),.int .u32 (g 20),.int .u32 (g 21),.int .u32 (g 22),.int .u32 (g 23),.int .u32 (g 24),.int .u32 (g 25),.int .u32 (g 26),.int .u32 (g 27),.int .u32 (g 28),.int .u32 (g 29),.int .u32 (g 30),.int .u32 (g 31),.int .u32 (g 32),.int .u32 (g 33),.int .u32 (g 34),.int .u32 (g 35),.int .u32 (g 36),.int .u32 (g 37),.int .u32 (g 38),.int .u32 (g 39),.int .u32 (g 40),.int .u32 (g 41),.int .u32 (g 42),.int .u32 (g 43),.int .u32 (g 44),.int .u32 (g 45),.int .u32 (g 46),.int .u32 (g 47),.int .u32 (g 48),.int .u32 (g 49),.int .u32 (g 50),.int .u32 (g 51),.int .u32 (g 52),.int .u32 (g 53),.int .u32 (g 54),.int .u32 (g 55),.int .u32 (g 56),.int .u32 (g 57),.int .u32 (g 58),.int .u32 (g 59),.int .u32 (g 60),.int .u32 (g 61),.int .u32 (g 62),.int .u32 (g 63)]
theorem Ek(g:Nat->Int):wl g=(List.range 64).map λi=>Value.int .u32 (g i):=rfl
theorem Vq(g:Nat->Int)(h:i<64):(wl g)[i]? =some (.int .u32 (g i)):=by rw[Ek,kS,List.getElem?_range h];rfl
theorem cKD{xs:List W}(r:Go.Sx.Rows pF h c 0 xs)(e:c.length=64)(hx:xs.length=64):∃g,c=wl g/\∀i x,xs[i]? =some x->lp (g i) x:=by
 refine⟨λi=>match c[i]? with|some (.int _ z)=>z|_=>0,?_,λi x O=>?_⟩
 .rw[Ek];apply yr;intro i;rw[kS];by_cases d:i<64
  .rw[List.getElem?_range d];obtain⟨x,b⟩:=cB xs i;obtain⟨z,a,w⟩:=r.at b;have S:=congrArg (λl=>l[0]?) a;simp only[qH,rB]at S;have n:pF.n=1:=rfl;rw[n]at S;simp at S;simp[S]
  rw[yo (by omega),yo (by simp;omega)];rfl
 obtain⟨z,a,w⟩:=r.at O;have S:=congrArg (λl=>l[0]?) a;simp only[qH,rB]at S;have n:pF.n=1:=rfl;rw[n]at S;simp at S;simp[S,w]
theorem oL[a:bI A]{T:Nat}{k:List Value->Prop}(q:h n=some (.cells (wl g).toArray T fr))(d:aZ z i)(b:i<64)(c:k [.int .u32 (g i)]):
 zF h (A .je (zsA n) z 1) 1 k:=by
 have e:A .je (zsA n) z 1=⟨n,i,none⟩:=by rw[a.je,d.eq];simp[je,cI]
 rw[e];refine⟨_,⟨rfl,rfl,_,_,_,q,λj f=>?_⟩,c⟩;have:j=0:=by omega
 subst this;simpa using Vq g b
theorem fI[a:bI A]{T:Nat}{v:Value}{k:List Value->Prop}(d:z=(i:Int))(q:h n=some (.cells (List.toArray c) T fr))(hx:c[i]? =some v)(b:k [v]):
 zF h (A .je (zsA n) z 1) 1 k:=by
 have e:A .je (zsA n) z 1=⟨n,i,none⟩:=by rw[a.je,d];simp[je,cI]
 rw[e];refine⟨_,⟨rfl,rfl,_,_,_,q,λj f=>?_⟩,b⟩;have:j=0:=by omega
 subst this;simpa using hx
theorem dXh(a:∀g:Nat->Int,(∀i,i<64->lp (g i) (GM.getD i 0))->k (.agg (wl g).toArray) h):Ct 382 [] h k:=by
 have r:=a (λi=>((GM.getD i 0).toNat:Int)) (λi c=>⟨rfl⟩);clear a;have e:wl (λi=>((GM.getD i 0).toNat:Int))=[.int .u32 1116352408,.int .u32 1899447441,.int .u32 3049323471,.int .u32 3921009573,.int .u32 961987163,.int .u32 1508970993,.int .u32 2453635748,.int .u32 2870763221,.int .u32 3624381080,.int .u32 310598401,.int .u32 607225278,.int .u32 1426881987,.int .u32 1925078388,.int .u32 2162078206,.int .u32 2614888103,.int .u32 3248222580,.int .u32 3835390401,.int .u32 4022224774,.int .u32 264347078,.int .u32 604807628,.int .u32 770255983,.int .u32 1249150122,.int .u32 1555081692,.int .u32 1996064986,.int .u32 2554220882,.int .u32 2821834349,.int .u32 2952996808,.int .u32 3210313671,.int .u32 3336571891,.int .u32 3584528711,.int .u32 113926993,.int .u32 338241895,.int .u32 666307205,.int .u32 773529912,.int .u32 1294757372,.int .u32 1396182291,.int .u32 1695183700,.int .u32 1986661051,.int .u32 2177026350,.int .u32 2456956037,.int .u32 2730485921,.int .u32 2820302411,.int .u32 3259730800,.int .u32 3345764771,.int .u32 3516065817,.int .u32 3600352804,.int .u32 4094571909,.int .u32 275423344,.int .u32 430227734,.int .u32 506948616,.int .u32 659060556,.int .u32 883997877,.int .u32 958139571,.int .u32 1322822218,.int .u32 1537002063,.int .u32 1747873779,.int .u32 1955562222,.int .u32 2024104815,.int .u32 2227730452,.int .u32 2361852424,.int .u32 2428436474,.int .u32 2756734187,.int .u32 3204031479,.int .u32 3329325298]:=by kernel_rfl
 rw[e]at r;clear e;refine cg dKm Tryz.func382 λA b=>?_;cbv;exact r
def El(a b c d e f g h:Int):List Value:=[.int .u32 a,.int .u32 b,.int .u32 c,.int .u32 d,.int .u32 e,.int .u32 f,.int .u32 g,.int .u32 h]
structure Vg(a b c d e f g h:Int)(s:W8):Prop where
 a:lp a s.a
 b:lp b s.b
 c:lp c s.c
 d:lp d s.d
 e:lp e s.e
 f:lp f s.f
 g:lp g s.g
 h:lp h s.h
theorem cZd(j:∀a b c d e f g i,Vg a b c d e f g i lS->k (.agg (El a b c d e f g i).toArray) h):Ct 368 [] h k:=by have r:=j _ _ _ _ _ _ _ _ ⟨⟨rfl⟩,⟨rfl⟩,⟨rfl⟩,⟨rfl⟩,⟨rfl⟩,⟨rfl⟩,⟨rfl⟩,⟨rfl⟩⟩;clear j;refine cg dKr Tryz.func368 λA l=>?_;cbv;exact r
def RW(l:Bs)(i:Nat):List W:=(List.range i).map (wF l)++List.replicate (64-i) 0
theorem IE(l:Bs)(h:i<=64):(RW l i).length=64:=by unfold RW;simp;omega
theorem zU(l:Bs)(h:j<i):(RW l i)[j]? =some (wF l j):=by unfold RW;rw[kQa (by simpa using h),kS,List.getElem?_range h];rfl
theorem PI(l:Bs)(a:i<64):(RW l i).set i (wF l i)=RW l (i+1):=by
 unfold RW;rw[kQN _ _ (by simp),vi,kQw,GD,List.range_succ,jKH,ym];congr 1;obtain⟨m,h⟩:∃m,64-i=m+1:=⟨63-i,by omega⟩;have:64-(i+1)=m:=by omega
 rw[h,this];rfl
theorem HG{T:Nat}{f:Nat->W}(q:h n=zcL T (wl g))(b:∀i,i<64->lp (g i) (f i)):cZ T pF h n 64 ((List.range 64).map f):=by
 refine⟨⟨wl g,q,⟨?_,λi x hx=>?_⟩,rfl⟩,by simp,by simp⟩
 .simp[Ek,pF]
 have a:i<64:=by have:=(ff.1 hx).1;simpa using this
 rw[kS,List.getElem?_range a]at hx;cases hx;refine⟨g i,?_,b i a⟩;have w:=Vq g a;show((wl g).drop (0+i*1)).take 1=_;rw[tT,jKp];apply yr;intro j;rw[qH,rB];by_cases c:j<1
 .have:j=0:=by omega
  subst this;simpa using w
 rw[if_neg c,yo (by simp;omega)]
theorem Hh{T:Nat}{xs:List W}(o:cZ T pF h n 64 xs)(hx:xs.length=64):∃g,h n=zcL T (wl g)/\∀i x,xs[i]? =some x->lp (g i) x:=by obtain⟨c,a,b,d⟩:=o.out;obtain⟨g,rfl,e⟩:=cKD b (by simpa[pF]using d) hx;exact⟨g,a,e⟩
theorem aXw{c:Nat}{l:Bs}(q:Sl e1 cj h (.slice b n c) l)(hn:l.length=64)(hk:∀h' (g:Nat->Int),Le h h'->(∀i,i<64->lp (g i) (wF l i))->k (.agg (wl g).toArray) h'):
 Ct 381 [.slice b n c] h k:=by
 have aw:=q.len;have V:b.isSome=true:=q.bp;refine cg dKn Tryz.func381 λA hA=>?_;cbv;intro p h1 fh e1;have l1:Le h h1:=by rw[e1];exact Le.set fh
 have o1:cZ 355 pF h1 p 64 (RW l 0):=HG (g:=λ_=>0) (f:=λ_=>0) ((congrFun e1 p).trans ae) (λ_ _=>⟨rfl⟩);obtain⟨J,D⟩:∃J:Nat->Nat->Int->ad->Prop,∀m w g h',J m w g h'=(∃i:Nat,aZ g i/\w=m-i/\i<=m/\(m=64->16<=i)/\Le h h'/\cZ 355 pF h' p 64 (RW l i)):=⟨_,λ_ _ _ _=>rfl⟩;have dL:J 16 16 0 h1:=by rw[D];exact⟨0,⟨rfl⟩,rfl,by omega,by omega,l1,o1⟩
 clear e1 o1;cbv;refine aX.go (G:=Int) (λg=>[(8,.v (.int .i64 g))]) (λ_=>[(2,List.replicate 64 (.int .u32 0))]) (λw g h'=>J 16 w g h') 16 0 (by constructor<;>cbv) dL ?_
 intro w z h2 I;rw[D]at I;cbv;obtain⟨i,d,hw,hi,-,l2,o2⟩:=I;have r:A .aN .lss z 16=decide (i<16):=by rw[aR A,d.eq];exact decide_eq_decide.2 (by omega)
 rw[r];by_cases t:i<16
 .rw[ak t];have M:=q.mono (l2.t _);obtain⟨x0,uY⟩:=cB l (4*i);obtain⟨x1,Q⟩:=cB l (4*i+1);obtain⟨x2,XN⟩:=cB l (4*i+2);obtain⟨x3,UO⟩:=cB l (4*i+3);have F:aZ (A .aT .mul .i64 4 z) (4*i):=⟨by
   rw[hA.aT,d.eq];show IntKind.i64.wrap (4*(i:Int))=_;rw[IntWalk.i64_in _ (by omega)];omega⟩
  have m1:=F.succ (A:=A);have m2:=F.add (A:=A) (w:=2) (j:=2) ⟨rfl⟩ (by omega);have m3:=F.add (A:=A) (w:=3) (j:=3) ⟨rfl⟩ (by omega);have c0:0<=A .aT .mul .i64 4 z/\A .aT .mul .i64 4 z<(n:Int):=F.ix (by omega);have c1:=m1.ix (len:=n) (by omega);have P:=m2.ix (len:=n) (by omega);have c3:=m3.ix (len:=n) (by omega);have W:=d.ix (len:=64) (by omega);have O:wF l i=BitVec.ofNat 32 x0.toNat <<< 24|||BitVec.ofNat 32 x1.toNat <<< 16|||BitVec.ofNat 32 x2.toNat <<< 8|||BitVec.ofNat 32 x3.toNat:=by rw[wF,if_pos t];unfold Vp bw;rw[yz,yz,yz,yz,uY,Q,XN,UO];rfl
  have H:∀h',Le h h'->cZ 355 pF h' p 64 ((RW l i).set i (wF l i))->J 16 (16-(i+1)) (A .aT .add .i64 z 1) h':=λh' l' o'=>by
   rw[D];rw[PI l (by omega)]at o';exact⟨i+1,d.succ (A:=A),rfl,by omega,by omega,l',o'⟩
  have U:16-(i+1)<w:=by omega
  have nF:i<(RW l i).length:=by rw[IE l (by omega)];omega
  obtain⟨y0,C⟩:∃y:Int,y=(x0.toNat:Int):=⟨_,rfl⟩;obtain⟨y1,X⟩:∃y:Int,y=(x1.toNat:Int):=⟨_,rfl⟩;obtain⟨y2,uB⟩:∃y:Int,y=(x2.toNat:Int):=⟨_,rfl⟩;obtain⟨y3,Ta⟩:∃y:Int,y=(x3.toNat:Int):=⟨_,rfl⟩;have hR:lp (A .aT .or .u32 (A .aT .or .u32 (A .aT .or .u32 (A .aT .shl .u32 (A .conv .u32 y0) 24) (A .aT .shl .u32 (A .conv .u32 y1) 16)) (A .aT .shl .u32 (A .conv .u32 y2) 8)) (A .conv .u32 y3)) (wF l i):=by rw[O];exact((((lp.bQO (A:=A) C).shl (A:=A) (n:=24) (i:=24) ⟨rfl⟩ (by decide)).or (A:=A) ((lp.bQO (A:=A) X).shl (A:=A) (n:=16) (i:=16) ⟨rfl⟩ (by decide))).or (A:=A) ((lp.bQO (A:=A) uB).shl (A:=A) (n:=8) (i:=8) ⟨rfl⟩ (by decide))).or (A:=A) (lp.bQO (A:=A) Ta)
  clear r D O;cbv;refine⟨⟨V,c0⟩,?_⟩;cbv;refine M.load uY F.eq (λcs a=>?_);have a:cs=[.int .u8 y0]:=by rw[C];exact a
  subst a;cbv;refine⟨by decide,?_⟩;cbv;refine⟨⟨V,c1⟩,?_⟩;cbv;refine M.load Q m1.eq (λcs a=>?_);have a:cs=[.int .u8 y1]:=by rw[X];exact a
  subst a;cbv;refine⟨by decide,?_⟩;cbv;refine⟨⟨V,P⟩,?_⟩;cbv;refine M.load XN m2.eq (λcs a=>?_);have a:cs=[.int .u8 y2]:=by rw[uB];exact a
  subst a;cbv;refine⟨by decide,?_⟩;cbv;refine⟨⟨V,c3⟩,?_⟩;cbv;refine M.load UO m3.eq (λcs a=>?_);have a:cs=[.int .u8 y3]:=by rw[Ta];exact a
  subst a;cbv;refine⟨W,?_⟩;cbv;refine o2.setAt (s:=pF) (by simp[pF]) nF d.eq rfl (x:=wF l i) ⟨_,rfl,hR⟩ (λh3 k3 _ L=>?_);have K:=H h3 (l2.aV (bs:=[p]) (by simpa using fh) k3) L;clear H;cbv;refine⟨16-(i+1),A .aT .add .i64 z 1,U,by constructor<;>cbv,K⟩
 have ao:i=16:=by omega
 subst ao;have H:J 64 48 16 h2:=by rw[D];exact⟨16,⟨rfl⟩,rfl,by omega,λ_=>by omega,l2,o2⟩
 rw[bn t];clear r o2;cbv;refine aX.go (G:=Int) (λg=>[(5,.v (.int .i64 g))]) (λ_=>[(2,List.replicate 64 (.int .u32 0))]) (λw g h'=>J 64 w g h') 48 16 (by constructor<;>cbv) H ?_
 intro w z h3 I;rw[D]at I;cbv;obtain⟨i,d,hw,hi,B,l3,L⟩:=I;have B:=B rfl;have r:A .aN .lss z 64=decide (i<64):=by rw[aR A,d.eq];exact decide_eq_decide.2 (by omega)
 obtain⟨g,o,N⟩:=Hh L (IE l hi);rw[r];by_cases t:i<64
 .rw[ak t];have E:=d.sub (A:=A) (w:=15) (j:=15) ⟨rfl⟩ (by omega) (by omega);have i2:=d.sub (A:=A) (w:=2) (j:=2) ⟨rfl⟩ (by omega) (by omega);have e:=d.sub (A:=A) (w:=16) (j:=16) ⟨rfl⟩ (by omega) (by omega);have u:=d.sub (A:=A) (w:=7) (j:=7) ⟨rfl⟩ (by omega) (by omega);have T:=N _ _ (zU l (i:=i) (j:=i-15) (by omega));have g2:=N _ _ (zU l (i:=i) (j:=i-2) (by omega));have ab:=N _ _ (zU l (i:=i) (j:=i-16) (by omega));have g7:=N _ _ (zU l (i:=i) (j:=i-7) (by omega));have an:=E.ix (len:=64) (by omega);have P:=i2.ix (len:=64) (by omega);have al:=e.ix (len:=64) (by omega);have c7:=u.ix (len:=64) (by omega);have W:=d.ix (len:=64) (by omega);have O:wF l i=wF l (i-16)+fJM (wF l (i-15))+wF l (i-7)+fJL (wF l (i-2)):=by rw[wF,if_neg (by omega),if_pos (by omega)]
  have K:∀h',Le h h'->cZ 355 pF h' p 64 ((RW l i).set i (wF l i))->J 64 (64-(i+1)) (A .aT .add .i64 z 1) h':=λh' l' o'=>by
   rw[D];rw[PI l (by omega)]at o';exact⟨i+1,d.succ (A:=A),rfl,by omega,by omega,l',o'⟩
  have U:64-(i+1)<w:=by omega
  have nF:i<(RW l i).length:=by rw[IE l (by omega)];omega
  have ag:i-15<64:=by omega
  have b2:i-2<64:=by omega
  have Z:i-16<64:=by omega
  have v:i-7<64:=by omega
  clear r D N;cbv;refine⟨an,?_⟩;cbv;refine oL o E ag ?_;cbv;refine⟨P,?_⟩;cbv;refine oL o i2 b2 ?_;cbv;refine⟨al,?_⟩;cbv;refine oL o e Z ?_;cbv;refine⟨by decide,?_⟩;cbv;refine⟨c7,?_⟩;cbv;refine oL o u v ?_;cbv;refine⟨by decide,?_⟩;cbv;refine rN T (n:=7) (by decide) (by decide) rfl (λw1 Nm=>?_);cbv;repeat (first|(refine oL o u v ?_;cbv)|(refine oL o e Z ?_;cbv)|(refine⟨⟨_,rfl,rfl⟩,?_⟩;cbv))
  refine rN T (n:=18) (by decide) (by decide) rfl (λw2 HP=>?_);cbv;repeat (first|(refine oL o u v ?_;cbv)|(refine oL o e Z ?_;cbv)|(refine⟨⟨_,rfl,rfl⟩,?_⟩;cbv))
  refine rN g2 (n:=17) (by decide) (by decide) rfl (λw3 R=>?_);cbv;repeat (first|(refine oL o u v ?_;cbv)|(refine oL o e Z ?_;cbv)|(refine⟨⟨_,rfl,rfl⟩,?_⟩;cbv))
  refine rN g2 (n:=19) (by decide) (by decide) rfl (λw4 Y=>?_);cbv;repeat (first|(refine oL o u v ?_;cbv)|(refine oL o e Z ?_;cbv)|(refine⟨⟨_,rfl,rfl⟩,?_⟩;cbv))
  refine⟨W,?_⟩;cbv;have hR:=(((ab.add (A:=A) ((Nm.xor (A:=A) HP).xor (A:=A) (T.shr (A:=A) (n:=3) (i:=3) ⟨rfl⟩ (by decide)))).add (A:=A) g7).add (A:=A) ((R.xor (A:=A) Y).xor (A:=A) (g2.shr (A:=A) (n:=10) (i:=10) ⟨rfl⟩ (by decide))));refine L.setAt (s:=pF) (by simp[pF]) nF d.eq rfl (x:=wF l i) ⟨_,rfl,by rw[O];exact hR⟩ (λh4 k4 _ o4=>?_);have aq:=K h4 (l3.aV (bs:=[p]) (by simpa using fh) k4) o4;clear K;cbv;refine⟨64-(i+1),A .aT .add .i64 z 1,U,by constructor<;>cbv,aq⟩
 have S:i=64:=by omega
 subst S;have:=hk h3 g l3 (λj hj=>N j _ (zU l hj));rw[bn t];clear hk N;cbv;refine cr o ?_;cbv;exact this
def Bg(t s:W8)(i:Nat):List W:=(List.range 8).map λj=>if j<i then t.l.getD j 0+s.l.getD j 0 else t.l.getD j 0
theorem ZT(t s:W8):Bg t s 8=(t.add s).l:=rfl
theorem MP(t s:W8)(h:i<8):(Bg t s i).set i (t.l.getD i 0+s.l.getD i 0)=Bg t s (i+1):=by
 have:i=0\/i=1\/i=2\/i=3\/i=4\/i=5\/i=6\/i=7:=by omega
 rcases this with rfl|rfl|rfl|rfl|rfl|rfl|rfl|rfl<;>rfl
theorem MQ(t s:W8)(h:i<8):(Bg t s i)[i]? =some (t.l.getD i 0):=by unfold Bg;rw[kS,List.getElem?_range h];simp
theorem Em{T:Nat}{a b c d e f g i:Int}(q:h n=zcL T (El a b c d e f g i))(k:Vg a b c d e f g i s):cZ T pF h n 8 s.l:=by
 refine⟨⟨_,q,⟨kB _,λj x hx=>?_⟩,rfl⟩,kB _,by simp[W8.l]⟩;have l:j<8:=(ff.1 hx).1;have:j=0\/j=1\/j=2\/j=3\/j=4\/j=5\/j=6\/j=7:=by omega
 rcases this with rfl|rfl|rfl|rfl|rfl|rfl|rfl|rfl<;>cases hx
 .exact⟨_,rfl,k.a⟩
 .exact⟨_,rfl,k.b⟩
 .exact⟨_,rfl,k.c⟩
 .exact⟨_,rfl,k.d⟩
 .exact⟨_,rfl,k.e⟩
 .exact⟨_,rfl,k.f⟩
 .exact⟨_,rfl,k.g⟩
 exact⟨_,rfl,k.h⟩
theorem Vs{T:Nat}(o:cZ T pF h n 8 s.l):∃a b c d e f g i,h n=zcL T (El a b c d e f g i)/\Vg a b c d e f g i s:=by
 obtain⟨cs,m,p,k⟩:=o.out;have k:cs.length=8:=k;have key:∀j x,s.l[j]? =some x->∃z,cs[j]? =some (Value.int .u32 z)/\lp z x:=λj x hx=>by
  obtain⟨z,C,B⟩:=p.at hx;have S:=congrArg (λl=>l[0]?) C;simp only[qH,rB]at S;have A:pF.n=1:=rfl;rw[A]at S;exact⟨z,by simpa using S,B⟩
 obtain⟨a,q,D⟩:=key 0 _ rfl;obtain⟨b,r,E⟩:=key 1 _ rfl;obtain⟨c,t,F⟩:=key 2 _ rfl;obtain⟨d,hd,G⟩:=key 3 _ rfl;obtain⟨e,u,H⟩:=key 4 _ rfl;obtain⟨f,v,I⟩:=key 5 _ rfl;obtain⟨g,w,J⟩:=key 6 _ rfl;obtain⟨i,y,K⟩:=key 7 _ rfl;refine⟨a,b,c,d,e,f,g,i,?_,⟨D,E,F,G,H,I,J,K⟩⟩;rw[m];have:cs=El a b c d e f g i:=by
  apply yr;intro j;by_cases L:j<8
  .have:j=0\/j=1\/j=2\/j=3\/j=4\/j=5\/j=6\/j=7:=by omega
   rcases this with rfl|rfl|rfl|rfl|rfl|rfl|rfl|rfl<;>(first|rw[q] |rw[r] |rw[t] |rw[hd] |rw[u] |rw[v] |rw[w] |rw[y])<;>rfl
  rw[yo (by omega),yo (by show 8<=j;omega)]
 rw[this]
theorem IU(z:Value)(g:Nat->Int):ia (List.replicate 64 z) 0 (wl g)=wl g:=by kernel_rfl
theorem mM{m:Nat}{o:Obj}(a:h m=some o)(b:h n=none):m≠n:=λe=>by rw[e,b]at a;cases a
theorem gKE{P a1 a2 Q R S T U:Int}(hs:Vg P a1 a2 Q R S T U s){c:Nat}{l:Bs}(q:Sl e1 cj h (.slice b n c) l)(hn:l.length=64)
 (hk:∀h' B C D V E F H W,Le h h'->Vg B C D V E F H W (Ha s l)->k (.agg (El B C D V E F H W).toArray) h'):
 Ct 370 [.agg (El P a1 a2 Q R S T U).toArray,.slice b n c] h k:=by
 refine cg dKp Tryz.func370 λA hA=>?_;cbv;intro K h1 eU e2;have l1:Le h h1:=by rw[e2];exact Le.set eU
 have m:h1 K=zcL 509 (El P a1 a2 Q R S T U):=(congrFun e2 K).trans ae;clear e2;cbv;refine aXw (q.mono (l1.t _)) hn (λh2 g X hg=>?_);have m:=X _ _ m;have X:=l1.trans X;cbv;refine dXh (λkg aG=>?_);cbv;intro u h3 LU M;have Ok:Le h2 h3:=M ▸ Le.set LU;have l3:=X.trans Ok;have aB:=m;have aq:=Ok _ _ m;have m:=aq;have f:h3 u=zcL 355 (List.replicate 64 (.int .u32 0)):=(congrFun M u).trans ae;have aW:=f;clear M;cbv;intro v h4 LS N;have yy:Le h3 h4:=N ▸ Le.set LS;have o:h4 v=zcL 355 (List.replicate 64 (.int .u32 0)):=(congrFun N v).trans ae;have aC:K≠u:=mM aB LU;clear N;have m:=yy _ _ m;have f:=yy _ _ f;have aD:K≠v:=mM aq LS;have ag:u≠v:=mM aW LS;have z5:=X.none LU;have z6:=l3.none LS;have l4:=l3.trans yy;cbv;refine ju f (kB _) (λh5 M=>?_);have k5:Kp [u] h4 h5:=by rw[M];exact Kp.set (by simp)
 have f:h5 u=zcL 355 (wl g):=by rw[M,ae];exact congrArg (λc=>some (Obj.cells (List.toArray c) 355 (0,0))) (IU _ g)
 have m:=k5 _ _ m (by simpa using aC);have o:=k5 _ _ o (by simpa using Ne.symm ag);have l5:=l4.aV (bs:=[u]) (by simpa using z5) k5;clear M k5;cbv;refine ju o (kB _) (λh6 N=>?_);have k6:Kp [v] h5 h6:=by rw[N];exact Kp.set (by simp)
 have o:h6 v=zcL 355 (wl kg):=by rw[N,ae];exact congrArg (λc=>some (Obj.cells (List.toArray c) 355 (0,0))) (IU _ kg)
 have m:=k6 _ _ m (by simpa using aD);have f:=k6 _ _ f (by simpa using ag);have l6:=l5.aV (bs:=[v]) (by simpa using z6) k6;clear N k6;cbv;refine cr m ?_;cbv;intro p h7 Z e7;have GL:Le h6 h7:=e7 ▸ Le.set Z;have a:h7 p=zcL 509 (List.replicate 8 (.int .u32 0)):=(congrFun e7 p).trans ae;have L:K≠p:=mM m Z;have al:u≠p:=mM f Z;have an:v≠p:=mM o Z;have z7:=l6.none Z;have l7:=l6.trans GL;have m:=GL _ _ m;have f:=GL _ _ f;have o:=GL _ _ o;clear e7 GL;cbv;refine ju a (kB _) (λd e8=>?_);have k8:Kp [p] h7 d:=by rw[e8];exact Kp.set (by simp)
 have a:d p=zcL 509 (El P a1 a2 Q R S T U):=by rw[e8,ae];rfl
 have m:=k8 _ _ m (by simpa using L);have f:=k8 _ _ f (by simpa using al);have o:=k8 _ _ o (by simpa using an);have l8:=l7.aV (bs:=[p]) (by simpa using z7) k8;clear e8 k8;obtain⟨J,bD⟩:∃J:Nat->Int->ad->Prop,∀w z h',J w z h'=(∃i B C D V E F H W,aZ z i/\w=64-i/\i<=64/\Le h h'/\h' K=zcL 509 (El P a1 a2 Q R S T U)/\h' u=zcL 355 (wl g)/\h' v=zcL 355 (wl kg)/\
  h' p=zcL 509 (El B C D V E F H W)/\Vg B C D V E F H W (yu l s i)):=⟨_,λ_ _ _=>rfl⟩
 have dL:J 64 0 d:=by rw[bD];exact⟨0,_,_,_,_,_,_,_,_,⟨rfl⟩,rfl,by omega,l8,m,f,o,a,hs⟩
 clear m f o a l8 l7 l6 l5 l4 l3 X yy;cbv;refine aX.go (G:=Int) (λz=>[(18,.v (.int .i64 z))]) (λ_=>[(4,List.replicate 8 (.int .u32 0))]) (λw z h'=>J w z h') 64 0 (by constructor<;>cbv) dL ?_
 intro w z h9 hI;rw[bD]at hI;cbv;obtain⟨i,B,C,D,V,E,F,H,W,j,hw,hi,l9,m,f,o,a,d⟩:=hI;have O:A .aN .lss z 64=decide (i<64):=by rw[aR A,j.eq];exact decide_eq_decide.2 (by omega)
 rw[O];by_cases e:i<64
 .rw[ak e];have r:=j.ix (len:=64) (by omega);have gk:=aG i e;have gw:=hg i e;have bX:∀h' x y,Le h h'->h' K=zcL 509 (El P a1 a2 Q R S T U)->h' u=zcL 355 (wl g)->h' v=zcL 355 (wl kg)->
   h' p=zcL 509 (El x B C D y E F H)->Vg x B C D y E F H (bJg (yu l s i) (GM.getD i 0) (wF l i))->J (64-(i+1)) (A .aT .add .i64 z 1) h':=λh' x y l' q2 q5 q6 Y q8=>by
   rw[bD];exact⟨i+1,_,_,_,_,_,_,_,_,j.succ (A:=A),rfl,by omega,l',q2,q5,q6,Y,q8⟩
  have aU:64-(i+1)<w:=by omega
  clear bD dL O;generalize yu l s i=t at *;cbv;repeat ((first|refine fI (i:=4) rfl a rfl ?_|refine fI (i:=0) rfl a rfl ?_|refine fI (i:=7) rfl a rfl ?_|refine fI (i:=5) rfl a rfl ?_|refine fI (i:=6) rfl a rfl ?_|refine fI (i:=1) rfl a rfl ?_|refine fI (i:=2) rfl a rfl ?_|refine fI (i:=3) rfl a rfl ?_|refine oL o j e ?_|refine oL f j e ?_|refine⟨by decide,?_⟩ |refine⟨r,?_⟩ |refine⟨⟨_,rfl,rfl⟩,?_⟩);cbv)
  refine rN d.e (n:=6) (by decide) (by decide) rfl (λw6 aw=>?_);cbv;repeat ((first|refine fI (i:=4) rfl a rfl ?_|refine fI (i:=0) rfl a rfl ?_|refine fI (i:=7) rfl a rfl ?_|refine fI (i:=5) rfl a rfl ?_|refine fI (i:=6) rfl a rfl ?_|refine fI (i:=1) rfl a rfl ?_|refine fI (i:=2) rfl a rfl ?_|refine fI (i:=3) rfl a rfl ?_|refine oL o j e ?_|refine oL f j e ?_|refine⟨by decide,?_⟩ |refine⟨r,?_⟩ |refine⟨⟨_,rfl,rfl⟩,?_⟩);cbv)
  refine rN d.e (n:=11) (by decide) (by decide) rfl (λbc ax=>?_);cbv;repeat ((first|refine fI (i:=4) rfl a rfl ?_|refine fI (i:=0) rfl a rfl ?_|refine fI (i:=7) rfl a rfl ?_|refine fI (i:=5) rfl a rfl ?_|refine fI (i:=6) rfl a rfl ?_|refine fI (i:=1) rfl a rfl ?_|refine fI (i:=2) rfl a rfl ?_|refine fI (i:=3) rfl a rfl ?_|refine oL o j e ?_|refine oL f j e ?_|refine⟨by decide,?_⟩ |refine⟨r,?_⟩ |refine⟨⟨_,rfl,rfl⟩,?_⟩);cbv)
  refine rN d.e (n:=25) (by decide) (by decide) rfl (λbd ay=>?_);cbv;repeat ((first|refine fI (i:=4) rfl a rfl ?_|refine fI (i:=0) rfl a rfl ?_|refine fI (i:=7) rfl a rfl ?_|refine fI (i:=5) rfl a rfl ?_|refine fI (i:=6) rfl a rfl ?_|refine fI (i:=1) rfl a rfl ?_|refine fI (i:=2) rfl a rfl ?_|refine fI (i:=3) rfl a rfl ?_|refine oL o j e ?_|refine oL f j e ?_|refine⟨by decide,?_⟩ |refine⟨r,?_⟩ |refine⟨⟨_,rfl,rfl⟩,?_⟩);cbv)
  refine rN d.a (n:=2) (by decide) (by decide) rfl (λw2 HP=>?_);cbv;repeat ((first|refine fI (i:=4) rfl a rfl ?_|refine fI (i:=0) rfl a rfl ?_|refine fI (i:=7) rfl a rfl ?_|refine fI (i:=5) rfl a rfl ?_|refine fI (i:=6) rfl a rfl ?_|refine fI (i:=1) rfl a rfl ?_|refine fI (i:=2) rfl a rfl ?_|refine fI (i:=3) rfl a rfl ?_|refine oL o j e ?_|refine oL f j e ?_|refine⟨by decide,?_⟩ |refine⟨r,?_⟩ |refine⟨⟨_,rfl,rfl⟩,?_⟩);cbv)
  refine rN d.a (n:=13) (by decide) (by decide) rfl (λbk aF=>?_);cbv;repeat ((first|refine fI (i:=4) rfl a rfl ?_|refine fI (i:=0) rfl a rfl ?_|refine fI (i:=7) rfl a rfl ?_|refine fI (i:=5) rfl a rfl ?_|refine fI (i:=6) rfl a rfl ?_|refine fI (i:=1) rfl a rfl ?_|refine fI (i:=2) rfl a rfl ?_|refine fI (i:=3) rfl a rfl ?_|refine oL o j e ?_|refine oL f j e ?_|refine⟨by decide,?_⟩ |refine⟨r,?_⟩ |refine⟨⟨_,rfl,rfl⟩,?_⟩);cbv)
  refine rN d.a (n:=22) (by decide) (by decide) rfl (λbj aE=>?_);cbv;repeat ((first|refine fI (i:=4) rfl a rfl ?_|refine fI (i:=0) rfl a rfl ?_|refine fI (i:=7) rfl a rfl ?_|refine fI (i:=5) rfl a rfl ?_|refine fI (i:=6) rfl a rfl ?_|refine fI (i:=1) rfl a rfl ?_|refine fI (i:=2) rfl a rfl ?_|refine fI (i:=3) rfl a rfl ?_|refine oL o j e ?_|refine oL f j e ?_|refine⟨by decide,?_⟩ |refine⟨r,?_⟩ |refine⟨⟨_,rfl,rfl⟩,?_⟩);cbv)
  have hX:=((((d.h.add (A:=A) ((aw.xor (A:=A) ax).xor (A:=A) ay)).add (A:=A) ((d.e.and (A:=A) d.f).xor (A:=A) ((d.e.not (A:=A)).and (A:=A) d.g))).add (A:=A) gk).add (A:=A) gw);have hY:=((HP.xor (A:=A) aF).xor (A:=A) aE).add (A:=A) (((d.a.and (A:=A) d.b).xor (A:=A) (d.a.and (A:=A) d.c)).xor (A:=A) (d.b.and (A:=A) d.c));refine ju a (kB _) (λiw qF=>?_);have AD:Kp [p] h9 iw:=by rw[qF];exact Kp.set (by simp)
  have Y:iw p=zcL 509 (El _ B C D _ E F H):=(congrFun qF p).trans ae;have iD:=bX iw _ _ (l9.aV (bs:=[p]) (by simpa using z7) AD) (AD _ _ m (by simpa using L)) (AD _ _ f (by simpa using al)) (AD _ _ o (by simpa using an)) Y ⟨hX.add (A:=A) hY,d.a,d.b,d.c,d.d.add (A:=A) hX,d.e,d.f,d.g⟩;clear bX qF;cbv;refine⟨64-(i+1),A .aT .add .i64 z 1,aU,by constructor<;>cbv,iD⟩
 have aA:i=64:=by omega
 subst aA;generalize ht:yu l s 64=t at *;have ao:Ha s l=t.add s:=by unfold Ha;rw[ht]
 rw[ao]at hk;clear ao ht;rw[bn e];obtain⟨I,gQ⟩:∃I:Nat->Int->ad->Prop,∀w z h',I w z h'=(∃i,aZ z i/\w=8-i/\i<=8/\Le h h'/\cZ 509 pF h' K 8 s.l/\cZ 509 pF h' p 8 (Bg t s i)):=⟨_,λ_ _ _=>rfl⟩;have jU:I 8 0 h9:=by rw[gQ];exact⟨0,⟨rfl⟩,rfl,by omega,l9,Em m hs,Em a d⟩
 clear m f o a bD dL O;cbv;refine aX.go (G:=Int) (λz=>[(100,.v (.int .i64 z))]) (λ_=>[(4,List.replicate 8 (.int .u32 0))]) (λw z h'=>I w z h') 8 0 (by constructor<;>cbv) jU ?_
 intro w z iw hI;rw[gQ]at hI;cbv;obtain⟨i,j,hw,hi,gB,o2,o7⟩:=hI;have O:A .aN .lss z 8=decide (i<8):=by rw[aR A,j.eq];exact decide_eq_decide.2 (by omega)
 rw[O];by_cases e:i<8
 .rw[ak e];have r:=j.ix (len:=8) (by omega);have aU:8-(i+1)<w:=by omega
  have aI:=MQ t s e;have XN:s.l[i]? =some (s.l.getD i 0):=by rw[yz,zG (show i<s.l.length from e)];rfl
  have jT:∀h',Le h h'->cZ 509 pF h' K 8 s.l->cZ 509 pF h' p 8 ((Bg t s i).set i (t.l.getD i 0+s.l.getD i 0))->I (8-(i+1)) (A .aT .add .i64 z 1) h':=λh' l' q2 Y=>by
   rw[gQ];rw[MP t s e]at Y;exact⟨i+1,j.succ (A:=A),rfl,by omega,l',q2,Y⟩
  have nF:i<(Bg t s i).length:=by unfold Bg;simpa using e
  clear gQ jU O;cbv;refine⟨r,?_⟩;cbv;refine(o7.sl (n:=8) rfl).load aI j.eq (λcs ar=>?_);obtain⟨u7,rfl,aK⟩:=ar;cbv;refine⟨r,?_⟩;cbv;refine(o2.sl (n:=8) rfl).load XN j.eq (λcs ar=>?_);obtain⟨u2,rfl,XR⟩:=ar;cbv;refine⟨r,?_⟩;cbv;refine o7.setAt (s:=pF) (by simp[pF]) nF j.eq rfl ⟨_,rfl,aK.add (A:=A) XR⟩ (λoM ab _ aM=>?_);have AP:=jT oM (gB.aV (bs:=[p]) (by simpa using z7) ab) (o2.kp ab (by simpa using L) (λ_ _ _ _ hm _=>by cases hm)) aM;clear jT;cbv;refine⟨8-(i+1),A .aT .add .i64 z 1,aU,by constructor<;>cbv,AP⟩
 have aH:i=8:=by omega
 subst aH;rw[bn e];rw[ZT]at o7;obtain⟨c0,c1,c2,c3,c4,c5,c6,c7,a,w8⟩:=Vs o7;have:=hk iw c0 c1 c2 c3 c4 c5 c6 c7 gB w8;clear hk gQ jU O;cbv;refine cr a ?_;cbv;exact this
def aXc(n i:Nat):UInt8:=u8 ((n*8 % 2^64 / 2^(56-8*i):Nat):Int)
theorem xK(n:Nat):(MJ n).length=8:=rfl
theorem jXI[a:bI A](j:n<=2^40){N:Int}(e:aZ N (n*8))(f:aZ z i)(g:i<8):
 0<=A .aT .sub .i64 56 (A .aT .mul .i64 8 z)/\cj.R h [.int .u8 (A .conv .u8 (A .aT .shr .u64 N (A .aT .sub .i64 56 (A .aT .mul .i64 8 z))))] (aXc n i):=by
 have b:A .aT .mul .i64 8 z=((8*i:Nat):Int):=by rw[a.aT,f.eq];show IntKind.i64.wrap (8*(i:Int))=_;rw[IntWalk.i64_in _ (by omega)];omega
 have c:A .aT .sub .i64 56 ((8*i:Nat):Int)=((56-8*i:Nat):Int):=by rw[a.aT];show IntKind.i64.wrap (56-((8*i:Nat):Int))=_;rw[IntWalk.i64_in _ (by omega)];omega
 have d:A .aT .shr .u64 N ((56-8*i:Nat):Int)=((n*8 % 2^64 / 2^(56-8*i):Nat):Int):=by rw[a.aT,e.eq];show((n*8:Nat):Int).fdiv (2^(min ((56-8*i:Nat):Int).toNat 64))=_;rw[show min ((56-8*i:Nat):Int).toNat 64=56-8*i by omega,jKN _ (Int.le_of_lt (Int.pow_pos (by decide))),Nat.mod_eq_of_lt (by omega)];norm_cast
 rw[b,c,d];exact⟨by omega,kQ _⟩
theorem aZm(l0:Le h0 h){c:Nat}{l:Bs}(q:bt 5 cj h0 h (.slice b n c) l)(hn:n<=2^38)
 (W:∀h' a n' c',Le h0 h'->(∀tys,5∉tys->cO tys h h')->bt 5 cj h0 h' (.slice a n' c') (EX l)->k (.slice a n' c') h'):
 Ct 369 [.slice b n c] h k:=by
 obtain⟨A,C⟩:=Ar.ex;have F:=q.sl.len;obtain⟨N,B⟩:∃N,N=A .aT .mul .u64 (A .conv .u64 (A .nat n)) 8:=⟨_,rfl⟩;have hN:aZ N (l.length*8):=⟨by
  rw[B,C.nat,C.conv,C.aT,<-F];show IntKind.u64.wrap (IntKind.u64.wrap (n:Int)*8)=_;rw[pk,pk];omega⟩
 obtain⟨J,D⟩:∃J:Nat->(Option Addr×Nat×Nat)->ad->Prop,∀w g h',J w g h'=(∃j,w=mZ l.length-j/\j<=mZ l.length/\Le h0 h'/\(∀tys,5∉tys->cO tys h h')/\bt 5 cj h0 h' (.slice g.1 g.2.1 g.2.2) (l++[128]++List.replicate j 0)):=⟨_,λ_ _ _=>rfl⟩;refine fz dKq A Tryz.func369 ?_;cbv;intro n1 h1 fh e1;have Z:Le h h1:=by rw[e1];exact Le.set fh
 have q1:=bf (s:=cj) (x:=128) ((congrFun e1 n1).trans ae) rfl;clear e1;cbv;refine(q.mono (Z.t _)).app q1 (by decide) rfl (by decide) (by omega) (l0.trans Z) (λm2 b2 c2 h2 zN l2 t2 k2 q2=>?_);have R:J (mZ l.length) (b2,m2,c2) h2:=by rw[D];exact⟨0,rfl,nr _,l2,λtys t=>(Z.t _).trans (t2 _ t),by simpa using q2⟩
 clear k2;cbv;rw[<-B];refine aX.go (G:=Option Addr×Nat×Nat) (λg=>[(0,.v (.slice g.1 g.2.1 g.2.2))]) (λ_=>[]) (λw g h'=>J w g h') (mZ l.length) (b2,m2,c2) (by constructor<;>cbv) R ?_
 intro w g L E;rw[D]at E;cbv;obtain⟨p,m,r⟩:=g;obtain⟨j,hw,hj,l3,t3,f⟩:=E;have f:bt 5 cj h0 L (.slice p m r) (l++[128]++List.replicate j 0):=f;have nq:m=l.length+1+j:=by have:=f.sl.len;simp at this;omega
 have ab:mZ l.length<64:=kQp _ (by decide);have o:A .aN .neq (A .aT .rem .i64 (A .nat m) 64) 56=decide (j<mZ l.length):=by rw[az A,C.aT,C.nat];show decide (((m:Int)).tmod 64≠56)=_;rw[jKU (by omega)];refine decide_eq_decide.2 ?_;unfold mZ at *;omega
 have bX:∀h' a m' c',j<mZ l.length->Le h0 h'->(∀tys,5∉tys->cO tys L h')->bt 5 cj h0 h' (.slice a m' c') (l++[128]++List.replicate j 0++[0])->J (mZ l.length-(j+1)) (a,m',c') h':=λh' a m' c' U Y t' O=>by
  rw[D];refine⟨j+1,rfl,U,Y,λtys t=>(t3 _ t).trans (t' _ t),?_⟩;rw[ym,<-List.replicate_succ']at O;exact O
 refine⟨by decide,?_⟩;cbv;rw[o];by_cases d:j<mZ l.length
 .rw[ak d];have U:mZ l.length-(j+1)<w:=by omega
  clear o D R;generalize l++[128]++List.replicate j 0=cur at *;cbv;intro n4 u FA S;have v:Le L u:=by rw[S];exact Le.set FA
  have e:=bf (s:=cj) (x:=0) ((congrFun S n4).trans ae) rfl;clear S;cbv;refine(f.mono (v.t _)).app e (by decide) rfl (by decide) (by omega) (l3.trans v) (λm5 b5 c5 V Kg K t5 k5 q5=>?_);have iD:=bX V b5 m5 c5 d K (λtys t=>(v.t _).trans (t5 _ t)) q5;clear k5;cbv;refine⟨_,(b5,m5,c5),U,by constructor<;>cbv,iD⟩
 rw[bn d];have hj:j=mZ l.length:=by omega
 subst hj;clear o bX;obtain⟨P,M⟩:∃P,P=l++[128]++List.replicate (mZ l.length) 0:=⟨_,rfl⟩;have ay:EX l=P++MJ l.length:=by rw[M];rfl
 have Kk:P.length<=2^38+100:=by rw[M];simp;omega
 rw[<-M]at f;rw[ay]at W;obtain⟨I,Q⟩:∃I:Nat->(Int×Option Addr×Nat×Nat)->ad->Prop,∀w g h',I w g h'=(∃i,aZ g.1 i/\w=8-i/\i<=8/\Le h0 h'/\(∀tys,5∉tys->cO tys h h')/\bt 5 cj h0 h' (.slice g.2.1 g.2.2.1 g.2.2.2) (P++(MJ l.length).take i)):=⟨_,λ_ _ _=>rfl⟩;have X:I 8 (0,p,m,r) L:=by rw[Q];exact⟨0,⟨rfl⟩,rfl,by omega,l3,t3,by simpa using f⟩
 clear D R M ay f;cbv;refine aX.go (G:=Int×Option Addr×Nat×Nat) (λg=>[(19,.v (.int .i64 g.1)),(0,.v (.slice g.2.1 g.2.2.1 g.2.2.2))]) (λ_=>[]) (λw g h'=>I w g h') 8 (0,p,m,r) (by constructor<;>cbv) X ?_
 intro w g u E;rw[Q]at E;cbv;obtain⟨z,p,m,r⟩:=g;obtain⟨i,H,hw,hi,v,t4,e⟩:=E;have H:aZ z i:=H;have e:bt 5 cj h0 u (.slice p m r) (P++(MJ l.length).take i):=e;have nq:=e.sl.len;rw[cy,eA,xK]at nq;have o:A .aN .lss z 8=decide (i<8):=by rw[aR A,H.eq];exact decide_eq_decide.2 (by omega)
 rw[o];by_cases d:i<8
 .rw[ak d];obtain⟨ey,hR⟩:=jXI (A:=A) (h:=u) (n:=l.length) (by omega) hN H d;have fT:(MJ l.length).take (i+1)=(MJ l.length).take i++[aXc l.length i]:=tP (aXc l.length) d;have jT:∀h' m' a c',Le h0 h'->(∀tys,5∉tys->cO tys h h')->bt 5 cj h0 h' (.slice a m' c') (P++(MJ l.length).take i++[aXc l.length i])->I (8-(i+1)) (A .aT .add .i64 z 1,a,m',c') h':=λh' m' a c' Y t' O=>by
   rw[Q];exact⟨i+1,H.succ (A:=A),rfl,d,Y,t',by rw[fT,<-ym];exact O⟩
  have U:8-(i+1)<w:=by omega
  have oF:m+1<=2^39:=by omega
  clear o Q X fT nq;generalize aXc l.length i=y at *;generalize P++(MJ l.length).take i=cur at *;cbv;refine⟨ey,?_⟩;cbv;intro n5 V LU T;have K:Le u V:=by rw[T];exact Le.set LU
  have q5:=bf (s:=cj) ((congrFun T n5).trans ae) hR;clear T;cbv;refine(e.mono (K.t _)).app q5 (by decide) rfl (by decide) oF (v.trans K) (λm6 b6 c6 h6 QJ l6 t6 k6 q6=>?_);have AP:=jT h6 m6 b6 c6 l6 (λtys t=>(t4 _ t).trans ((K.t _).trans (t6 _ t))) q6;clear jT k6;cbv;refine⟨8-(i+1),(_,b6,m6,c6),U,by constructor<;>cbv,AP⟩
 rw[bn d];have hi:i=8:=by omega
 rw[ie (by rw[xK];omega)]at e;have:=W u p m r v t4 e;clear W Q X;cbv;exact this
def hl(g:Nat->Int):List Value:=[.int .u8 (g 0),.int .u8 (g 1),.int .u8 (g 2),.int .u8 (g 3),.int .u8 (g 4),.int .u8 (g 5),.int .u8 (g 6),.int .u8 (g 7),.int .u8 (g 8),.int .u8 (g 9),.int .u8 (g 10),.int .u8 (g 11),.int .u8 (g 12),.int .u8 (g 13),.int .u8 (g 14),.int .u8 (g 15),.int .u8 (g 16),.int .u8 (g 17),.int .u8 (g 18),.int .u8 (g 19),.int .u8 (g 20),.int .u8 (g 21),.int .u8 (g 22),.int .u8 (g 23),.int .u8 (g 24),.int .u8 (g 25),.int .u8 (g 26),.int .u8 (g 27),.int .u8 (g 28),.int .u8 (g 29),.int .u8 (g 30),.int .u8 (g 31)]
def oC(v:Value)(d s:Int)(g:Nat->Int):List Value:=[v,.int .u32 d,.int .i32 s,.int .u32 0,.int .u8 (g 0),.int .u8 (g 1),.int .u8 (g 2),.int .u8 (g 3),.int .u8 (g 4),.int .u8 (g 5),.int .u8 (g 6),.int .u8 (g 7),.int .u8 (g 8),.int .u8 (g 9),.int .u8 (g 10),.int .u8 (g 11),.int .u8 (g 12),.int .u8 (g 13),.int .u8 (g 14),.int .u8 (g 15),.int .u8 (g 16),.int .u8 (g 17),.int .u8 (g 18),.int .u8 (g 19),.int .u8 (g 20),.int .u8 (g 21),.int .u8 (g 22),.int .u8 (g 23),.int .u8 (g 24),.int .u8 (g 25),.int .u8 (g 26),.int .u8 (g 27),.int .u8 (g 28),.int .u8 (g 29),.int .u8 (g 30),.int .u8 (g 31)]
theorem FF(g:Nat->Int):hl g=(List.range 32).map λi=>Value.int .u8 (g i):=rfl
theorem XU(v:Value)(d s:Int)(g:Nat->Int):oC v d s g=[v,.int .u32 d,.int .i32 s,.int .u32 0]++hl g:=rfl
theorem Cl(g:Nat->Int)(x:Int)(h:i<32):(hl g).set i (.int .u8 x)=hl (λj=>if j=i then x else g j):=by
 rw[FF,FF];apply yr;intro j;rw[VS,kS,kS];by_cases a:j<32
 .rw[List.getElem?_range a];by_cases e:i=j
  .rw[if_pos e,if_pos (by simpa using h)];subst e;simp
  rw[if_neg e];simp[Ne.symm e]
 rw[yo (by simp;omega),if_neg (by omega)];rfl
theorem aZW(v:Value)(d s:Int)(g:Nat->Int)(x:Int)(h:i<32):(oC v d s g).set (4+i) (.int .u8 x)=oC v d s (λj=>if j=i then x else g j):=by
 rw[XU,XU,<-Cl g x h,kQN _ _ (by simp)];have:4+i-([v,.int .u32 d,.int .i32 s,.int .u32 0]:List Value).length=i:=by show 4+i-4=i;omega
 rw[this]
theorem bZN[a:bI A]{T o:Nat}{v:Value}{k:ad->Prop}(d:aZ z i)(q:h n=zcL T c)(f:o+i<c.length)
 (b:∀h',h'=bL h n (.cells (c.set (o+i) v).toArray T (0,0))->k h'):GG h (A .je (some ⟨n,o,none⟩) z 1) [v] k:=by
 have e:A .je (some ⟨n,o,none⟩) z 1=⟨n,o+i,none⟩:=by rw[a.je,d.eq];simp[je,cI]
 rw[e];exact ju q (by show o+i+1<=_;omega) b
theorem AN{b:Bs}(c:b.length=32)(h:∀i x,b[i]? =some x->g i=(x.toNat:Int)):hl g=aQ b:=by
 rw[FF];unfold aQ;apply yr;intro i;rw[kS,kS];by_cases a:i<32
 .obtain⟨x,hx⟩:=cB b i;rw[List.getElem?_range a,hx,Option.map_some,Option.map_some,h i x hx]
 rw[yo (by simp;omega),yo (by omega)];rfl
theorem sK{b:Bs}(h:b.length=32):∃g,hl g=aQ b:=⟨λi=>((b.getD i 0).toNat:Int),AN h λi x hx=>by rw[yz,hx];rfl⟩
theorem Lm(s:W8)(h:j<32):(SM s)[j]? =some (wB (s.l.getD (j / 4) 0) (j % 4)):=by have:SM s=(List.range 32).map λj=>wB (s.l.getD (j / 4) 0) (j % 4):=rfl;rw[this,kS,List.getElem?_range h];rfl
theorem Lk(l:Bs):(EX l).length % 64=0:=by unfold EX;simp only[cy,wS,yk,yl,xK];unfold mZ;omega
theorem lp.byte[d:bI A]{u:Int}{w:W}(e:lp u w)(f:aZ z i):
 0<=A .aT .sub .i64 24 (A .aT .mul .i64 8 (A .aT .rem .i64 z 4))/\A .conv .u8 (A .aT .shr .u32 u (A .aT .sub .i64 24 (A .aT .mul .i64 8 (A .aT .rem .i64 z 4))))=((wB w (i % 4)).toNat:Int):=by
 have b:A .aT .sub .i64 24 (A .aT .mul .i64 8 (A .aT .rem .i64 z 4))=((24-8*(i % 4):Nat):Int):=by rw[d.aT,f.eq];show IntKind.i64.wrap (24-IntKind.i64.wrap (8*((i:Int)).tmod 4))=_;rw[jKU (by omega),IntWalk.i64_in (8*((i:Int) % 4)) (by omega),IntWalk.i64_in _ (by omega)];omega
 rw[b];refine⟨by omega,?_⟩;have c:=(e.shr (A:=A) (n:=((24-8*(i % 4):Nat):Int)) (i:=24-8*(i % 4)) ⟨rfl⟩ (by omega)).eq;rw[c];have a:=kQ (A:=A) (h:=λ_=>none) (((w >>> (24-8*(i % 4))).toNat:Nat):Int);have a:[Value.int .u8 (A .conv .u8 (((w >>> (24-8*(i % 4))).toNat:Nat):Int))]=[.int .u8 ((u8 (((w >>> (24-8*(i % 4))).toNat:Nat):Int)).toNat:Int)]:=a;injection a with a _
 injection a with _ a
theorem dXL(l0:Le h0 h){p:Nat}{c:Nat}{l:Bs}(q:bt 5 cj h0 h (.slice b n c) l)(gp:h p=zcL 493 (oC (.slice b n c) 0 1 λ_=>0))(hp:h0 p=none)(hn:n<=2^38)
 (hk:∀h' g,Le h0 h'->h' p=zcL 493 (oC (.slice b n c) 0 1 g)->hl g=aQ (Sw l)->k (.tuple #[]) h'):
 Ct 351 [.zP p] h k:=by
 have XV:Sw l=SM (jO lS (EX l)):=rfl;have P:=Lk l;rw[XV]at hk;clear XV;refine cg dKE Tryz.func351 λA hA=>?_;cbv;refine cZd (λa0 a1 a2 a3 a4 a5 a6 a7 h8=>?_);cbv;intro a h1 eU e1;have V:Le h h1:=by rw[e1];exact Le.set eU
 have d:h1 a=zcL 509 (List.replicate 8 (.int .u32 0)):=(congrFun e1 a).trans ae;have y:p≠a:=mM gp eU;have z2:=l0.none eU;have q1:=q.mono (V.t _);have Z:=V _ _ gp;have V:=l0.trans V;clear e1;cbv;refine ju d (kB _) (λh2 e2=>?_);have k2:Kp [a] h1 h2:=by rw[e2];exact Kp.set (by simp)
 have q2:bt 5 cj h0 h2 (.slice b n c) l:=q1.mono (by rw[e2];exact cO.set d (by decide));have d:h2 a=zcL 509 (El a0 a1 a2 a3 a4 a5 a6 a7):=by rw[e2,ae];rfl
 have F:=k2 _ _ Z (by simpa using y);have l2:=V.aV (bs:=[a]) (by simpa using z2) k2;clear e2 k2 Z;cbv;rw[av A];refine cr F ?_;cbv;refine aZm l2 q2 hn (λh3 C m3 c3 l3 t3 q3=>?_);have d:=t3 [509] (by decide) _ _ _ _ (by simp) d;have O:=t3 [493] (by decide) _ _ _ _ (by simp) F;have q3:=q3.sl;obtain⟨J,N⟩:∃J:Nat->(Option Addr×Nat×Nat)->ad->Prop,∀w g h',J w g h'=(∃b0 b1 b2 C b4 b5 b6 b7 S r,w=g.2.1/\Le h0 h'/\Sl 5 cj h' (.slice g.1 g.2.1 g.2.2) r/\r.length % 64=0/\jO S r=jO lS (EX l)/\Vg b0 b1 b2 C b4 b5 b6 b7 S/\
  h' a=zcL 509 (El b0 b1 b2 C b4 b5 b6 b7)/\h' p=zcL 493 (oC (.slice b n c) 0 1 λ_=>0)):=⟨_,λ_ _ _=>rfl⟩
 have dL:J m3 (C,m3,c3) h3:=by rw[N];exact⟨_,_,_,_,_,_,_,_,_,_,rfl,l3,q3,P,rfl,h8,d,O⟩
 generalize jO lS (EX l)=SF at *;clear d O F t3 q3 q2 l2 q1 P;cbv;refine aX.go (G:=Option Addr×Nat×Nat) (λg=>[(3,.v (.slice g.1 g.2.1 g.2.2))]) (λ_=>[]) (λw g h'=>J w g h') m3 (C,m3,c3) (by constructor<;>cbv) dL ?_
 intro w g h4 T;rw[N]at T;cbv;obtain⟨gb,m,o⟩:=g;obtain⟨b0,b1,b2,C,b4,b5,b6,b7,S,r,hw,l4,M,Bu,hS,w8,d,E⟩:=T;have hw:w=m:=hw;have M:Sl 5 cj h4 (.slice gb m o) r:=M;have nq:=M.len;have jQ:=M.bound;have D:A .aN .gtr (A .nat m) 0=decide (64<=r.length):=by rw[bC A,hA.nat];refine decide_eq_decide.2 ?_;show(m:Int)>0↔_;omega
 have f:jO S r=if h:64<=r.length then jO (Ha S (r.take 64)) (r.drop 64)else S:=by rw[jO]
 rw[D];by_cases t:64<=r.length
 .rw[dif_pos t,hS]at f;rw[ak t];have K:aZ 64 64:=⟨rfl⟩;have ey:(0:Int)<=64/\(64:Int)<=(o:Int):=by omega
  have jC:(0:Int)<=64/\(64:Int)<=(m:Int):=by omega
  have an:=dy (A:=A) K;have Kn:=cJ (A:=A) (n:=m) K;have Rf:=cJ (A:=A) (n:=o) K;have tk:=M.vo (A:=A) (z:=A .nat o) (i:=64) (by omega) rfl;have td:=M.jD (A:=A) K (by omega) rfl rfl;have aU:m-64<w:=by omega
  have zM:(r.take 64).length=64:=by rw[eA];omega
  have ag:(r.drop 64).length % 64=0:=by rw[iz];omega
  have bX:∀h' x0 W X Y x4 x5 x6 x7,Le h0 h'->Sl 5 cj h' (.slice (A .cut gb 64 (A .nat o) 1) (m-64) (o-64)) (r.drop 64)->Vg x0 W X Y x4 x5 x6 x7 (Ha S (r.take 64))->h' a=zcL 509 (El x0 W X Y x4 x5 x6 x7)->
   h' p=zcL 493 (oC (.slice b n c) 0 1 λ_=>0)->J (m-64) (A .cut gb 64 (A .nat o) 1,m-64,o-64) h':=λh' x0 W X Y x4 x5 x6 x7 l' q' w' g' al=>by
   rw[N];exact⟨_,_,_,_,_,_,_,_,_,_,rfl,l',q',ag,f.symm,w',g',al⟩
  clear N dL D hS f;cbv;refine cr d ?_;cbv;refine⟨ey,?_⟩;cbv;rw[an];refine gKE w8 tk zM (λh5 x0 W X Y x4 x5 x6 x7 B w5=>?_);have g5:=B _ _ d;have Q:=B _ _ E;have ab:=td.mono (B.t _);cbv;refine ju g5 (kB _) (λH s=>?_);have U:Kp [a] h5 H:=by rw[s];exact Kp.set (by simp)
  have g6:H a=zcL 509 (El x0 W X Y x4 x5 x6 x7):=by rw[s,ae];rfl
  have iD:=bX H _ _ _ _ _ _ _ _ ((l4.trans B).aV (bs:=[a]) (by simpa using z2) U) (ab.mono (by rw[s];exact cO.set g5 (by decide))) w5 g6 (U _ _ Q (by simpa using y));clear bX s;cbv;refine⟨jC,?_⟩;cbv;rw[Kn,Rf];refine⟨_,(_,m-64,o-64),aU,by constructor<;>cbv,iD⟩
 rw[bn t];rw[dif_neg t,hS]at f;subst f;obtain⟨I,R⟩:∃I:Nat->Int->ad->Prop,∀w z h',I w z h'=(∃i g,aZ z i/\w=32-i/\i<=32/\Le h0 h'/\cZ 509 pF h' a 8 SF.l/\h' p=zcL 493 (oC (.slice b n c) 0 1 g)/\∀j,j<i->g j=((wB (SF.l.getD (j / 4) 0) (j % 4)).toNat:Int)):=⟨_,λ_ _ _=>rfl⟩;have jU:I 32 0 h4:=by rw[R];exact⟨0,_,⟨rfl⟩,rfl,by omega,l4,Em d w8,E,λj hj=>by omega⟩
 clear N dL D d E hS;cbv;refine aX.go (G:=Int) (λz=>[(20,.v (.int .i64 z))]) (λ_=>[]) (λw z h'=>I w z h') 32 0 (by constructor<;>cbv) jU ?_
 intro w z h5 T;rw[R]at T;cbv;obtain⟨i,g,L,hw,hi,B,o5,Q,v⟩:=T;have D:A .aN .lss z 32=decide (i<32):=by rw[aR A,L.eq];exact decide_eq_decide.2 (by omega)
 rw[D];by_cases t:i<32
 .rw[ak t];have hq:aZ (A .aT .quo .i64 z 4) (i / 4):=⟨by
   rw[hA.aT,L.eq];show IntKind.i64.wrap ((i:Int).tdiv 4)=_;rw[kQz (by omega),IntWalk.i64_in _ (by omega)];omega⟩
  have cq:=hq.ix (len:=8) (by omega);have cz:=L.ix (len:=32) (by omega);have aU:32-(i+1)<w:=by omega
  have hx:SF.l[i / 4]? =some (SF.l.getD (i / 4) 0):=by rw[yz,zG (show i / 4<SF.l.length from(by show i / 4<8;omega))];rfl
  have jT:∀h' x,x=((wB (SF.l.getD (i / 4) 0) (i % 4)).toNat:Int)->Le h0 h'->cZ 509 pF h' a 8 SF.l->h' p=zcL 493 ((oC (.slice b n c) 0 1 g).set (4+i) (.int .u8 x))->I (32-(i+1)) (A .aT .add .i64 z 1) h':=λh' x hx l' o' g'=>by
   rw[R];rw[aZW _ _ _ _ _ t]at g';refine⟨i+1,_,L.succ (A:=A),rfl,by omega,l',o',g',λj hj=>?_⟩;show(if j=i then x else g j)=_;split
   .rename_i e;rw[e,hx]
   exact v j (by omega)
  clear R jU D v;cbv;refine⟨by decide,?_⟩;cbv;refine⟨cq,?_⟩;cbv;refine(o5.sl (n:=8) rfl).load hx hq.eq (λcs ar=>?_);obtain⟨u,rfl,hu⟩:=ar;obtain⟨ey,oW⟩:=hu.byte (A:=A) L;cbv;refine⟨by decide,?_⟩;cbv;refine⟨ey,?_⟩;cbv;refine⟨cz,?_⟩;cbv;rw[av A];refine bZN L Q (by show 0+4+i<36;omega) (λH s=>?_);have U:Kp [p] h5 H:=by rw[s];exact Kp.set (by simp)
  have iD:=jT H _ oW (B.aV (bs:=[p]) (by simpa using hp) U) (o5.kp U (by simpa using Ne.symm y) (λ_ _ _ _ hm _=>by cases hm)) (by rw[s,ae]);clear jT s;cbv;refine⟨_,A .aT .add .i64 z 1,aU,by constructor<;>cbv,iD⟩
 have hi:i=32:=by omega
 subst hi;rw[bn t];have:=hk h5 g B Q (AN (vQ _) λj x hx=>by
  have hj:j<32:=by have:=(ff.1 hx).1;rw[vQ]at this;exact this
  rw[Lm _ hj]at hx;cases hx;exact v j hj)
 clear hk R jU;cbv;exact this
theorem Px{c:Nat}(q:Sl 176 Dd h (.slice b n c) L)(G:L.flatten.length<=2^38)
 (v:∀h' g,Le h h'->hl g=aQ (Sw L.flatten)->k (.agg (hl g).toArray) h'):Ct 290 [.slice b n c] h k:=by
 refine cg eQF Tryz.func290 λA P=>?_;cbv;refine Ba q G (λE a f d x z=>?_);have N:=z.sl.len;cbv;intro p t w l;have y:Le E t:=by rw[l];exact Le.set w
 have s:t p=zcL 493 (oC (.slice a f d) 0 0 λ_=>0):=(congrFun l p).trans ae;have K:=z.mono (y.t _);have O:=x.none w;clear l;cbv;rw[av A];refine cKh s (o:=1) rfl rfl (λm i=>?_);have B:m p=zcL 493 (oC (.slice a f d) 0 1 λ_=>0):=by rw[i,ae];rfl
 have H:Le h m:=(x.trans y).aV (bs:=[p]) (by simpa using O) (by rw[i];exact Kp.set (by simp));have M:bt 5 cj h m (.slice a f d) L.flatten:=K.mono (by rw[i];exact cO.set s (by decide));clear i;refine dXL H M B O (by omega) (λu g I C F=>?_);refine⟨rfl,_,C,rfl,rfl,?_⟩;obtain⟨e,j⟩:∃e,e=bL u p (.cells (oC (.slice a f d) 1 0 g).toArray 493 (0,0)):=⟨_,rfl⟩;have r:bL u p (.cells (((oC (.slice a f d) 0 1 g).set 1 (.int .u32 1)).set (1+1) (.int .i32 0)).toArray 493 (0,0))=e:=j.symm;rw[r];have D:=(congrFun j p).trans ae;have J:Le h e:=I.aV (bs:=[p]) (by simpa using O) (by rw[j];exact Kp.set (by simp));have:=v e g J F;clear j r v;cbv;rw[av A];refine cr D ?_;cbv;exact this
def yj:Sh Bs where
 n:=32
 R _ cs b:=cs=aQ b/\b.length=32
 len:=by rintro h cs b ⟨rfl,hl⟩;simpa[aQ]using hl
 one:=by rintro h cs b ⟨rfl,-⟩;exact iN b
 tys:=[]
 mono:=λ_ q=>q
theorem EJ{b:Bs}(c:hl g=aQ b)(a:b.length=32):yj.R h (hl g) b:=⟨c,a⟩
theorem jR{T:Nat}{x:Bs}(q:h n=zcL T (hl g))(b:hl g=aQ x)(hx:x.length=32):Sl T cj h (.slice (zsA n) 32 32) x:=by
 rw[b]at q;have:=Sl.fresh (e:=T) (s:=cj) (xs:=x) (cap:=32) q ⟨by simp[cj,aQ],λi y a=>?_⟩ (by omega) (by omega)
 .rw[hx]at this;exact this
 show((aQ x).drop (0+i*1)).take 1=[.int .u8 (y.toNat:Int)];rw[tT,jKp];unfold aQ;rw[<-kQD,<-kQE];have c:i<x.length:=(ff.1 a).1;rw[Rs c];have:=(ff.1 a).2;simp[this]
theorem wX(z:Value)(g:Nat->Int):ia (List.replicate 32 z) 0 (hl g)=hl g:=by kernel_rfl
theorem KR(f g:Nat->Int):ia (hl f) 0 (hl g)=hl g:=by kernel_rfl
theorem rf{h':ad}{T:Nat}(e:h'=bL h n (.cells (ia c 0 (hl g)).toArray T (0,0)))(a:ia c 0 (hl g)=hl g):h' n=zcL T (hl g):=by rw[e,ae,a]
theorem bZp{c:Nat}{l:Bs}(q:Sl e1 cj h (.slice b n c) l)(r:e1∈fQV)(C:n<=2^37)
 (u:∀h' g,Le h h'->hl g=aQ (AA l)->k (.agg (hl g).toArray) h'):Ct 256 [.slice b n c] h k:=by
 have f:=q.len;refine cg eXl Tryz.func256 λA B=>?_;cbv;intro w d j e1;have i:Le h d:=by rw[e1];exact Le.set j
 have z:=bf (s:=cj) (x:=0) ((congrFun e1 w).trans ae) rfl;clear e1;cbv;intro y o U e;have a:Le d o:=by rw[e];exact Le.set U
 have m:=(congrFun e y).trans ae;clear e;cbv;refine Px (L:=[[0],l]) (oN (s:=Dd) rfl m (eJ (z.mono (a.t _))) (eJ (q.mono ((i.trans a).t _)) r)) (by simp;omega) (λp g v t=>?_);have:=u p g ((i.trans a).trans v) (by rw[t];unfold AA;simp);cbv;exact this
theorem KC(a b:Bs):(Ab a b).length=32:=fL _
theorem cQw{c:Nat}(q:Sl 100 yj h (.slice b n c) L){m:Nat->Int}{x0:Bs}(h0:hl m=aQ x0)(uY:x0.length=32)
 (hk:∀h' g,Le h h'->hl g=aQ (L.foldl Ab x0)->(L.foldl Ab x0).length=32->k (.agg (hl g).toArray) h'):Ct 328 [.agg (hl m).toArray,.slice b n c] h k:=by
 have ab:=q.len;have jQ:=q.bound;refine cg dKX Tryz.func328 λA hA=>?_;cbv;intro f e U e1;have l1:Le h e:=by rw[e1];exact Le.set U
 have W:e f=zcL 100 (hl m):=(congrFun e1 f).trans ae;obtain⟨J,D⟩:∃J:Nat->Int->ad->Prop,∀w z h',J w z h'=(∃i g x,aZ z i/\w=n-i/\i<=n/\Le h h'/\h' f=zcL 100 (hl g)/\hl g=aQ x/\x.length=32/\(L.drop i).foldl Ab x=L.foldl Ab x0):=⟨_,λ_ _ _=>rfl⟩;have v:J n 0 e:=by rw[D];exact⟨0,m,x0,⟨rfl⟩,rfl,by omega,l1,W,h0,uY,rfl⟩
 generalize L.foldl Ab x0=F at *;clear e1 W;cbv;refine aX.go (G:=Int) (λz=>[(9,.v (.int .i64 z))]) (λ_=>[(4,List.replicate 32 (.int .u8 0))]) (λw z h'=>J w z h') n 0 (by constructor<;>cbv) v ?_
 intro w z h2 hI;rw[D]at hI;cbv;obtain⟨i,g,x,p,hw,hi,t,M,hg,hx,d⟩:=hI;have V:A .aN .lss z (A .nat n)=decide (i<n):=by rw[aR A,p.eq,hA.nat];exact decide_eq_decide.2 (by show(i:Int)<(n:Int)↔_;omega)
 rw[V];by_cases o:i<n
 .rw[ak o];obtain⟨y,hy⟩:=cB L i;have ix:=p.ix o;have iV:b.isSome=true:=q.bp;have aU:n-(i+1)<w:=by omega
  have Ib:L.drop i=y::L.drop (i+1):=by have e:=(ff.1 hy);rw[Rs e.1,e.2]
  rw[Ib,kQr]at d;have T:∀h' a,Le h h'->h' f=zcL 100 (hl a)->hl a=aQ (Ab x y)->J (n-(i+1)) (A .aT .add .i64 z 1) h':=λh' a l' q' I=>by
   rw[D];exact⟨i+1,a,_,p.succ (A:=A),rfl,o,l',q',I,KC _ _,d⟩
  clear D v V d;cbv;refine⟨⟨iV,ix⟩,?_⟩;cbv;refine(q.mono (t.t _)).load hy p.eq (λcs r=>?_);obtain⟨r,X⟩:=r;obtain⟨gy,Y⟩:=sK X;rw[<-Y]at r;subst r;cbv;intro j O S B;have l3:Le h2 O:=by rw[B];exact Le.set S
  have N:O j=zcL 100 (List.replicate 32 (.int .u8 0)):=(congrFun B j).trans ae;have u:f≠j:=mM M S;have g3:=l3 _ _ M;have z6:=t.none S;clear B;cbv;refine ju N (kB _) (λP C=>?_);have R:Kp [j] O P:=by rw[C];exact Kp.set (by simp)
  have N:P j=zcL 100 (hl gy):=rf C (wX _ _);have Z:=R _ _ g3 (by simpa using u);have l4:=(t.trans l3).aV (bs:=[j]) (by simpa using z6) R;clear C R;cbv;intro n7 h5 Fy E;have l5:Le P h5:=by rw[E];exact Le.set Fy
  have q7:=bf (s:=cj) (x:=1) ((congrFun E n7).trans ae) rfl;clear E;cbv;intro n8 h6 pH H;have l6:Le h5 h6:=by rw[H];exact Le.set pH
  have g8:=(congrFun H n8).trans ae;have l:=l5.trans l6;clear H;cbv;refine Px (L:=[[1],x,y]) (ke (s:=Dd) rfl g8 (eJ (q7.mono (l6.t _))) (eJ (jR (l _ _ Z) hg hx)) (eJ (jR (l _ _ N) Y X))) (by simp;omega) (λh7 a l7 I=>?_);have g7:=l7 _ _ (l _ _ Z);have Q:=l4.trans (l.trans l7);have I:hl a=aQ (Ab x y):=by rw[I];unfold Ab;simp
  cbv;refine ju g7 (kB _) (λh8 K=>?_);have iD:=T h8 a (Q.aV (bs:=[f]) (by simpa using U) (by rw[K];exact Kp.set (by simp))) (rf K (KR _ _)) I;clear T K;cbv;refine⟨n-(i+1),A .aT .add .i64 z 1,aU,by constructor<;>cbv,iD⟩
 have fC:i=n:=by omega
 subst fC;rw[jKz (by omega)]at d;have d:x=F:=d;subst d;have:=hk h2 g t hg hx;rw[bn o];clear hk D v;cbv;refine cr M ?_;cbv;exact this
theorem dQQ(p:aZ z n)(t:2<=n)(r:n<=2^60)(a:∀w,aZ w (AY n)->k (.int .i64 w) h):Ct 327 [.int .i64 z] h k:=by
 obtain⟨J,b⟩:∃J:Nat->Int->ad->Prop,∀w y h',J w y h'=(∃i,aZ y i/\w=n-i/\0<i/\i<n/\h'=h/\Cw i n=AY n):=⟨_,λ_ _ _=>rfl⟩;have d:J (n-1) 1 h:=by rw[b];exact⟨1,⟨rfl⟩,rfl,by omega,by omega,rfl,rfl⟩
 generalize AY n=C at *;refine cg dKY Tryz.func327 λA e=>?_;cbv;refine aX.go (G:=Int) (λy=>[(3,.v (.int .i64 y))]) (λ_=>[]) (λw y h'=>J w y h') (n-1) 1 (by constructor<;>cbv) d ?_
 intro w y l I;rw[b]at I;cbv;obtain⟨i,j,u,h0,s,rfl,g⟩:=I;have m:A .aT .mul .i64 2 y=((2*i:Nat):Int):=by rw[e.aT,j.eq];show IntKind.i64.wrap (2*(i:Int))=_;rw[IntWalk.i64_in _ (by omega)];omega
 have q:A .aT .mul .i64 y 2=A .aT .mul .i64 2 y:=by rw[e.aT];show IntKind.i64.wrap (y*2)=IntKind.i64.wrap (2*y);rw[Int.mul_comm]
 have f:A .aN .lss (A .aT .mul .i64 2 y) z=decide (2*i<n):=by rw[m,aR A,p.eq];exact decide_eq_decide.2 (by omega)
 have F:Cw i n=if h:2*i<n/\0<i then Cw (2*i) n else i:=by rw[Cw]
 rw[f];by_cases c:2*i<n
 .rw[dif_pos ⟨c,h0⟩,g]at F;have D:J (n-2*i) (A .aT .mul .i64 2 y) l:=by rw[b];exact⟨2*i,⟨m⟩,rfl,by omega,c,rfl,F.symm⟩
  have U:n-2*i<w:=by omega
  rw[ak c];clear b d a f m;cbv;rw[q];refine⟨_,A .aT .mul .i64 2 y,U,by constructor<;>cbv,D⟩
 rw[dif_neg (λo=>c o.1),g]at F;have:=a y (by rw[F];exact j);rw[bn c];clear b d a f m;cbv;exact this
set_option maxHeartbeats 2000000
theorem HA(h:2<=L.length):gP L=Ab (gP (L.take (AY L.length))) (gP (L.drop (AY L.length))):=by
 match L,h with
 |x::y::r,_=>rw[gP];rfl
theorem bZl(N:Nat):∀ {h:ad} {b:Option Addr} {n c:Nat} {L:List Bs} (q:Sl 100 yj h (.slice b n c) L) (H:L.length<=N) {k:Value->ad->Prop}
 (a:∀h' g,Le h h'->hl g=aQ (gP L)->(gP L).length=32->k (.agg (hl g).toArray) h'),Ct 246 [.slice b n c] h k:=by
 induction N with
 |zero=>
  intro h b n c L q H k a;obtain⟨A,u⟩:=Ar.ex;have l:=q.len;have j:L=[]:=kh (by omega);subst j;have p:A .aN .eql (A .nat n) 0=true:=by rw[au A,u.nat,l];rfl
  refine fz aKJ A Tryz.func246 ?_;cbv;rw[p];cbv;refine Px (L:=[]) Sl.nil (by simp) (λt g f d=>?_);have:=a t g f (by rw[d];rw[gP];rfl) (by rw[gP];exact fL _);cbv;exact this
 |succ N o=>
  intro h b n c L q H k a;obtain⟨A,u⟩:=Ar.ex;have l:=q.len;have jQ:=q.bound;have p:A .aN .eql (A .nat n) 0=decide (L.length=0):=by rw[au A,u.nat,<-l];exact decide_eq_decide.2 (by show(n:Int)=0↔_;omega)
  have F:A .aN .eql (A .nat n) 1=decide (L.length=1):=by rw[au A,u.nat,<-l];exact decide_eq_decide.2 (by show(n:Int)=1↔_;omega)
  refine fz aKJ A Tryz.func246 ?_;cbv;rw[p];by_cases v:L.length=0
  .have j:L=[]:=kh v;subst j;rw[ak v];clear o;cbv;refine Px (L:=[]) Sl.nil (by simp) (λt g f d=>?_);have:=a t g f (by rw[d];rw[gP];rfl) (by rw[gP];exact fL _);cbv;exact this
  rw[bn v];cbv;rw[F];by_cases B:L.length=1
  .obtain⟨x,hx⟩:=cB L 0;have j:L=[x]:=by
    match L,B with
    | [y],_=>cases hx;rfl
   have hR:gP L=x:=by rw[j,gP]
   rw[hR]at a;have iV:b.isSome=true:=q.bp;have ix:(0:Int)<=0/\(0:Int)<(n:Int):=by omega
   rw[ak B];clear o;cbv;refine⟨⟨iV,ix⟩,?_⟩;cbv;refine q.load hx rfl (λcs r=>?_);obtain⟨r,M⟩:=r;obtain⟨g,d⟩:=sK M;rw[<-d]at r;subst r;have:=a h g (Le.refl _) d M;cbv;exact this
  rw[bn B];have hR:=HA (L:=L) (by omega);obtain⟨U,P⟩:=DW (n:=L.length) (by omega);rw[hR]at a;have W:2<=n:=by omega
  have X:L.length=n:=l.symm;rw[X]at a U P;obtain⟨m,I⟩:∃m,m=AY n:=⟨_,rfl⟩;rw[<-I]at a U P;clear p F hR;cbv;refine dQQ (aZ.nat n) W (by omega) (λw e=>?_);rw[<-I]at e;have oH:0<=w/\w<=(c:Int):=by have:=e.eq;omega
  have pe:0<=w/\w<=(n:Int):=by have:=e.eq;omega
  have T:=dy (A:=A) e;obtain⟨n2,E⟩:∃x,x=n-m:=⟨_,rfl⟩;obtain⟨c2,Y⟩:∃x,x=c-m:=⟨_,rfl⟩;have D:=cJ (A:=A) (n:=n) e;have R:=cJ (A:=A) (n:=c) e;rw[<-E]at D;rw[<-Y]at R;have tk:=q.vo (A:=A) (z:=A .nat c) (i:=m) (by omega) rfl;have O:=q.jD (A:=A) e (by omega) E Y;cbv;refine⟨oH,?_⟩;cbv;refine⟨pe,?_⟩;cbv;rw[T,D,R];refine o tk (by rw[eA];omega) (λt g1 f yB K=>?_);have J:=O.mono (f.t _);clear O tk;cbv;refine o J (by rw[iz];omega) (λh2 Z l2 Q V=>?_);clear o;cbv;intro n3 G S C;have l3:Le h2 G:=by rw[C];exact Le.set S
  have q3:=bf (s:=yj) (cs:=hl Z) ((congrFun C n3).trans ae) (EJ (h:=G) Q V);clear C;cbv;refine cQw q3 yB K (λh4 g l4 d oU=>?_);have:=a h4 g (((f.trans l2).trans l3).trans l4) d oU;cbv;exact this
end Go.S
