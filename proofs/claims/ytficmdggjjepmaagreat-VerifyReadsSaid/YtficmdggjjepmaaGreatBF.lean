import Derived.Test.YtficmdggjjepmaaGreatBC
set_option linter.all false
set_option maxRecDepth 100000
set_option maxHeartbeats 4000000
namespace Go.S
open Go.Sx Go.Proofs
variable {A:Ar}{z:Int}{L:List Bs}{c:List Value}{xs:List W}{e1 i j n:Nat}{g:Nat->Int}{fr:Nat×Nat}{b:Option Addr}{k:Value->ab->Prop}{s:W8}{h h0:ab}
theorem mL(s:ByteArray):(nF s).length<=65537:=by unfold nF py ku;simp only[dr,hJB,hJE,dW];omega
theorem FA(v:gI):(jE v).length<=65538:=by
 unfold jE;have:=mL v.s;have h:=cR v.n;rw[hJB];split
 .simp
 split
 .omega
 split
 .omega
 simp
theorem Tj{c:Nat}{r:Row}(q:Sl 87 aZ h (.slice b n c) r)(hn:n<=2^16)(hs:∀x∈r,x.s.size<=2^40)
 (U:∀h' j n' c',Le h h'->aT 5 bS h h' (.slice j n' c') (sN r)->(sN r).length<=2^34->k (.slice j n' c') h'):Ct 186 [.slice b n c] h k:=by
 obtain⟨A,hA⟩:=Ar.ex;have B:=q.len;have Z:A .nat n=(r.length:Int):=by rw[hA.nat,B];rfl
 obtain⟨a,W⟩:∃a:Bs,a=[u8 (r.length:Int)]:=⟨_,rfl⟩;have ai:a.length=1:=by rw[W];rfl
 have hS:sN r=a++(r.map jE).flatten:=by rw[W];unfold sN;rw[List.flatMap_def];rfl
 rw[hS]at U;clear hS;have GU:([]++[u8 (A .nat n)]:Bs)=a:=by rw[Z,W];rfl
 obtain⟨J,X⟩:∃J:Nat->((Option Addr×Nat×Nat)×Int)->ab->Prop,∀w g h',J w g h'=(∃i:Nat,aM g.2 i/\w=n-i/\i<=n/\Le h h'/\aT 5 bS h h' (.slice g.1.1 g.1.2.1 g.1.2.2) (a++((r.take i).map jE).flatten)/\(a++((r.take i).map jE).flatten).length<=2^17*(i+1)):=⟨_,λ_ _ _=>rfl⟩;refine dH cJC A Tryz.func186 ?_;cbv;refine tH (l:=[]) Sl.nil (by omega) _ (λh1 b1 m1 c1 k1 Y=>?_);rw[GU]at Y;have S:J n ((b1,m1,c1),0) h1:=by rw[X];refine⟨0,⟨rfl⟩,rfl,by omega,k1,by simpa using Y,by simp;omega⟩
 clear GU Y Z;cbv;refine aK.go (G:=(Option Addr×Nat×Nat)×Int) (λg=>[(3,.v (.slice g.1.1 g.1.2.1 g.1.2.2)),(11,.v (.int .i64 g.2))]) (λ_=>[]) (λw g h'=>J w g h') n ((b1,m1,c1),0) (by constructor<;>cbv) S ?_
 intro w g M hI;rw[X]at hI;cbv;obtain⟨⟨gb,gm,gc⟩,z⟩:=g;obtain⟨i,o,hw,hi,N,p,hL⟩:=hI;have o:aM z i:=o;have p:aT 5 bS h M (.slice gb gm gc) (a++((r.take i).map jE).flatten):=p;have pW:=p.sl.len;have f1:A .az .lss z (A .nat n)=decide (i<n):=by rw[aJ A,o.eq,hA.nat];exact decide_eq_decide.2 (by show(i:Int)<(n:Int)↔_;omega)
 rw[f1];by_cases T:i<n
 .rw[aH T];obtain⟨x,hx⟩:=di r i;have Bu:=hs x (kF hx);have R:=FA x;have ix:=o.ix T;have jB:b.isSome=true:=q.aR;have O:n-(i+1)<w:=by omega
  have F:∀j m' c' h',Le M h'->aT 5 bS M h' (.slice j m' c') ((a++((r.take i).map jE).flatten)++jE x)->J (n-(i+1)) ((j,m',c'),A .aC .add .i64 z 1) h':=λj m' c' h' l' q'=>by
   rw[X];have ha:(a++((r.take i).map jE).flatten)++jE x=a++((r.take (i+1)).map jE).flatten:=by rw[xx,hx];simp
   refine⟨i+1,o.succ (A:=A),rfl,by omega,N.trans l',?_,?_⟩
   .rw[<-ha];exact q'.base N
   rw[<-ha,dr];omega
  have xw:(a++((r.take i).map jE).flatten).length<=2^34:=by omega
  have s:A .az .eql x.k 1=decide (x.k=1):=aq A ..;have u:A .az .eql x.k 2=decide (x.k=2):=aq A ..;have v:A .az .eql x.k 3=decide (x.k=3):=aq A ..;have V:jE x=u8 x.k::(if x.k=1 then [u8 x.n]else if x.k=2 then cC x.n else if x.k=3 then nF x.s else []):=rfl;clear f1 hL X S R;generalize a++((r.take i).map jE).flatten=L at *;generalize jE x=vw at *;cbv;refine⟨⟨jB,ix⟩,?_⟩;cbv;refine(q.mono (N.t _)).load hx o.eq (λcs Q=>?_);have Q:cs=[.int .i64 x.k,.int .i64 x.n,.string x.s]:=Q;subst Q;generalize x.k=P at *;generalize x.n=xn at *;generalize x.s=xs at *;cbv;refine tH p.sl (by omega) P (λh3 b3 m3 c3 f D=>?_);have QV:=D.sl.len;rw[dr,hJF]at QV;cbv;rw[s];by_cases H:P=1
  .rw[if_pos H]at V;rw[aH H];clear s u v;cbv;refine tH D.sl (by omega) xn (λy d m e C E=>?_);have t:=F d m e y (f.trans C) (by rw[V];have:=E.base f;simpa using this);clear F;cbv;refine⟨_,((d,m,e),A .aC .add .i64 z 1),O,by constructor<;>cbv,t⟩
  rw[if_neg H]at V;rw[ag H];cbv;rw[u];by_cases I:P=2
  .rw[if_pos I]at V;rw[aH I];clear s u v;cbv;refine NS D.sl (by omega) xn (λy d m e C E=>?_);have t:=F d m e y (f.trans C) (by rw[V];have:=E.base f;simpa using this);clear F;cbv;refine⟨_,((d,m,e),A .aC .add .i64 z 1),O,by constructor<;>cbv,t⟩
  rw[if_neg I]at V;rw[ag I];cbv;rw[v];by_cases K:P=3
  .rw[if_pos K]at V;rw[aH K];clear s u v;cbv;refine Bp (e1:=0) D.sl (by omega) xs Bu (λy d m e C E=>?_);have t:=F d m e y (f.trans C) (by rw[V];have:=E.base f;unfold nF;simpa using this);clear F;cbv;refine⟨_,((d,m,e),A .aC .add .i64 z 1),O,by constructor<;>cbv,t⟩
  rw[if_neg K]at V;rw[ag K];have t:=F b3 m3 c3 h3 f (by rw[V];exact D);clear s u v F;cbv;refine⟨_,((b3,m3,c3),A .aC .add .i64 z 1),O,by constructor<;>cbv,t⟩
 rw[ag T];have hi:i=n:=by omega
 rw[hO (by omega)]at p hL;have:=U M gb gm gc N p (by omega);clear U X S;cbv;exact this
set_option maxHeartbeats 8000000
theorem eQk{v:Int}{x:W}(g:iK z x)(h0:0<n)(c:n<32)(j:v=-(n:Int))(d:∀w,iK w (rr x n)->k (.int .u32 w) h):
 Ct 362 [.int .u32 z,.int .i64 v] h k:=by
 obtain⟨A,b⟩:=Ar.ex;obtain⟨s,J,e1⟩:∃s,aM s (32-n)/\A .aC .and .u64 (A .conv .u64 v) 31=s:=⟨_,⟨by
  rw[b.aC,b.conv,j];have:∀m:Nat,m<32->0<m->Sx.aC .and .u64 (IntKind.u64.wrap (-(m:Int))) 31=((32-m:Nat):Int):=by decide
  exact this n c h0⟩,rfl⟩
 obtain⟨a,B,i⟩:∃a,aM a n/\A .aC .sub .u64 32 s=a:=⟨_,⟨by
  rw[b.aC,J.eq];have:∀m:Nat,m<32->0<m->Sx.aC .sub .u64 32 ((32-m:Nat):Int)=(m:Int):=by decide
  exact this n c h0⟩,rfl⟩
 have f:0<=s/\0<=a:=by have:=J.eq;have:=B.eq;omega
 have r:=d _ (by
  have:=(g.shl (A:=A) J (by omega)).or (A:=A) (g.shr (A:=A) B c);rw[BitVec.or_comm]at this;have e:32-n=32-n:=rfl;exact this)
 clear d;refine dH cXm A Tryz.func362 ?_;cbv;rw[e1];refine⟨f.1,?_⟩;cbv;rw[i];refine⟨f.2,?_⟩;cbv;exact r
theorem nG{m:Int}{x:W}(f:iK z x)(h0:0<n)(d:n<32)(c:m=(n:Int))(b:∀w,iK w (rr x n)->k (.int .u32 w) h):
 Ct 360 [.int .u32 z,.int .i64 m] h k:=by
 obtain⟨A,a⟩:=Ar.ex;have v:A .aC .sub .i64 0 m=-(n:Int):=by rw[a.aC,c];show IntKind.i64.wrap (0-(n:Int))=_;rw[IntWalk.i64_in _ (by omega)];omega
 refine dH cXn A Tryz.func360 ?_;cbv;refine eQk f h0 d v (λw e=>?_);have:=b w e;cbv;exact this
def wl(g:Nat->Int):List Value:=[.int .u32 (g 0),.int .u32 (g 1),.int .u32 (g 2),.int .u32 (g 3),.int .u32 (g 4),.int .u32 (g 5),.int .u32 (g 6),.int .u32 (g 7),.int .u32 (g 8),.int .u32 (g 9),.int .u32 (g 10),.int .u32 (g 11),.int .u32 (g 12),.int .u32 (g 13),.int .u32 (g 14),.int .u32 (g 15),.int .u32 (g 16),.int .u32 (g 17),.int .u32 (g 18),.int .u32 (g 19),.int .u32 (g 20),.int .u32 (g 21),.int .u32 (g 22),.int .u32 (g 23),.int .u32 (g 24),.int .u32 (g 25),.int .u32 (g 26),.int .u32 (g 27),.int .u32 (g 28),.int .u32 (g 29),.int .u32 (g 30),.int .u32 (g 31),.int .u32 (g 32),.int .u32 (g 33),.int .u32 (g 34),.int .u32 (g 35),.int .u32 (g 36),.int .u32 (g 37),.int .u32 (g 38),.int .u32 (g 39),.int .u32 (g 40),.int .u32 (g 41),.int .u32 (g 42),.int .u32 (g 43),.int .u32 (g 44),.int .u32 (g 45),.int .u32 (g 46),.int .u32 (g 47),.int .u32 (g 48),.int .u32 (g 49),.int .u32 (g 50),.int .u32 (g 51),.int .u32 (g 52),.int .u32 (g 53),.int .u32 (g 54),.int .u32 (g 55),.int .u32 (g 56),.int .u32 (g 57),.int .u32 (g 58),.int .u32 (g 59),.int .u32 (g 60),.int .u32 (g 61),.int .u32 (g 62),.int .u32 (g 63)]
theorem zr(g:Nat->Int):wl g=(List.range 64).map λi=>Value.int .u32 (g i):=rfl
theorem OG(g:Nat->Int)(h:i<64):(wl g)[i]? =some (.int .u32 (g i)):=by rw[zr,qy,List.getElem?_range h];rfl
theorem bXu(r:Go.Sx.Rows mA h c 0 xs)(d:c.length=64)(hx:xs.length=64):∃g,c=wl g/\∀i x,xs[i]? =some x->iK (g i) x:=by
 refine⟨λi=>match c[i]? with|some (.int _ z)=>z|_=>0,?_,λi x O=>?_⟩
 .rw[zr];apply rv;intro i;rw[qy];by_cases b:i<64
  .rw[List.getElem?_range b];obtain⟨x,Z⟩:=di xs i;obtain⟨z,a,w⟩:=r.at Z;have M:=congrArg (λl=>l[0]?) a;simp only[hU,nM]at M;have n:mA.n=1:=rfl;rw[n]at M;simp at M;simp[M]
  rw[qk (by omega),qk (by simp;omega)];rfl
 obtain⟨z,a,w⟩:=r.at O;have M:=congrArg (λl=>l[0]?) a;simp only[hU,nM]at M;have n:mA.n=1:=rfl;rw[n]at M;simp at M;simp[M,w]
theorem lF[a:aV A]{T:Nat}{k:List Value->Prop}(q:h n=some (.cells (List.toArray (wl g)) T fr))(d:aM z i)(b:i<64)(c:k [.int .u32 (g i)]):
 vX h (A .fM (some ⟨n,0,none⟩) z 1) 1 k:=by
 have e:A .fM (some ⟨n,0,none⟩) z 1=⟨n,i,none⟩:=by rw[a.fM,d.eq];simp[fM,bL]
 rw[e];refine⟨_,⟨rfl,rfl,_,_,_,q,λj f=>?_⟩,c⟩;have:j=0:=by omega
 subst this;simpa using OG g b
theorem dZ[a:aV A]{T:Nat}{v:Value}{k:List Value->Prop}(d:z=(i:Int))(q:h n=some (.cells (List.toArray c) T fr))(hx:c[i]? =some v)(b:k [v]):
 vX h (A .fM (some ⟨n,0,none⟩) z 1) 1 k:=by
 have e:A .fM (some ⟨n,0,none⟩) z 1=⟨n,i,none⟩:=by rw[a.fM,d];simp[fM,bL]
 rw[e];refine⟨_,⟨rfl,rfl,_,_,_,q,λj f=>?_⟩,b⟩;have:j=0:=by omega
 subst this;simpa using hx
theorem bZT(a:∀g:Nat->Int,(∀i,i<64->iK (g i) (BJ.getD i 0))->k (.agg (List.toArray (wl g))) h):Ct 359 [] h k:=by
 have r:=a (λi=>((BJ.getD i 0).toNat:Int)) (λi c=>⟨rfl⟩);clear a;have e:wl (λi=>((BJ.getD i 0).toNat:Int))=[.int .u32 1116352408,.int .u32 1899447441,.int .u32 3049323471,.int .u32 3921009573,.int .u32 961987163,.int .u32 1508970993,.int .u32 2453635748,.int .u32 2870763221,.int .u32 3624381080,.int .u32 310598401,.int .u32 607225278,.int .u32 1426881987,.int .u32 1925078388,.int .u32 2162078206,.int .u32 2614888103,.int .u32 3248222580,.int .u32 3835390401,.int .u32 4022224774,.int .u32 264347078,.int .u32 604807628,.int .u32 770255983,.int .u32 1249150122,.int .u32 1555081692,.int .u32 1996064986,.int .u32 2554220882,.int .u32 2821834349,.int .u32 2952996808,.int .u32 3210313671,.int .u32 3336571891,.int .u32 3584528711,.int .u32 113926993,.int .u32 338241895,.int .u32 666307205,.int .u32 773529912,.int .u32 1294757372,.int .u32 1396182291,.int .u32 1695183700,.int .u32 1986661051,.int .u32 2177026350,.int .u32 2456956037,.int .u32 2730485921,.int .u32 2820302411,.int .u32 3259730800,.int .u32 3345764771,.int .u32 3516065817,.int .u32 3600352804,.int .u32 4094571909,.int .u32 275423344,.int .u32 430227734,.int .u32 506948616,.int .u32 659060556,.int .u32 883997877,.int .u32 958139571,.int .u32 1322822218,.int .u32 1537002063,.int .u32 1747873779,.int .u32 1955562222,.int .u32 2024104815,.int .u32 2227730452,.int .u32 2361852424,.int .u32 2428436474,.int .u32 2756734187,.int .u32 3204031479,.int .u32 3329325298]:=by kernel_rfl
 rw[e]at r;clear e;refine cp cXo Tryz.func359 λA b=>?_;cbv;exact r
def zu(a b c d e f g h:Int):List Value:=[.int .u32 a,.int .u32 b,.int .u32 c,.int .u32 d,.int .u32 e,.int .u32 f,.int .u32 g,.int .u32 h]
structure OA(a b c d e f g h:Int)(s:W8):Prop where
 a:iK a s.a
 b:iK b s.b
 c:iK c s.c
 d:iK d s.d
 e:iK e s.e
 f:iK f s.f
 g:iK g s.g
 h:iK h s.h
theorem aKp(j:∀a b c d e f g i,OA a b c d e f g i jl->k (.agg (List.toArray (zu a b c d e f g i))) h):Ct 334 [] h k:=by have r:=j _ _ _ _ _ _ _ _ ⟨⟨rfl⟩,⟨rfl⟩,⟨rfl⟩,⟨rfl⟩,⟨rfl⟩,⟨rfl⟩,⟨rfl⟩,⟨rfl⟩⟩;clear j;refine cp cXA Tryz.func334 λA l=>?_;cbv;exact r
def LP(l:Bs)(i:Nat):List W:=(List.range i).map (wF l)++List.replicate (64-i) 0
theorem DC(l:Bs)(h:i<=64):(LP l i).length=64:=by unfold LP;simp;omega
theorem uy(l:Bs)(h:j<i):(LP l i)[j]? =some (wF l j):=by unfold LP;rw[hJQ (by simpa using h),qy,List.getElem?_range h];rfl
theorem Kg(l:Bs)(a:i<64):(LP l i).set i (wF l i)=LP l (i+1):=by
 unfold LP;rw[iQs _ _ (by simp),hJT,hKC,hJW,List.range_succ,hKq,ym];congr 1;obtain⟨m,h⟩:∃m,64-i=m+1:=⟨63-i,by omega⟩;have:64-(i+1)=m:=by omega
 rw[h,this];rfl
theorem CI{T:Nat}{f:Nat->W}(q:h n=some (.cells (List.toArray (wl g)) T (0,0)))(b:∀i,i<64->iK (g i) (f i)):cM T mA h n 64 ((List.range 64).map f):=by
 refine⟨⟨wl g,q,⟨?_,λi x hx=>?_⟩,rfl⟩,by simp,by simp⟩
 .simp[zr,mA]
 have a:i<64:=by have:=(dB.1 hx).1;simpa using this
 rw[qy,List.getElem?_range a]at hx;cases hx;refine⟨g i,?_,b i a⟩;have w:=OG g a;show((wl g).drop (0+i*1)).take 1=_;rw[qp,TG];apply rv;intro j;rw[hU,nM];by_cases c:j<1
 .have:j=0:=by omega
  subst this;simpa using w
 rw[if_neg c,qk (by simp;omega)]
theorem Cg{T:Nat}(o:cM T mA h n 64 xs)(hx:xs.length=64):∃g,h n=some (.cells (List.toArray (wl g)) T (0,0))/\∀i x,xs[i]? =some x->iK (g i) x:=by obtain⟨c,a,b,d⟩:=o.out;obtain⟨g,rfl,e⟩:=bXu b (by simpa[mA]using d) hx;exact⟨g,a,e⟩
theorem UG{c:Nat}{l:Bs}(q:Sl e1 bS h (.slice b n c) l)(hn:l.length=64)(hk:∀h' (g:Nat->Int),Le h h'->(∀i,i<64->iK (g i) (wF l i))->k (.agg (List.toArray (wl g))) h'):
 Ct 358 [.slice b n c] h k:=by
 have aw:=q.len;have K:b.isSome=true:=q.aR;refine cp cXp Tryz.func358 λA hA=>?_;cbv;intro o h1 eL e1;have l1:Le h h1:=by rw[e1];exact Le.set eL
 have o1:cM 492 mA h1 o 64 (LP l 0):=CI (g:=λ_=>0) (f:=λ_=>0) ((congrFun e1 o).trans ae) (λ_ _=>⟨rfl⟩);obtain⟨J,X⟩:∃J:Nat->Nat->Int->ab->Prop,∀m w g h',J m w g h'=(∃i:Nat,aM g i/\w=m-i/\i<=m/\(m=64->16<=i)/\Le h h'/\cM 492 mA h' o 64 (LP l i)):=⟨_,λ_ _ _ _=>rfl⟩;have eP:J 16 16 0 h1:=by rw[X];exact⟨0,⟨rfl⟩,rfl,by omega,by omega,l1,o1⟩
 clear e1 o1;cbv;refine aK.go (G:=Int) (λg=>[(8,.v (.int .i64 g))]) (λ_=>[(2,List.replicate 64 (.int .u32 0))]) (λw g h'=>J 16 w g h') 16 0 (by constructor<;>cbv) eP ?_
 intro w z h2 I;rw[X]at I;cbv;obtain⟨i,d,hw,hi,-,l2,o2⟩:=I;have p:A .az .lss z 16=decide (i<16):=by rw[aJ A,d.eq];exact decide_eq_decide.2 (by omega)
 rw[p];by_cases r:i<16
 .rw[aH r];have N:=q.mono (l2.t _);obtain⟨x0,Ay⟩:=di l (4*i);obtain⟨x1,MK⟩:=di l (4*i+1);obtain⟨x2,Oc⟩:=di l (4*i+2);obtain⟨x3,Ob⟩:=di l (4*i+3);have D:aM (A .aC .mul .i64 4 z) (4*i):=⟨by
   rw[hA.aC,d.eq];show IntKind.i64.wrap (4*(i:Int))=_;rw[IntWalk.i64_in _ (by omega)];omega⟩
  have m1:=D.succ (A:=A);have m2:=D.add (A:=A) (w:=2) (j:=2) ⟨rfl⟩ (by omega);have m3:=D.add (A:=A) (w:=3) (j:=3) ⟨rfl⟩ (by omega);have c0:0<=A .aC .mul .i64 4 z/\A .aC .mul .i64 4 z<(n:Int):=D.ix (by omega);have c1:=m1.ix (len:=n) (by omega);have U:=m2.ix (len:=n) (by omega);have c3:=m3.ix (len:=n) (by omega);have V:=d.ix (len:=64) (by omega);have O:wF l i=BitVec.ofNat 32 x0.toNat <<< 24|||BitVec.ofNat 32 x1.toNat <<< 16|||BitVec.ofNat 32 x2.toNat <<< 8|||BitVec.ofNat 32 x3.toNat:=by rw[wF,if_pos r];unfold OF bw;rw[xa,xa,xa,xa,Ay,MK,Oc,Ob];rfl
  have F:∀h',Le h h'->cM 492 mA h' o 64 ((LP l i).set i (wF l i))->J 16 (16-(i+1)) (A .aC .add .i64 z 1) h':=λh' l' o'=>by
   rw[X];rw[Kg l (by omega)]at o';exact⟨i+1,d.succ (A:=A),rfl,by omega,by omega,l',o'⟩
  have R:16-(i+1)<w:=by omega
  have rf:i<(LP l i).length:=by rw[DC l (by omega)];omega
  obtain⟨y0,B⟩:∃y:Int,y=(x0.toNat:Int):=⟨_,rfl⟩;obtain⟨y1,v⟩:∃y:Int,y=(x1.toNat:Int):=⟨_,rfl⟩;obtain⟨y2,GH⟩:∃y:Int,y=(x2.toNat:Int):=⟨_,rfl⟩;obtain⟨y3,VN⟩:∃y:Int,y=(x3.toNat:Int):=⟨_,rfl⟩;have hR:iK (A .aC .or .u32 (A .aC .or .u32 (A .aC .or .u32 (A .aC .shl .u32 (A .conv .u32 y0) 24) (A .aC .shl .u32 (A .conv .u32 y1) 16)) (A .aC .shl .u32 (A .conv .u32 y2) 8)) (A .conv .u32 y3)) (wF l i):=by rw[O];exact((((iK.YM (A:=A) B).shl (A:=A) (n:=24) (i:=24) ⟨rfl⟩ (by decide)).or (A:=A) ((iK.YM (A:=A) v).shl (A:=A) (n:=16) (i:=16) ⟨rfl⟩ (by decide))).or (A:=A) ((iK.YM (A:=A) GH).shl (A:=A) (n:=8) (i:=8) ⟨rfl⟩ (by decide))).or (A:=A) (iK.YM (A:=A) VN)
  clear p X O;cbv;refine⟨⟨K,c0⟩,?_⟩;cbv;refine N.load Ay D.eq (λcs a=>?_);have a:cs=[.int .u8 y0]:=by rw[B];exact a
  subst a;cbv;refine⟨by decide,?_⟩;cbv;refine⟨⟨K,c1⟩,?_⟩;cbv;refine N.load MK m1.eq (λcs a=>?_);have a:cs=[.int .u8 y1]:=by rw[v];exact a
  subst a;cbv;refine⟨by decide,?_⟩;cbv;refine⟨⟨K,U⟩,?_⟩;cbv;refine N.load Oc m2.eq (λcs a=>?_);have a:cs=[.int .u8 y2]:=by rw[GH];exact a
  subst a;cbv;refine⟨by decide,?_⟩;cbv;refine⟨⟨K,c3⟩,?_⟩;cbv;refine N.load Ob m3.eq (λcs a=>?_);have a:cs=[.int .u8 y3]:=by rw[VN];exact a
  subst a;cbv;refine⟨V,?_⟩;cbv;refine o2.setAt (s:=mA) (by simp[mA]) rf d.eq rfl (x:=wF l i) ⟨_,rfl,hR⟩ (λh3 k3 _ L=>?_);have E:=F h3 (l2.aE (bs:=[o]) (by simpa using eL) k3) L;clear F;cbv;refine⟨16-(i+1),A .aC .add .i64 z 1,R,by constructor<;>cbv,E⟩
 have Y:i=16:=by omega
 subst Y;have F:J 64 48 16 h2:=by rw[X];exact⟨16,⟨rfl⟩,rfl,by omega,λ_=>by omega,l2,o2⟩
 rw[ag r];clear p o2;cbv;refine aK.go (G:=Int) (λg=>[(5,.v (.int .i64 g))]) (λ_=>[(2,List.replicate 64 (.int .u32 0))]) (λw g h'=>J 64 w g h') 48 16 (by constructor<;>cbv) F ?_
 intro w z h3 I;rw[X]at I;cbv;obtain⟨i,d,hw,hi,Q,l3,L⟩:=I;have Q:=Q rfl;have p:A .az .lss z 64=decide (i<64):=by rw[aJ A,d.eq];exact decide_eq_decide.2 (by omega)
 obtain⟨g,S,H⟩:=Cg L (DC l hi);rw[p];by_cases r:i<64
 .rw[aH r];have C:=d.sub (A:=A) (w:=15) (j:=15) ⟨rfl⟩ (by omega) (by omega);have i2:=d.sub (A:=A) (w:=2) (j:=2) ⟨rfl⟩ (by omega) (by omega);have e:=d.sub (A:=A) (w:=16) (j:=16) ⟨rfl⟩ (by omega) (by omega);have t:=d.sub (A:=A) (w:=7) (j:=7) ⟨rfl⟩ (by omega) (by omega);have P:=H _ _ (uy l (i:=i) (j:=i-15) (by omega));have g2:=H _ _ (uy l (i:=i) (j:=i-2) (by omega));have ai:=H _ _ (uy l (i:=i) (j:=i-16) (by omega));have g7:=H _ _ (uy l (i:=i) (j:=i-7) (by omega));have ak:=C.ix (len:=64) (by omega);have U:=i2.ix (len:=64) (by omega);have aj:=e.ix (len:=64) (by omega);have c7:=t.ix (len:=64) (by omega);have V:=d.ix (len:=64) (by omega);have O:wF l i=wF l (i-16)+eQh (wF l (i-15))+wF l (i-7)+eQg (wF l (i-2)):=by rw[wF,if_neg (by omega),if_pos (by omega)]
  have E:∀h',Le h h'->cM 492 mA h' o 64 ((LP l i).set i (wF l i))->J 64 (64-(i+1)) (A .aC .add .i64 z 1) h':=λh' l' o'=>by
   rw[X];rw[Kg l (by omega)]at o';exact⟨i+1,d.succ (A:=A),rfl,by omega,by omega,l',o'⟩
  have R:64-(i+1)<w:=by omega
  have rf:i<(LP l i).length:=by rw[DC l (by omega)];omega
  have an:i-15<64:=by omega
  have b2:i-2<64:=by omega
  have M:i-16<64:=by omega
  have u:i-7<64:=by omega
  clear p X H;cbv;refine⟨ak,?_⟩;cbv;refine lF S C an ?_;cbv;refine⟨U,?_⟩;cbv;refine lF S i2 b2 ?_;cbv;refine⟨aj,?_⟩;cbv;refine lF S e M ?_;cbv;refine⟨by decide,?_⟩;cbv;refine⟨c7,?_⟩;cbv;refine lF S t u ?_;cbv;refine⟨by decide,?_⟩;cbv;refine nG P (n:=7) (by decide) (by decide) rfl (λw1 ML=>?_);cbv;repeat (first|(refine lF S t u ?_;cbv)|(refine lF S e M ?_;cbv)|(refine⟨⟨_,rfl,rfl⟩,?_⟩;cbv))
  refine nG P (n:=18) (by decide) (by decide) rfl (λw2 Em=>?_);cbv;repeat (first|(refine lF S t u ?_;cbv)|(refine lF S e M ?_;cbv)|(refine⟨⟨_,rfl,rfl⟩,?_⟩;cbv))
  refine nG g2 (n:=17) (by decide) (by decide) rfl (λw3 T=>?_);cbv;repeat (first|(refine lF S t u ?_;cbv)|(refine lF S e M ?_;cbv)|(refine⟨⟨_,rfl,rfl⟩,?_⟩;cbv))
  refine nG g2 (n:=19) (by decide) (by decide) rfl (λw4 W=>?_);cbv;repeat (first|(refine lF S t u ?_;cbv)|(refine lF S e M ?_;cbv)|(refine⟨⟨_,rfl,rfl⟩,?_⟩;cbv))
  refine⟨V,?_⟩;cbv;have hR:=(((ai.add (A:=A) ((ML.xor (A:=A) Em).xor (A:=A) (P.shr (A:=A) (n:=3) (i:=3) ⟨rfl⟩ (by decide)))).add (A:=A) g7).add (A:=A) ((T.xor (A:=A) W).xor (A:=A) (g2.shr (A:=A) (n:=10) (i:=10) ⟨rfl⟩ (by decide))));refine L.setAt (s:=mA) (by simp[mA]) rf d.eq rfl (x:=wF l i) ⟨_,rfl,by rw[O];exact hR⟩ (λh4 k4 _ o4=>?_);have xy:=E h4 (l3.aE (bs:=[o]) (by simpa using eL) k4) o4;clear E;cbv;refine⟨64-(i+1),A .aC .add .i64 z 1,R,by constructor<;>cbv,xy⟩
 have Z:i=64:=by omega
 subst Z;have:=hk h3 g l3 (λj hj=>H j _ (uy l hj));rw[ag r];clear hk H;cbv;refine bc S ?_;cbv;exact this
def vS(t s:W8)(i:Nat):List W:=(List.range 8).map λj=>if j<i then t.l.getD j 0+s.l.getD j 0 else t.l.getD j 0
theorem Ta(t s:W8):vS t s 8=(t.add s).l:=rfl
theorem HB(t s:W8)(h:i<8):(vS t s i).set i (t.l.getD i 0+s.l.getD i 0)=vS t s (i+1):=by
 have:i=0\/i=1\/i=2\/i=3\/i=4\/i=5\/i=6\/i=7:=by omega
 rcases this with rfl|rfl|rfl|rfl|rfl|rfl|rfl|rfl<;>rfl
theorem HC(t s:W8)(h:i<8):(vS t s i)[i]? =some (t.l.getD i 0):=by unfold vS;rw[qy,List.getElem?_range h];simp
theorem zx{T:Nat}{a b c d e f g i:Int}(q:h n=some (.cells (List.toArray (zu a b c d e f g i)) T (0,0)))(k:OA a b c d e f g i s):cM T mA h n 8 s.l:=by
 refine⟨⟨_,q,⟨mr _,λj x hx=>?_⟩,rfl⟩,mr _,by simp[W8.l]⟩;have l:j<8:=(dB.1 hx).1;have:j=0\/j=1\/j=2\/j=3\/j=4\/j=5\/j=6\/j=7:=by omega
 rcases this with rfl|rfl|rfl|rfl|rfl|rfl|rfl|rfl<;>cases hx
 .exact⟨_,rfl,k.a⟩
 .exact⟨_,rfl,k.b⟩
 .exact⟨_,rfl,k.c⟩
 .exact⟨_,rfl,k.d⟩
 .exact⟨_,rfl,k.e⟩
 .exact⟨_,rfl,k.f⟩
 .exact⟨_,rfl,k.g⟩
 exact⟨_,rfl,k.h⟩
theorem OI{T:Nat}(o:cM T mA h n 8 s.l):∃a b c d e f g i,h n=some (.cells (List.toArray (zu a b c d e f g i)) T (0,0))/\OA a b c d e f g i s:=by
 obtain⟨cs,m,p,k⟩:=o.out;have k:cs.length=8:=k;have key:∀j x,s.l[j]? =some x->∃z,cs[j]? =some (Value.int .u32 z)/\iK z x:=λj x hx=>by
  obtain⟨z,D,C⟩:=p.at hx;have M:=congrArg (λl=>l[0]?) D;simp only[hU,nM]at M;have B:mA.n=1:=rfl;rw[B]at M;exact⟨z,by simpa using M,C⟩
 obtain⟨a,q,wa⟩:=key 0 _ rfl;obtain⟨b,r,wb⟩:=key 1 _ rfl;obtain⟨c,t,wc⟩:=key 2 _ rfl;obtain⟨d,u,E⟩:=key 3 _ rfl;obtain⟨e,v,F⟩:=key 4 _ rfl;obtain⟨f,w,G⟩:=key 5 _ rfl;obtain⟨g,y,H⟩:=key 6 _ rfl;obtain⟨i,A,I⟩:=key 7 _ rfl;refine⟨a,b,c,d,e,f,g,i,?_,⟨wa,wb,wc,E,F,G,H,I⟩⟩;rw[m];have:cs=zu a b c d e f g i:=by
  apply rv;intro j;by_cases J:j<8
  .have:j=0\/j=1\/j=2\/j=3\/j=4\/j=5\/j=6\/j=7:=by omega
   rcases this with rfl|rfl|rfl|rfl|rfl|rfl|rfl|rfl<;>(first|rw[q] |rw[r] |rw[t] |rw[u] |rw[v] |rw[w] |rw[y] |rw[A])<;>rfl
  rw[qk (by omega),qk (by show 8<=j;omega)]
 rw[this]
theorem DU(z:Value)(g:Nat->Int):fa (List.replicate 64 z) 0 (wl g)=wl g:=by kernel_rfl
theorem jL{m:Nat}{o:Obj}(a:h m=some o)(b:h n=none):m≠n:=λe=>by rw[e,b]at a;cases a
theorem fQs{P a1 a2 Q R S T U:Int}(hs:OA P a1 a2 Q R S T U s){c:Nat}{l:Bs}(q:Sl e1 bS h (.slice b n c) l)(hn:l.length=64)
 (hk:∀h' B C D V E F H W,Le h h'->OA B C D V E F H W (BY s l)->k (.agg (List.toArray (zu B C D V E F H W))) h'):
 Ct 336 [.agg (List.toArray (zu P a1 a2 Q R S T U)),.slice b n c] h k:=by
 refine cp cXy Tryz.func336 λA hA=>?_;cbv;intro K h1 eE e2;have l1:Le h h1:=by rw[e2];exact Le.set eE
 have m:h1 K=some (.cells (List.toArray (zu P a1 a2 Q R S T U)) 485 (0,0)):=(congrFun e2 K).trans ae;clear e2;cbv;refine UG (q.mono (l1.t _)) hn (λh2 g X hg=>?_);have m:=X _ _ m;have X:=l1.trans X;cbv;refine bZT (λkg bk=>?_);cbv;intro u h3 yB M;have YT:Le h2 h3:=M ▸ Le.set yB;have l3:=X.trans YT;have aD:=m;have aw:=YT _ _ m;have m:=aw;have f:h3 u=some (.cells (List.toArray (List.replicate 64 (.int .u32 0))) 492 (0,0)):=(congrFun M u).trans ae;have bE:=f;clear M;cbv;intro v h4 Bx N;have KN:Le h3 h4:=N ▸ Le.set Bx;have o:h4 v=some (.cells (List.toArray (List.replicate 64 (.int .u32 0))) 492 (0,0)):=(congrFun N v).trans ae;have bg:K≠u:=jL aD yB;clear N;have m:=KN _ _ m;have f:=KN _ _ f;have bh:K≠v:=jL aw Bx;have aj:u≠v:=jL bE Bx;have z5:=X.none yB;have z6:=l3.none Bx;have l4:=l3.trans KN;cbv;refine iB f (mr _) (λh5 M=>?_);have k5:Kp [u] h4 h5:=by rw[M];exact Kp.set (by simp)
 have f:h5 u=some (.cells (List.toArray (wl g)) 492 (0,0)):=by rw[M,ae];exact congrArg (λc=>some (Obj.cells (List.toArray c) 492 (0,0))) (DU _ g)
 have m:=k5 _ _ m (by simpa using bg);have o:=k5 _ _ o (by simpa using Ne.symm aj);have l5:=l4.aE (bs:=[u]) (by simpa using z5) k5;clear M k5;cbv;refine iB o (mr _) (λh6 N=>?_);have k6:Kp [v] h5 h6:=by rw[N];exact Kp.set (by simp)
 have o:h6 v=some (.cells (List.toArray (wl kg)) 492 (0,0)):=by rw[N,ae];exact congrArg (λc=>some (Obj.cells (List.toArray c) 492 (0,0))) (DU _ kg)
 have m:=k6 _ _ m (by simpa using bh);have f:=k6 _ _ f (by simpa using aj);have l6:=l5.aE (bs:=[v]) (by simpa using z6) k6;clear N k6;cbv;refine bc m ?_;cbv;intro p h7 Z e7;have MD:Le h6 h7:=e7 ▸ Le.set Z;have a:h7 p=some (.cells (List.toArray (List.replicate 8 (.int .u32 0))) 485 (0,0)):=(congrFun e7 p).trans ae;have L:K≠p:=jL m Z;have ak:u≠p:=jL f Z;have an:v≠p:=jL o Z;have z7:=l6.none Z;have l7:=l6.trans MD;have m:=MD _ _ m;have f:=MD _ _ f;have o:=MD _ _ o;clear e7 MD;cbv;refine iB a (mr _) (λd e8=>?_);have k8:Kp [p] h7 d:=by rw[e8];exact Kp.set (by simp)
 have a:d p=some (.cells (List.toArray (zu P a1 a2 Q R S T U)) 485 (0,0)):=by rw[e8,ae];rfl
 have m:=k8 _ _ m (by simpa using L);have f:=k8 _ _ f (by simpa using ak);have o:=k8 _ _ o (by simpa using an);have l8:=l7.aE (bs:=[p]) (by simpa using z7) k8;clear e8 k8;obtain⟨J,aX⟩:∃J:Nat->Int->ab->Prop,∀w z h',J w z h'=(∃i B C D V E F H W,aM z i/\w=64-i/\i<=64/\Le h h'/\h' K=some (.cells (List.toArray (zu P a1 a2 Q R S T U)) 485 (0,0))/\h' u=some (.cells (List.toArray (wl g)) 492 (0,0))/\h' v=some (.cells (List.toArray (wl kg)) 492 (0,0))/\
  h' p=some (.cells (List.toArray (zu B C D V E F H W)) 485 (0,0))/\OA B C D V E F H W (tg l s i)):=⟨_,λ_ _ _=>rfl⟩
 have eP:J 64 0 d:=by rw[aX];exact⟨0,_,_,_,_,_,_,_,_,⟨rfl⟩,rfl,by omega,l8,m,f,o,a,hs⟩
 clear m f o a l8 l7 l6 l5 l4 l3 X KN;cbv;refine aK.go (G:=Int) (λz=>[(18,.v (.int .i64 z))]) (λ_=>[(4,List.replicate 8 (.int .u32 0))]) (λw z h'=>J w z h') 64 0 (by constructor<;>cbv) eP ?_
 intro w z h9 hI;rw[aX]at hI;cbv;obtain⟨i,B,C,D,V,E,F,H,W,j,hw,hi,l9,m,f,o,a,d⟩:=hI;have O:A .az .lss z 64=decide (i<64):=by rw[aJ A,j.eq];exact decide_eq_decide.2 (by omega)
 rw[O];by_cases e:i<64
 .rw[aH e];have r:=j.ix (len:=64) (by omega);have gk:=bk i e;have gw:=hg i e;have bF:∀h' x y,Le h h'->h' K=some (.cells (List.toArray (zu P a1 a2 Q R S T U)) 485 (0,0))->h' u=some (.cells (List.toArray (wl g)) 492 (0,0))->h' v=some (.cells (List.toArray (wl kg)) 492 (0,0))->
   h' p=some (.cells (List.toArray (zu x B C D y E F H)) 485 (0,0))->OA x B C D y E F H (aXb (tg l s i) (BJ.getD i 0) (wF l i))->J (64-(i+1)) (A .aC .add .i64 z 1) h':=λh' x y l' q2 q5 q6 Y q8=>by
   rw[aX];exact⟨i+1,_,_,_,_,_,_,_,_,j.succ (A:=A),rfl,by omega,l',q2,q5,q6,Y,q8⟩
  have aI:64-(i+1)<w:=by omega
  clear aX eP O;generalize tg l s i=t at *;cbv;repeat ((first|refine dZ (i:=4) rfl a rfl ?_|refine dZ (i:=0) rfl a rfl ?_|refine dZ (i:=7) rfl a rfl ?_|refine dZ (i:=5) rfl a rfl ?_|refine dZ (i:=6) rfl a rfl ?_|refine dZ (i:=1) rfl a rfl ?_|refine dZ (i:=2) rfl a rfl ?_|refine dZ (i:=3) rfl a rfl ?_|refine lF o j e ?_|refine lF f j e ?_|refine⟨by decide,?_⟩ |refine⟨r,?_⟩ |refine⟨⟨_,rfl,rfl⟩,?_⟩);cbv)
  refine nG d.e (n:=6) (by decide) (by decide) rfl (λw6 bj=>?_);cbv;repeat ((first|refine dZ (i:=4) rfl a rfl ?_|refine dZ (i:=0) rfl a rfl ?_|refine dZ (i:=7) rfl a rfl ?_|refine dZ (i:=5) rfl a rfl ?_|refine dZ (i:=6) rfl a rfl ?_|refine dZ (i:=1) rfl a rfl ?_|refine dZ (i:=2) rfl a rfl ?_|refine dZ (i:=3) rfl a rfl ?_|refine lF o j e ?_|refine lF f j e ?_|refine⟨by decide,?_⟩ |refine⟨r,?_⟩ |refine⟨⟨_,rfl,rfl⟩,?_⟩);cbv)
  refine nG d.e (n:=11) (by decide) (by decide) rfl (λca bd=>?_);cbv;repeat ((first|refine dZ (i:=4) rfl a rfl ?_|refine dZ (i:=0) rfl a rfl ?_|refine dZ (i:=7) rfl a rfl ?_|refine dZ (i:=5) rfl a rfl ?_|refine dZ (i:=6) rfl a rfl ?_|refine dZ (i:=1) rfl a rfl ?_|refine dZ (i:=2) rfl a rfl ?_|refine dZ (i:=3) rfl a rfl ?_|refine lF o j e ?_|refine lF f j e ?_|refine⟨by decide,?_⟩ |refine⟨r,?_⟩ |refine⟨⟨_,rfl,rfl⟩,?_⟩);cbv)
  refine nG d.e (n:=25) (by decide) (by decide) rfl (λbG aW=>?_);cbv;repeat ((first|refine dZ (i:=4) rfl a rfl ?_|refine dZ (i:=0) rfl a rfl ?_|refine dZ (i:=7) rfl a rfl ?_|refine dZ (i:=5) rfl a rfl ?_|refine dZ (i:=6) rfl a rfl ?_|refine dZ (i:=1) rfl a rfl ?_|refine dZ (i:=2) rfl a rfl ?_|refine dZ (i:=3) rfl a rfl ?_|refine lF o j e ?_|refine lF f j e ?_|refine⟨by decide,?_⟩ |refine⟨r,?_⟩ |refine⟨⟨_,rfl,rfl⟩,?_⟩);cbv)
  refine nG d.a (n:=2) (by decide) (by decide) rfl (λw2 Em=>?_);cbv;repeat ((first|refine dZ (i:=4) rfl a rfl ?_|refine dZ (i:=0) rfl a rfl ?_|refine dZ (i:=7) rfl a rfl ?_|refine dZ (i:=5) rfl a rfl ?_|refine dZ (i:=6) rfl a rfl ?_|refine dZ (i:=1) rfl a rfl ?_|refine dZ (i:=2) rfl a rfl ?_|refine dZ (i:=3) rfl a rfl ?_|refine lF o j e ?_|refine lF f j e ?_|refine⟨by decide,?_⟩ |refine⟨r,?_⟩ |refine⟨⟨_,rfl,rfl⟩,?_⟩);cbv)
  refine nG d.a (n:=13) (by decide) (by decide) rfl (λcd bn=>?_);cbv;repeat ((first|refine dZ (i:=4) rfl a rfl ?_|refine dZ (i:=0) rfl a rfl ?_|refine dZ (i:=7) rfl a rfl ?_|refine dZ (i:=5) rfl a rfl ?_|refine dZ (i:=6) rfl a rfl ?_|refine dZ (i:=1) rfl a rfl ?_|refine dZ (i:=2) rfl a rfl ?_|refine dZ (i:=3) rfl a rfl ?_|refine lF o j e ?_|refine lF f j e ?_|refine⟨by decide,?_⟩ |refine⟨r,?_⟩ |refine⟨⟨_,rfl,rfl⟩,?_⟩);cbv)
  refine nG d.a (n:=22) (by decide) (by decide) rfl (λcb bm=>?_);cbv;repeat ((first|refine dZ (i:=4) rfl a rfl ?_|refine dZ (i:=0) rfl a rfl ?_|refine dZ (i:=7) rfl a rfl ?_|refine dZ (i:=5) rfl a rfl ?_|refine dZ (i:=6) rfl a rfl ?_|refine dZ (i:=1) rfl a rfl ?_|refine dZ (i:=2) rfl a rfl ?_|refine dZ (i:=3) rfl a rfl ?_|refine lF o j e ?_|refine lF f j e ?_|refine⟨by decide,?_⟩ |refine⟨r,?_⟩ |refine⟨⟨_,rfl,rfl⟩,?_⟩);cbv)
  have hX:=((((d.h.add (A:=A) ((bj.xor (A:=A) bd).xor (A:=A) aW)).add (A:=A) ((d.e.and (A:=A) d.f).xor (A:=A) ((d.e.not (A:=A)).and (A:=A) d.g))).add (A:=A) gk).add (A:=A) gw);have hY:=((Em.xor (A:=A) bn).xor (A:=A) bm).add (A:=A) (((d.a.and (A:=A) d.b).xor (A:=A) (d.a.and (A:=A) d.c)).xor (A:=A) (d.b.and (A:=A) d.c));refine iB a (mr _) (λlI sV=>?_);have NY:Kp [p] h9 lI:=by rw[sV];exact Kp.set (by simp)
  have Y:lI p=some (.cells (List.toArray (zu _ B C D _ E F H)) 485 (0,0)):=(congrFun sV p).trans ae;have dt:=bF lI _ _ (l9.aE (bs:=[p]) (by simpa using z7) NY) (NY _ _ m (by simpa using L)) (NY _ _ f (by simpa using ak)) (NY _ _ o (by simpa using an)) Y ⟨hX.add (A:=A) hY,d.a,d.b,d.c,d.d.add (A:=A) hX,d.e,d.f,d.g⟩;clear bF sV;cbv;refine⟨64-(i+1),A .aC .add .i64 z 1,aI,by constructor<;>cbv,dt⟩
 have aP:i=64:=by omega
 subst aP;generalize ht:tg l s 64=t at *;have ai:BY s l=t.add s:=by unfold BY;rw[ht]
 rw[ai]at hk;clear ai ht;rw[ag e];obtain⟨I,gX⟩:∃I:Nat->Int->ab->Prop,∀w z h',I w z h'=(∃i,aM z i/\w=8-i/\i<=8/\Le h h'/\cM 485 mA h' K 8 s.l/\cM 485 mA h' p 8 (vS t s i)):=⟨_,λ_ _ _=>rfl⟩;have sS:I 8 0 h9:=by rw[gX];exact⟨0,⟨rfl⟩,rfl,by omega,l9,zx m hs,zx a d⟩
 clear m f o a aX eP O;cbv;refine aK.go (G:=Int) (λz=>[(100,.v (.int .i64 z))]) (λ_=>[(4,List.replicate 8 (.int .u32 0))]) (λw z h'=>I w z h') 8 0 (by constructor<;>cbv) sS ?_
 intro w z lI hI;rw[gX]at hI;cbv;obtain⟨i,j,hw,hi,pM,o2,o7⟩:=hI;have O:A .az .lss z 8=decide (i<8):=by rw[aJ A,j.eq];exact decide_eq_decide.2 (by omega)
 rw[O];by_cases e:i<8
 .rw[aH e];have r:=j.ix (len:=8) (by omega);have aI:8-(i+1)<w:=by omega
  have br:=HC t s e;have Oc:s.l[i]? =some (s.l.getD i 0):=by rw[xa,zs (show i<s.l.length from e)];rfl
  have pY:∀h',Le h h'->cM 485 mA h' K 8 s.l->cM 485 mA h' p 8 ((vS t s i).set i (t.l.getD i 0+s.l.getD i 0))->I (8-(i+1)) (A .aC .add .i64 z 1) h':=λh' l' q2 Y=>by
   rw[gX];rw[HB t s e]at Y;exact⟨i+1,j.succ (A:=A),rfl,by omega,l',q2,Y⟩
  have rf:i<(vS t s i).length:=by unfold vS;simpa using e
  clear gX sS O;cbv;refine⟨r,?_⟩;cbv;refine(o7.sl (n:=8) rfl).load br j.eq (λcs au=>?_);obtain⟨u7,rfl,bx⟩:=au;cbv;refine⟨r,?_⟩;cbv;refine(o2.sl (n:=8) rfl).load Oc j.eq (λcs au=>?_);obtain⟨u2,rfl,VT⟩:=au;cbv;refine⟨r,?_⟩;cbv;refine o7.setAt (s:=mA) (by simp[mA]) rf j.eq rfl ⟨_,rfl,bx.add (A:=A) VT⟩ (λyD YW _ bB=>?_);have HY:=pY yD (pM.aE (bs:=[p]) (by simpa using z7) YW) (o2.kp YW (by simpa using L) (λ_ _ _ _ hm _=>by cases hm)) bB;clear pY;cbv;refine⟨8-(i+1),A .aC .add .i64 z 1,aI,by constructor<;>cbv,HY⟩
 have bl:i=8:=by omega
 subst bl;rw[ag e];rw[Ta]at o7;obtain⟨c0,c1,c2,c3,c4,c5,c6,c7,a,w8⟩:=OI o7;have:=hk lI c0 c1 c2 c3 c4 c5 c6 c7 pM w8;clear hk gX sS O;cbv;refine bc a ?_;cbv;exact this
def Ul(n i:Nat):UInt8:=u8 ((n*8 % 2^64 / 2^(56-8*i):Nat):Int)
theorem sL(n:Nat):(Hx n).length=8:=rfl
theorem hXi[a:aV A](j:n<=2^40){N:Int}(e:aM N (n*8))(f:aM z i)(g:i<8):
 0<=A .aC .sub .i64 56 (A .aC .mul .i64 8 z)/\bS.R h [.int .u8 (A .conv .u8 (A .aC .shr .u64 N (A .aC .sub .i64 56 (A .aC .mul .i64 8 z))))] (Ul n i):=by
 have b:A .aC .mul .i64 8 z=((8*i:Nat):Int):=by rw[a.aC,f.eq];show IntKind.i64.wrap (8*(i:Int))=_;rw[IntWalk.i64_in _ (by omega)];omega
 have c:A .aC .sub .i64 56 ((8*i:Nat):Int)=((56-8*i:Nat):Int):=by rw[a.aC];show IntKind.i64.wrap (56-((8*i:Nat):Int))=_;rw[IntWalk.i64_in _ (by omega)];omega
 have d:A .aC .shr .u64 N ((56-8*i:Nat):Int)=((n*8 % 2^64 / 2^(56-8*i):Nat):Int):=by rw[a.aC,e.eq];show((n*8:Nat):Int).fdiv (2^(min ((56-8*i:Nat):Int).toNat 64))=_;rw[show min ((56-8*i:Nat):Int).toNat 64=56-8*i by omega,hJU _ (Int.le_of_lt (Int.pow_pos (by decide))),Nat.mod_eq_of_lt (by omega)];norm_cast
 rw[b,c,d];exact⟨by omega,iA _⟩
theorem Vj(l0:Le h0 h){c:Nat}{l:Bs}(q:aT 5 bS h0 h (.slice b n c) l)(hn:n<=2^38)
 (V:∀h' a n' c',Le h0 h'->(∀tys,5∉tys->cf tys h h')->aT 5 bS h0 h' (.slice a n' c') (Af l)->k (.slice a n' c') h'):
 Ct 335 [.slice b n c] h k:=by
 obtain⟨A,D⟩:=Ar.ex;have F:=q.sl.len;obtain⟨N,K⟩:∃N,N=A .aC .mul .u64 (A .conv .u64 (A .nat n)) 8:=⟨_,rfl⟩;have hN:aM N (l.length*8):=⟨by
  rw[K,D.nat,D.conv,D.aC,<-F];show IntKind.u64.wrap (IntKind.u64.wrap (n:Int)*8)=_;rw[ma,ma];omega⟩
 obtain⟨J,X⟩:∃J:Nat->(Option Addr×Nat×Nat)->ab->Prop,∀w g h',J w g h'=(∃j,w=ki l.length-j/\j<=ki l.length/\Le h0 h'/\(∀tys,5∉tys->cf tys h h')/\aT 5 bS h0 h' (.slice g.1 g.2.1 g.2.2) (l++[128]++List.replicate j 0)):=⟨_,λ_ _ _=>rfl⟩;refine dH cXz A Tryz.func335 ?_;cbv;intro n1 h1 eL e1;have Y:Le h h1:=by rw[e1];exact Le.set eL
 have q1:=bC (s:=bS) (x:=128) ((congrFun e1 n1).trans ae) rfl;clear e1;cbv;refine(q.mono (Y.t _)).app q1 (by decide) rfl (by decide) (by omega) (l0.trans Y) (λm2 b2 c2 h2 GQ l2 t2 k2 q2=>?_);have T:J (ki l.length) (b2,m2,c2) h2:=by rw[X];exact⟨0,rfl,qT _,l2,λtys t=>(Y.t _).trans (t2 _ t),by simpa using q2⟩
 clear k2;cbv;rw[<-K];refine aK.go (G:=Option Addr×Nat×Nat) (λg=>[(0,.v (.slice g.1 g.2.1 g.2.2))]) (λ_=>[]) (λw g h'=>J w g h') (ki l.length) (b2,m2,c2) (by constructor<;>cbv) T ?_
 intro w g M E;rw[X]at E;cbv;obtain⟨p,m,r⟩:=g;obtain⟨j,hw,hj,l3,t3,f⟩:=E;have f:aT 5 bS h0 M (.slice p m r) (l++[128]++List.replicate j 0):=f;have Z:m=l.length+1+j:=by have:=f.sl.len;simp at this;omega
 have ai:ki l.length<64:=hKv _ (by decide);have o:A .az .neq (A .aC .rem .i64 (A .nat m) 64) 56=decide (j<ki l.length):=by rw[av A,D.aC,D.nat];show decide (((m:Int)).tmod 64≠56)=_;rw[hKp (by omega)];refine decide_eq_decide.2 ?_;unfold ki at *;omega
 have bF:∀h' a m' c',j<ki l.length->Le h0 h'->(∀tys,5∉tys->cf tys M h')->aT 5 bS h0 h' (.slice a m' c') (l++[128]++List.replicate j 0++[0])->J (ki l.length-(j+1)) (a,m',c') h':=λh' a m' c' B W t' Q=>by
  rw[X];refine⟨j+1,rfl,B,W,λtys t=>(t3 _ t).trans (t' _ t),?_⟩;rw[ym,<-List.replicate_succ']at Q;exact Q
 refine⟨by decide,?_⟩;cbv;rw[o];by_cases d:j<ki l.length
 .rw[aH d];have B:ki l.length-(j+1)<w:=by omega
  clear o X T;generalize l++[128]++List.replicate j 0=cur at *;cbv;intro n4 u HS R;have v:Le M u:=by rw[R];exact Le.set HS
  have e:=bC (s:=bS) (x:=0) ((congrFun R n4).trans ae) rfl;clear R;cbv;refine(f.mono (v.t _)).app e (by decide) rfl (by decide) (by omega) (l3.trans v) (λm5 b5 c5 U Of L t5 k5 q5=>?_);have dt:=bF U b5 m5 c5 d L (λtys t=>(v.t _).trans (t5 _ t)) q5;clear k5;cbv;refine⟨_,(b5,m5,c5),B,by constructor<;>cbv,dt⟩
 rw[ag d];have hj:j=ki l.length:=by omega
 subst hj;clear o bF;obtain⟨P,O⟩:∃P,P=l++[128]++List.replicate (ki l.length) 0:=⟨_,rfl⟩;have aD:Af l=P++Hx l.length:=by rw[O];rfl
 have HW:P.length<=2^38+100:=by rw[O];simp;omega
 rw[<-O]at f;rw[aD]at V;obtain⟨I,C⟩:∃I:Nat->(Int×Option Addr×Nat×Nat)->ab->Prop,∀w g h',I w g h'=(∃i,aM g.1 i/\w=8-i/\i<=8/\Le h0 h'/\(∀tys,5∉tys->cf tys h h')/\aT 5 bS h0 h' (.slice g.2.1 g.2.2.1 g.2.2.2) (P++(Hx l.length).take i)):=⟨_,λ_ _ _=>rfl⟩;have sS:I 8 (0,p,m,r) M:=by rw[C];exact⟨0,⟨rfl⟩,rfl,by omega,l3,t3,by simpa using f⟩
 clear X T O aD f;cbv;refine aK.go (G:=Int×Option Addr×Nat×Nat) (λg=>[(19,.v (.int .i64 g.1)),(0,.v (.slice g.2.1 g.2.2.1 g.2.2.2))]) (λ_=>[]) (λw g h'=>I w g h') 8 (0,p,m,r) (by constructor<;>cbv) sS ?_
 intro w g u E;rw[C]at E;cbv;obtain⟨z,p,m,r⟩:=g;obtain⟨i,H,hw,hi,v,t4,e⟩:=E;have H:aM z i:=H;have e:aT 5 bS h0 u (.slice p m r) (P++(Hx l.length).take i):=e;have Z:=e.sl.len;rw[dr,dW,sL]at Z;have o:A .az .lss z 8=decide (i<8):=by rw[aJ A,H.eq];exact decide_eq_decide.2 (by omega)
 rw[o];by_cases d:i<8
 .rw[aH d];obtain⟨ea,hR⟩:=hXi (A:=A) (h:=u) (n:=l.length) (by omega) hN H d;have mE:(Hx l.length).take (i+1)=(Hx l.length).take i++[Ul l.length i]:=oR (Ul l.length) d;have pY:∀h' m' a c',Le h0 h'->(∀tys,5∉tys->cf tys h h')->aT 5 bS h0 h' (.slice a m' c') (P++(Hx l.length).take i++[Ul l.length i])->I (8-(i+1)) (A .aC .add .i64 z 1,a,m',c') h':=λh' m' a c' W t' Q=>by
   rw[C];exact⟨i+1,H.succ (A:=A),rfl,d,W,t',by rw[mE,<-ym];exact Q⟩
  have B:8-(i+1)<w:=by omega
  have lS:m+1<=2^39:=by omega
  clear o C sS mE Z;generalize Ul l.length i=y at *;generalize P++(Hx l.length).take i=cur at *;cbv;refine⟨ea,?_⟩;cbv;intro n5 U yB S;have L:Le u U:=by rw[S];exact Le.set yB
  have q5:=bC (s:=bS) ((congrFun S n5).trans ae) hR;clear S;cbv;refine(e.mono (L.t _)).app q5 (by decide) rfl (by decide) lS (v.trans L) (λm6 b6 c6 h6 QU l6 t6 k6 q6=>?_);have HY:=pY h6 m6 b6 c6 l6 (λtys t=>(t4 _ t).trans ((L.t _).trans (t6 _ t))) q6;clear pY k6;cbv;refine⟨8-(i+1),(_,b6,m6,c6),B,by constructor<;>cbv,HY⟩
 rw[ag d];have hi:i=8:=by omega
 rw[hO (by rw[sL];omega)]at e;have:=V u p m r v t4 e;clear V C sS;cbv;exact this
def hl(g:Nat->Int):List Value:=[.int .u8 (g 0),.int .u8 (g 1),.int .u8 (g 2),.int .u8 (g 3),.int .u8 (g 4),.int .u8 (g 5),.int .u8 (g 6),.int .u8 (g 7),.int .u8 (g 8),.int .u8 (g 9),.int .u8 (g 10),.int .u8 (g 11),.int .u8 (g 12),.int .u8 (g 13),.int .u8 (g 14),.int .u8 (g 15),.int .u8 (g 16),.int .u8 (g 17),.int .u8 (g 18),.int .u8 (g 19),.int .u8 (g 20),.int .u8 (g 21),.int .u8 (g 22),.int .u8 (g 23),.int .u8 (g 24),.int .u8 (g 25),.int .u8 (g 26),.int .u8 (g 27),.int .u8 (g 28),.int .u8 (g 29),.int .u8 (g 30),.int .u8 (g 31)]
def iX(v:Value)(d s:Int)(g:Nat->Int):List Value:=[v,.int .u32 d,.int .i32 s,.int .u32 0,.int .u8 (g 0),.int .u8 (g 1),.int .u8 (g 2),.int .u8 (g 3),.int .u8 (g 4),.int .u8 (g 5),.int .u8 (g 6),.int .u8 (g 7),.int .u8 (g 8),.int .u8 (g 9),.int .u8 (g 10),.int .u8 (g 11),.int .u8 (g 12),.int .u8 (g 13),.int .u8 (g 14),.int .u8 (g 15),.int .u8 (g 16),.int .u8 (g 17),.int .u8 (g 18),.int .u8 (g 19),.int .u8 (g 20),.int .u8 (g 21),.int .u8 (g 22),.int .u8 (g 23),.int .u8 (g 24),.int .u8 (g 25),.int .u8 (g 26),.int .u8 (g 27),.int .u8 (g 28),.int .u8 (g 29),.int .u8 (g 30),.int .u8 (g 31)]
theorem AG(g:Nat->Int):hl g=(List.range 32).map λi=>Value.int .u8 (g i):=rfl
theorem QF(v:Value)(d s:Int)(g:Nat->Int):iX v d s g=[v,.int .u32 d,.int .i32 s,.int .u32 0]++hl g:=rfl
theorem tY(g:Nat->Int)(x:Int)(h:i<32):(hl g).set i (.int .u8 x)=hl (λj=>if j=i then x else g j):=by
 rw[AG,AG];apply rv;intro j;rw[hJN,qy,qy];by_cases a:j<32
 .rw[List.getElem?_range a];by_cases e:i=j
  .rw[if_pos e,if_pos (by simpa using h)];subst e;simp
  rw[if_neg e];simp[Ne.symm e]
 rw[qk (by simp;omega),if_neg (by omega)];rfl
theorem VW(v:Value)(d s:Int)(g:Nat->Int)(x:Int)(h:i<32):(iX v d s g).set (4+i) (.int .u8 x)=iX v d s (λj=>if j=i then x else g j):=by
 rw[QF,QF,<-tY g x h,iQs _ _ (by simp)];have:4+i-([v,.int .u32 d,.int .i32 s,.int .u32 0]:List Value).length=i:=by show 4+i-4=i;omega
 rw[this]
theorem Yx[a:aV A]{T o:Nat}{v:Value}{k:ab->Prop}(d:aM z i)(q:h n=some (.cells (List.toArray c) T (0,0)))(f:o+i<c.length)
 (b:∀h',h'=bH h n (.cells (List.toArray (c.set (o+i) v)) T (0,0))->k h'):HG h (A .fM (some ⟨n,o,none⟩) z 1) [v] k:=by
 have e:A .fM (some ⟨n,o,none⟩) z 1=⟨n,o+i,none⟩:=by rw[a.fM,d.eq];simp[fM,bL]
 rw[e];exact iB q (by show o+i+1<=_;omega) b
theorem qZ{b:Bs}(c:b.length=32)(h:∀i x,b[i]? =some x->g i=(x.toNat:Int)):hl g=aA b:=by
 rw[AG];unfold aA;apply rv;intro i;rw[qy,qy];by_cases a:i<32
 .obtain⟨x,hx⟩:=di b i;rw[List.getElem?_range a,hx,Option.map_some,Option.map_some,h i x hx]
 rw[qk (by simp;omega),qk (by omega)];rfl
theorem AH{b:Bs}(h:b.length=32):∃g,hl g=aA b:=⟨λi=>((b.getD i 0).toNat:Int),qZ h λi x hx=>by rw[xa,hx];rfl⟩
theorem Gn(s:W8)(h:j<32):(My s)[j]? =some (wB (s.l.getD (j / 4) 0) (j % 4)):=by have:My s=(List.range 32).map λj=>wB (s.l.getD (j / 4) 0) (j % 4):=rfl;rw[this,qy,List.getElem?_range h];rfl
theorem Gl(l:Bs):(Af l).length % 64=0:=by unfold Af;simp only[dr,hJB,hJE,hJD,sL];unfold ki;omega
theorem iK.byte[d:aV A]{u:Int}{w:W}(e:iK u w)(f:aM z i):
 0<=A .aC .sub .i64 24 (A .aC .mul .i64 8 (A .aC .rem .i64 z 4))/\A .conv .u8 (A .aC .shr .u32 u (A .aC .sub .i64 24 (A .aC .mul .i64 8 (A .aC .rem .i64 z 4))))=((wB w (i % 4)).toNat:Int):=by
 have b:A .aC .sub .i64 24 (A .aC .mul .i64 8 (A .aC .rem .i64 z 4))=((24-8*(i % 4):Nat):Int):=by rw[d.aC,f.eq];show IntKind.i64.wrap (24-IntKind.i64.wrap (8*((i:Int)).tmod 4))=_;rw[hKp (by omega),IntWalk.i64_in (8*((i:Int) % 4)) (by omega),IntWalk.i64_in _ (by omega)];omega
 rw[b];refine⟨by omega,?_⟩;have c:=(e.shr (A:=A) (n:=((24-8*(i % 4):Nat):Int)) (i:=24-8*(i % 4)) ⟨rfl⟩ (by omega)).eq;rw[c];have a:=iA (A:=A) (h:=λ_=>none) (((w >>> (24-8*(i % 4))).toNat:Nat):Int);have a:[Value.int .u8 (A .conv .u8 (((w >>> (24-8*(i % 4))).toNat:Nat):Int))]=[.int .u8 ((u8 (((w >>> (24-8*(i % 4))).toNat:Nat):Int)).toNat:Int)]:=a;injection a with a _
 injection a with _ a
theorem bJx(l0:Le h0 h){p:Nat}{c:Nat}{l:Bs}(q:aT 5 bS h0 h (.slice b n c) l)(gp:h p=some (.cells (List.toArray (iX (.slice b n c) 0 1 λ_=>0)) 439 (0,0)))(hp:h0 p=none)(hn:n<=2^38)
 (hk:∀h' g,Le h0 h'->h' p=some (.cells (List.toArray (iX (.slice b n c) 0 1 g)) 439 (0,0))->hl g=aA (Mg l)->k (.tuple #[]) h'):
 Ct 288 [.pointer (some ⟨p,0,none⟩)] h k:=by
 have QG:Mg l=My (gQ jl (Af l)):=rfl;have L:=Gl l;rw[QG]at hk;clear QG;refine cp cZd Tryz.func288 λA hA=>?_;cbv;refine aKp (λa0 a1 a2 a3 a4 a5 a6 a7 h8=>?_);cbv;intro a h1 eE e1;have P:Le h h1:=by rw[e1];exact Le.set eE
 have d:h1 a=some (.cells (List.toArray (List.replicate 8 (.int .u32 0))) 485 (0,0)):=(congrFun e1 a).trans ae;have y:p≠a:=jL gp eE;have z2:=l0.none eE;have q1:=q.mono (P.t _);have Ib:=P _ _ gp;have P:=l0.trans P;clear e1;cbv;refine iB d (mr _) (λh2 e2=>?_);have k2:Kp [a] h1 h2:=by rw[e2];exact Kp.set (by simp)
 have q2:aT 5 bS h0 h2 (.slice b n c) l:=q1.mono (by rw[e2];exact cf.set d (by decide));have d:h2 a=some (.cells (List.toArray (zu a0 a1 a2 a3 a4 a5 a6 a7)) 485 (0,0)):=by rw[e2,ae];rfl
 have Ha:=k2 _ _ Ib (by simpa using y);have l2:=P.aE (bs:=[a]) (by simpa using z2) k2;clear e2 k2 Ib;cbv;rw[ao A];refine bc Ha ?_;cbv;refine Vj l2 q2 hn (λh3 C m3 c3 l3 t3 q3=>?_);have d:=t3 [485] (by decide) _ _ _ _ (by simp) d;have RD:=t3 [439] (by decide) _ _ _ _ (by simp) Ha;have q3:=q3.sl;obtain⟨J,X⟩:∃J:Nat->(Option Addr×Nat×Nat)->ab->Prop,∀w g h',J w g h'=(∃b0 b1 b2 C b4 b5 b6 b7 S r,w=g.2.1/\Le h0 h'/\Sl 5 bS h' (.slice g.1 g.2.1 g.2.2) r/\r.length % 64=0/\gQ S r=gQ jl (Af l)/\OA b0 b1 b2 C b4 b5 b6 b7 S/\
  h' a=some (.cells (List.toArray (zu b0 b1 b2 C b4 b5 b6 b7)) 485 (0,0))/\h' p=some (.cells (List.toArray (iX (.slice b n c) 0 1 λ_=>0)) 439 (0,0))):=⟨_,λ_ _ _=>rfl⟩
 have eP:J m3 (C,m3,c3) h3:=by rw[X];exact⟨_,_,_,_,_,_,_,_,_,_,rfl,l3,q3,L,rfl,h8,d,RD⟩
 generalize gQ jl (Af l)=F at *;clear d RD Ha t3 q3 q2 l2 q1 L;cbv;refine aK.go (G:=Option Addr×Nat×Nat) (λg=>[(3,.v (.slice g.1 g.2.1 g.2.2))]) (λ_=>[]) (λw g h'=>J w g h') m3 (C,m3,c3) (by constructor<;>cbv) eP ?_
 intro w g h4 N;rw[X]at N;cbv;obtain⟨gb,m,o⟩:=g;obtain⟨b0,b1,b2,C,b4,b5,b6,b7,S,r,hw,l4,K,BT,hS,w8,d,Nh⟩:=N;have hw:w=m:=hw;have K:Sl 5 bS h4 (.slice gb m o) r:=K;have pW:=K.len;have iD:=K.bound;have D:A .az .gtr (A .nat m) 0=decide (64<=r.length):=by rw[aO A,hA.nat];refine decide_eq_decide.2 ?_;show(m:Int)>0↔_;omega
 have Q:gQ S r=if h:64<=r.length then gQ (BY S (r.take 64)) (r.drop 64)else S:=by rw[gQ]
 rw[D];by_cases t:64<=r.length
 .rw[dif_pos t,hS]at Q;rw[aH t];have f:aM 64 64:=⟨rfl⟩;have ea:(0:Int)<=64/\(64:Int)<=(o:Int):=by omega
  have jT:(0:Int)<=64/\(64:Int)<=(m:Int):=by omega
  have ak:=cQ (A:=A) f;have Fm:=bZ (A:=A) (n:=m) f;have Ly:=bZ (A:=A) (n:=o) f;have tk:=K.pw (A:=A) (z:=A .nat o) (i:=64) (by omega) rfl;have td:=K.gT (A:=A) f (by omega) rfl rfl;have aI:m-64<w:=by omega
  have vY:(r.take 64).length=64:=by rw[dW];omega
  have aj:(r.drop 64).length % 64=0:=by rw[ec];omega
  have bF:∀h' R T U V W Y Z x7,Le h0 h'->Sl 5 bS h' (.slice (A .cut gb 64 (A .nat o) 1) (m-64) (o-64)) (r.drop 64)->OA R T U V W Y Z x7 (BY S (r.take 64))->h' a=some (.cells (List.toArray (zu R T U V W Y Z x7)) 485 (0,0))->
   h' p=some (.cells (List.toArray (iX (.slice b n c) 0 1 λ_=>0)) 439 (0,0))->J (m-64) (A .cut gb 64 (A .nat o) 1,m-64,o-64) h':=λh' R T U V W Y Z x7 l' q' w' g' an=>by
   rw[X];exact⟨_,_,_,_,_,_,_,_,_,_,rfl,l',q',aj,Q.symm,w',g',an⟩
  clear X eP D hS Q;cbv;refine bc d ?_;cbv;refine⟨ea,?_⟩;cbv;rw[ak];refine fQs w8 tk vY (λh5 R T U V W Y Z x7 B w5=>?_);have g5:=B _ _ d;have Ia:=B _ _ Nh;have ai:=td.mono (B.t _);cbv;refine iB g5 (mr _) (λE s=>?_);have O:Kp [a] h5 E:=by rw[s];exact Kp.set (by simp)
  have g6:E a=some (.cells (List.toArray (zu R T U V W Y Z x7)) 485 (0,0)):=by rw[s,ae];rfl
  have dt:=bF E _ _ _ _ _ _ _ _ ((l4.trans B).aE (bs:=[a]) (by simpa using z2) O) (ai.mono (by rw[s];exact cf.set g5 (by decide))) w5 g6 (O _ _ Ia (by simpa using y));clear bF s;cbv;refine⟨jT,?_⟩;cbv;rw[Fm,Ly];refine⟨_,(_,m-64,o-64),aI,by constructor<;>cbv,dt⟩
 rw[ag t];rw[dif_neg t,hS]at Q;subst Q;obtain⟨I,M⟩:∃I:Nat->Int->ab->Prop,∀w z h',I w z h'=(∃i g,aM z i/\w=32-i/\i<=32/\Le h0 h'/\cM 485 mA h' a 8 F.l/\h' p=some (.cells (List.toArray (iX (.slice b n c) 0 1 g)) 439 (0,0))/\∀j,j<i->g j=((wB (F.l.getD (j / 4) 0) (j % 4)).toNat:Int)):=⟨_,λ_ _ _=>rfl⟩;have sS:I 32 0 h4:=by rw[M];exact⟨0,_,⟨rfl⟩,rfl,by omega,l4,zx d w8,Nh,λj hj=>by omega⟩
 clear X eP D d Nh hS;cbv;refine aK.go (G:=Int) (λz=>[(20,.v (.int .i64 z))]) (λ_=>[]) (λw z h'=>I w z h') 32 0 (by constructor<;>cbv) sS ?_
 intro w z h5 N;rw[M]at N;cbv;obtain⟨i,g,H,hw,hi,B,o5,Ia,v⟩:=N;have D:A .az .lss z 32=decide (i<32):=by rw[aJ A,H.eq];exact decide_eq_decide.2 (by omega)
 rw[D];by_cases t:i<32
 .rw[aH t];have hq:aM (A .aC .quo .i64 z 4) (i / 4):=⟨by
   rw[hA.aC,H.eq];show IntKind.i64.wrap ((i:Int).tdiv 4)=_;rw[iQr (by omega),IntWalk.i64_in _ (by omega)];omega⟩
  have cq:=hq.ix (len:=8) (by omega);have cz:=H.ix (len:=32) (by omega);have aI:32-(i+1)<w:=by omega
  have hx:F.l[i / 4]? =some (F.l.getD (i / 4) 0):=by rw[xa,zs (show i / 4<F.l.length from(by show i / 4<8;omega))];rfl
  have pY:∀h' x,x=((wB (F.l.getD (i / 4) 0) (i % 4)).toNat:Int)->Le h0 h'->cM 485 mA h' a 8 F.l->h' p=some (.cells (List.toArray ((iX (.slice b n c) 0 1 g).set (4+i) (.int .u8 x))) 439 (0,0))->I (32-(i+1)) (A .aC .add .i64 z 1) h':=λh' x hx l' o' g'=>by
   rw[M];rw[VW _ _ _ _ _ t]at g';refine⟨i+1,_,H.succ (A:=A),rfl,by omega,l',o',g',λj hj=>?_⟩;show(if j=i then x else g j)=_;split
   .rename_i e;rw[e,hx]
   exact v j (by omega)
  clear M sS D v;cbv;refine⟨by decide,?_⟩;cbv;refine⟨cq,?_⟩;cbv;refine(o5.sl (n:=8) rfl).load hx hq.eq (λcs au=>?_);obtain⟨u,rfl,hu⟩:=au;obtain⟨ea,lT⟩:=hu.byte (A:=A) H;cbv;refine⟨by decide,?_⟩;cbv;refine⟨ea,?_⟩;cbv;refine⟨cz,?_⟩;cbv;rw[ao A];refine Yx H Ia (by show 0+4+i<36;omega) (λE s=>?_);have O:Kp [p] h5 E:=by rw[s];exact Kp.set (by simp)
  have dt:=pY E _ lT (B.aE (bs:=[p]) (by simpa using hp) O) (o5.kp O (by simpa using Ne.symm y) (λ_ _ _ _ hm _=>by cases hm)) (by rw[s,ae]);clear pY s;cbv;refine⟨_,A .aC .add .i64 z 1,aI,by constructor<;>cbv,dt⟩
 have hi:i=32:=by omega
 subst hi;rw[ag t];have:=hk h5 g B Ia (qZ (qQ _) λj x hx=>by
  have hj:j<32:=by have:=(dB.1 hx).1;rw[qQ]at this;exact this
  rw[Gn _ hj]at hx;cases hx;exact v j hj)
 clear hk M sS;cbv;exact this
theorem JW{c:Nat}(q:Sl 35 yk h (.slice b n c) L)(H:L.flatten.length<=2^38)
 (v:∀h' g,Le h h'->hl g=aA (Mg L.flatten)->k (.agg (List.toArray (hl g))) h'):Ct 214 [.slice b n c] h k:=by
 refine cp cJf Tryz.func214 λA P=>?_;cbv;refine vN q H (λE a f d x z=>?_);have O:=z.sl.len;cbv;intro p t w l;have y:Le E t:=by rw[l];exact Le.set w
 have s:t p=some (.cells (List.toArray (iX (.slice a f d) 0 0 λ_=>0)) 439 (0,0)):=(congrFun l p).trans ae;have M:=z.mono (y.t _);have G:=x.none w;clear l;cbv;rw[ao A];refine cQS s (o:=1) rfl rfl (λm i=>?_);have B:m p=some (.cells (List.toArray (iX (.slice a f d) 0 1 λ_=>0)) 439 (0,0)):=by rw[i,ae];rfl
 have I:Le h m:=(x.trans y).aE (bs:=[p]) (by simpa using G) (by rw[i];exact Kp.set (by simp));have N:aT 5 bS h m (.slice a f d) L.flatten:=M.mono (by rw[i];exact cf.set s (by decide));clear i;refine bJx I N B G (by omega) (λu g J C F=>?_);refine⟨rfl,_,C,rfl,rfl,?_⟩;obtain⟨e,j⟩:∃e,e=bH u p (.cells (List.toArray (iX (.slice a f d) 1 0 g)) 439 (0,0)):=⟨_,rfl⟩;have r:bH u p (.cells (List.toArray (((iX (.slice a f d) 0 1 g).set 1 (.int .u32 1)).set (1+1) (.int .i32 0))) 439 (0,0))=e:=j.symm;rw[r];have D:=(congrFun j p).trans ae;have K:Le h e:=J.aE (bs:=[p]) (by simpa using G) (by rw[j];exact Kp.set (by simp));have:=v e g K F;clear j r v;cbv;rw[ao A];refine bc D ?_;cbv;exact this
def iM:Sh Bs where
 n:=32
 R _ cs b:=cs=aA b/\b.length=32
 len:=by rintro h cs b ⟨rfl,hl⟩;simpa[aA]using hl
 one:=by rintro h cs b ⟨rfl,-⟩;exact fK b
 tys:=[]
 mono:=λ_ q=>q
theorem IA{b:Bs}(c:hl g=aA b)(a:b.length=32):iM.R h (hl g) b:=⟨c,a⟩
theorem so{T:Nat}{x:Bs}(q:h n=some (.cells (List.toArray (hl g)) T (0,0)))(b:hl g=aA x)(hx:x.length=32):Sl T bS h (.slice (some ⟨n,0,none⟩) 32 32) x:=by
 rw[b]at q;have:=Sl.fresh (e:=T) (s:=bS) (xs:=x) (cap:=32) q ⟨by simp[bS,aA],λi y a=>?_⟩ (by omega) (by omega)
 .rw[hx]at this;exact this
 show((aA x).drop (0+i*1)).take 1=[.int .u8 (y.toNat:Int)];rw[qp,TG];unfold aA;rw[<-iQq,<-iQo];have c:i<x.length:=(dB.1 a).1;rw[qM c];have:=(dB.1 a).2;simp[this]
theorem KA(z:Value)(g:Nat->Int):fa (List.replicate 32 z) 0 (hl g)=hl g:=by kernel_rfl
theorem zS(f g:Nat->Int):fa (hl f) 0 (hl g)=hl g:=by kernel_rfl
theorem uK{h':ab}{T:Nat}(e:h'=bH h n (.cells (List.toArray (fa c 0 (hl g))) T (0,0)))(a:fa c 0 (hl g)=hl g):h' n=some (.cells (List.toArray (hl g)) T (0,0)):=by rw[e,ae,a]
theorem aQh{c:Nat}{l:Bs}(q:Sl e1 bS h (.slice b n c) l)(r:e1∈dZd)(C:n<=2^37)
 (u:∀h' g,Le h h'->hl g=aA (vr l)->k (.agg (List.toArray (hl g))) h'):Ct 211 [.slice b n c] h k:=by
 have f:=q.len;refine cp cJi Tryz.func211 λA B=>?_;cbv;intro w d j e1;have i:Le h d:=by rw[e1];exact Le.set j
 have z:=bC (s:=bS) (x:=0) ((congrFun e1 w).trans ae) rfl;clear e1;cbv;intro y o E e;have a:Le d o:=by rw[e];exact Le.set E
 have m:=(congrFun e y).trans ae;clear e;cbv;refine JW (L:=[[0],l]) (lN (s:=yk) rfl m (dC (z.mono (a.t _))) (dC (q.mono ((i.trans a).t _)) r)) (by simp;omega) (λp g v t=>?_);have:=u p g ((i.trans a).trans v) (by rw[t];unfold vr;simp);cbv;exact this
theorem FH(a b:Bs):(uE a b).length=32:=iW _
theorem aZN{c:Nat}(q:Sl 104 iM h (.slice b n c) L){o:Nat->Int}{e:Bs}(h0:hl o=aA e)(Ay:e.length=32)
 (hk:∀h' g,Le h h'->hl g=aA (L.foldl uE e)->(L.foldl uE e).length=32->k (.agg (List.toArray (hl g))) h'):Ct 216 [.agg (List.toArray (hl o)),.slice b n c] h k:=by
 have ai:=q.len;have iD:=q.bound;refine cp cJd Tryz.func216 λA hA=>?_;cbv;intro j f V e1;have l1:Le h f:=by rw[e1];exact Le.set V
 have Y:f j=some (.cells (List.toArray (hl o)) 104 (0,0)):=(congrFun e1 j).trans ae;obtain⟨J,X⟩:∃J:Nat->Int->ab->Prop,∀w z h',J w z h'=(∃i g x,aM z i/\w=n-i/\i<=n/\Le h h'/\h' j=some (.cells (List.toArray (hl g)) 104 (0,0))/\hl g=aA x/\x.length=32/\(L.drop i).foldl uE x=L.foldl uE e):=⟨_,λ_ _ _=>rfl⟩;have P:J n 0 f:=by rw[X];exact⟨0,o,e,⟨rfl⟩,rfl,by omega,l1,Y,h0,Ay,rfl⟩
 generalize L.foldl uE e=F at *;clear e1 Y;cbv;refine aK.go (G:=Int) (λz=>[(9,.v (.int .i64 z))]) (λ_=>[(4,List.replicate 32 (.int .u8 0))]) (λw z h'=>J w z h') n 0 (by constructor<;>cbv) P ?_
 intro w z h2 hI;rw[X]at hI;cbv;obtain⟨i,g,x,r,hw,hi,v,O,hg,hx,d⟩:=hI;have W:A .az .lss z (A .nat n)=decide (i<n):=by rw[aJ A,r.eq,hA.nat];exact decide_eq_decide.2 (by show(i:Int)<(n:Int)↔_;omega)
 rw[W];by_cases p:i<n
 .rw[aH p];obtain⟨y,hy⟩:=di L i;have ix:=r.ix p;have jB:b.isSome=true:=q.aR;have aI:n-(i+1)<w:=by omega
  have Fj:L.drop i=y::L.drop (i+1):=by have f:=(dB.1 hy);rw[qM f.1,f.2]
  rw[Fj,iQc]at d;have U:∀h' a,Le h h'->h' j=some (.cells (List.toArray (hl a)) 104 (0,0))->hl a=aA (uE x y)->J (n-(i+1)) (A .aC .add .i64 z 1) h':=λh' a l' q' K=>by
   rw[X];exact⟨i+1,a,_,r.succ (A:=A),rfl,p,l',q',K,FH _ _,d⟩
  clear X P W d;cbv;refine⟨⟨jB,ix⟩,?_⟩;cbv;refine(q.mono (v.t _)).load hy r.eq (λcs u=>?_);obtain⟨u,m⟩:=u;obtain⟨gy,t⟩:=AH m;rw[<-t]at u;subst u;cbv;intro l R C E;have l3:Le h2 R:=by rw[E];exact Le.set C
  have Q:R l=some (.cells (List.toArray (List.replicate 32 (.int .u8 0))) 104 (0,0)):=(congrFun E l).trans ae;have D:j≠l:=jL O C;have g3:=l3 _ _ O;have z6:=v.none C;clear E;cbv;refine iB Q (mr _) (λS H=>?_);have T:Kp [l] R S:=by rw[H];exact Kp.set (by simp)
  have Q:S l=some (.cells (List.toArray (hl gy)) 104 (0,0)):=uK H (KA _ _);have Z:=T _ _ g3 (by simpa using D);have l4:=(v.trans l3).aE (bs:=[l]) (by simpa using z6) T;clear H T;cbv;intro n7 h5 BR I;have l5:Le S h5:=by rw[I];exact Le.set BR
  have q7:=bC (s:=bS) (x:=1) ((congrFun I n7).trans ae) rfl;clear I;cbv;intro n8 h6 Eo M;have l6:Le h5 h6:=by rw[M];exact Le.set Eo
  have g8:=(congrFun M n8).trans ae;have B:=l5.trans l6;clear M;cbv;refine JW (L:=[[1],x,y]) (qq (s:=yk) rfl g8 (dC (q7.mono (l6.t _))) (dC (so (B _ _ Z) hg hx)) (dC (so (B _ _ Q) t m))) (by simp;omega) (λh7 a l7 K=>?_);have g7:=l7 _ _ (B _ _ Z);have TX:=l4.trans (B.trans l7);have K:hl a=aA (uE x y):=by rw[K];unfold uE;simp
  cbv;refine iB g7 (mr _) (λh8 N=>?_);have dt:=U h8 a (TX.aE (bs:=[j]) (by simpa using V) (by rw[N];exact Kp.set (by simp))) (uK N (zS _ _)) K;clear U N;cbv;refine⟨n-(i+1),A .aC .add .i64 z 1,aI,by constructor<;>cbv,dt⟩
 have fZ:i=n:=by omega
 subst fZ;rw[wM (by omega)]at d;have d:x=F:=d;subst d;have:=hk h2 g v hg hx;rw[ag p];clear hk X P;cbv;refine bc O ?_;cbv;exact this
theorem bZA(q:aM z n)(v:2<=n)(s:n<=2^60)(b:∀w,aM w (vL n)->k (.int .i64 w) h):Ct 215 [.int .i64 z] h k:=by
 obtain⟨J,a⟩:∃J:Nat->Int->ab->Prop,∀w y h',J w y h'=(∃i,aM y i/\w=n-i/\0<i/\i<n/\h'=h/\xC i n=vL n):=⟨_,λ_ _ _=>rfl⟩;have e:J (n-1) 1 h:=by rw[a];exact⟨1,⟨rfl⟩,rfl,by omega,by omega,rfl,rfl⟩
 generalize vL n=C at *;refine cp cJe Tryz.func215 λA d=>?_;cbv;refine aK.go (G:=Int) (λy=>[(3,.v (.int .i64 y))]) (λ_=>[]) (λw y h'=>J w y h') (n-1) 1 (by constructor<;>cbv) e ?_
 intro w y o I;rw[a]at I;cbv;obtain⟨i,j,x,h0,u,rfl,g⟩:=I;have m:A .aC .mul .i64 2 y=((2*i:Nat):Int):=by rw[d.aC,j.eq];show IntKind.i64.wrap (2*(i:Int))=_;rw[IntWalk.i64_in _ (by omega)];omega
 have r:A .aC .mul .i64 y 2=A .aC .mul .i64 2 y:=by rw[d.aC];show IntKind.i64.wrap (y*2)=IntKind.i64.wrap (2*y);rw[Int.mul_comm]
 have f:A .az .lss (A .aC .mul .i64 2 y) z=decide (2*i<n):=by rw[m,aJ A,q.eq];exact decide_eq_decide.2 (by omega)
 have F:xC i n=if h:2*i<n/\0<i then xC (2*i) n else i:=by rw[xC]
 rw[f];by_cases c:2*i<n
 .rw[dif_pos ⟨c,h0⟩,g]at F;have t:J (n-2*i) (A .aC .mul .i64 2 y) o:=by rw[a];exact⟨2*i,⟨m⟩,rfl,by omega,c,rfl,F.symm⟩
  have l:n-2*i<w:=by omega
  rw[aH c];clear a e b f m;cbv;rw[r];refine⟨_,A .aC .mul .i64 2 y,l,by constructor<;>cbv,t⟩
 rw[dif_neg (λp=>c p.1),g]at F;have:=b y (by rw[F];exact j);rw[ag c];clear a e b f m;cbv;exact this
set_option maxHeartbeats 2000000
theorem CA(h:2<=L.length):eO L=uE (eO (L.take (vL L.length))) (eO (L.drop (vL L.length))):=by
 match L,h with
 |x::y::r,_=>rw[eO];rfl
theorem Tl(N:Nat):∀ {h:ab} {b:Option Addr} {n c:Nat} {L:List Bs} (q:Sl 104 iM h (.slice b n c) L) (K:L.length<=N) {k:Value->ab->Prop}
 (a:∀h' g,Le h h'->hl g=aA (eO L)->(eO L).length=32->k (.agg (List.toArray (hl g))) h'),Ct 120 [.slice b n c] h k:=by
 induction N with
 |zero=>
  intro h b n c L q K k a;obtain⟨A,t⟩:=Ar.ex;have l:=q.len;have j:L=[]:=ee (by omega);subst j;have p:A .az .eql (A .nat n) 0=true:=by rw[aq A,t.nat,l];rfl
  refine dH XU A Tryz.func120 ?_;cbv;rw[p];cbv;refine JW (L:=[]) Sl.nil (by simp) (λr g f d=>?_);have:=a r g f (by rw[d];rw[eO];rfl) (by rw[eO];exact iW _);cbv;exact this
 |succ N o=>
  intro h b n c L q K k a;obtain⟨A,t⟩:=Ar.ex;have l:=q.len;have iD:=q.bound;have p:A .az .eql (A .nat n) 0=decide (L.length=0):=by rw[aq A,t.nat,<-l];exact decide_eq_decide.2 (by show(n:Int)=0↔_;omega)
  have H:A .az .eql (A .nat n) 1=decide (L.length=1):=by rw[aq A,t.nat,<-l];exact decide_eq_decide.2 (by show(n:Int)=1↔_;omega)
  refine dH XU A Tryz.func120 ?_;cbv;rw[p];by_cases v:L.length=0
  .have j:L=[]:=ee v;subst j;rw[aH v];clear o;cbv;refine JW (L:=[]) Sl.nil (by simp) (λr g f d=>?_);have:=a r g f (by rw[d];rw[eO];rfl) (by rw[eO];exact iW _);cbv;exact this
  rw[ag v];cbv;rw[H];by_cases B:L.length=1
  .obtain⟨x,hx⟩:=di L 0;have j:L=[x]:=by
    match L,B with
    | [y],_=>cases hx;rfl
   have hR:eO L=x:=by rw[j,eO]
   rw[hR]at a;have jB:b.isSome=true:=q.aR;have ix:(0:Int)<=0/\(0:Int)<(n:Int):=by omega
   rw[aH B];clear o;cbv;refine⟨⟨jB,ix⟩,?_⟩;cbv;refine q.load hx rfl (λcs u=>?_);obtain⟨u,G⟩:=u;obtain⟨g,d⟩:=AH G;rw[<-d]at u;subst u;have:=a h g (Le.refl _) d G;cbv;exact this
  rw[ag B];have hR:=CA (L:=L) (by omega);obtain⟨I,O⟩:=yW (n:=L.length) (by omega);rw[hR]at a;have Y:2<=n:=by omega
  have Z:L.length=n:=l.symm;rw[Z]at a I O;obtain⟨m,M⟩:∃m,m=vL n:=⟨_,rfl⟩;rw[<-M]at a I O;clear p H hR;cbv;refine bZA (aM.nat n) Y (by omega) (λw e=>?_);rw[<-M]at e;have kZ:0<=w/\w<=(c:Int):=by have:=e.eq;omega
  have lJ:0<=w/\w<=(n:Int):=by have:=e.eq;omega
  have W:=cQ (A:=A) e;obtain⟨n2,E⟩:∃x,x=n-m:=⟨_,rfl⟩;obtain⟨c2,R⟩:∃x,x=c-m:=⟨_,rfl⟩;have F:=bZ (A:=A) (n:=n) e;have D:=bZ (A:=A) (n:=c) e;rw[<-E]at F;rw[<-R]at D;have S:=q.pw (A:=A) (z:=A .nat c) (i:=m) (by omega) rfl;have P:=q.gT (A:=A) e (by omega) E R;cbv;refine⟨kZ,?_⟩;cbv;refine⟨lJ,?_⟩;cbv;rw[W,F,D];refine o S (by rw[dW];omega) (λr g1 f uv X=>?_);have Q:=P.mono (f.t _);clear P S;cbv;refine o Q (by rw[ec];omega) (λh2 g2 l2 T U=>?_);clear o;cbv;intro n3 J V C;have l3:Le h2 J:=by rw[C];exact Le.set V
  have q3:=bC (s:=iM) (cs:=hl g2) ((congrFun C n3).trans ae) (IA (h:=J) T U);clear C;cbv;refine aZN q3 uv X (λh4 g l4 d tZ=>?_);have:=a h4 g (((f.trans l2).trans l3).trans l4) d tZ;cbv;exact this
end Go.S
