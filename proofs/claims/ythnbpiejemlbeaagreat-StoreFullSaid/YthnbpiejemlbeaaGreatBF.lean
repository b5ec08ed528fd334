import Derived.Test.YthnbpiejemlbeaaGreatBC
set_option linter.all false
set_option maxRecDepth 100000
set_option maxHeartbeats 4000000
namespace Go.S
open Go.Sx Go.Proofs
variable {A:Ar}{z:Int}{L:List Bs}{c:List Value}{xs:List W}{e1 i j n:Nat}{g:Nat->Int}{fr:Nat×Nat}{b:Option Addr}{k:Value->ab->Prop}{s:W8}{h h0:ab}
theorem fj(s:ByteArray):(dY s).length<=65537:=by unfold dY gA fD;simp only[List.length_append,List.length_cons,List.length_nil,List.length_take];omega
theorem Hh(v:gV):(iL v).length<=65538:=by
 unfold iL;have:=fj v.s;have h:=bW v.n;rw[List.length_cons];split
 .simp
 split
 .omega
 split
 .omega
 simp
theorem Jt{c:Nat}{r:Row}(q:Sl 45 aS h (.slice b n c) r)(hn:n<=2^16)(hs:∀x∈r,x.s.size<=2^40)
 (S:∀h' j n' c',Le h h'->aU 5 bL h h' (.slice j n' c') (fH r)->(fH r).length<=2^34->k (.slice j n' c') h'):Ct 133 [.slice b n c] h k:=by
 obtain⟨A,hA⟩:=Ar.ex;have y:=q.len;have WX:A .nat n=(r.length:Int):=by rw[hA.nat,y];rfl
 obtain⟨a,T⟩:∃a:Bs,a=[u8 (r.length:Int)]:=⟨_,rfl⟩;have ag:a.length=1:=by rw[T];rfl
 have hS:fH r=a++(r.map iL).flatten:=by rw[T];unfold fH;rw[List.flatMap_def];rfl
 rw[hS]at S;clear hS;have X:([]++[u8 (A .nat n)]:Bs)=a:=by rw[WX,T];rfl
 obtain⟨J,Z⟩:∃J:Nat->((Option Addr×Nat×Nat)×Int)->ab->Prop,∀w g h',J w g h'=(∃i:Nat,aK g.2 i/\w=n-i/\i<=n/\Le h h'/\aU 5 bL h h' (.slice g.1.1 g.1.2.1 g.1.2.2) (a++((r.take i).map iL).flatten)/\(a++((r.take i).map iL).flatten).length<=2^17*(i+1)):=⟨_,λ_ _ _=>rfl⟩;refine bB dJE A Tryz.func133 ?_;cbv;refine oe (l:=[]) Sl.nil (by omega) _ (λh1 b1 m1 c1 k1 W=>?_);rw[X]at W;have Q:J n ((b1,m1,c1),0) h1:=by rw[Z];refine⟨0,⟨rfl⟩,rfl,by omega,k1,by simpa using W,by simp;omega⟩
 clear X W WX;cbv;refine aG.go (G:=(Option Addr×Nat×Nat)×Int) (λg=>[(3,.v (.slice g.1.1 g.1.2.1 g.1.2.2)),(11,.v (.int .i64 g.2))]) (λ_=>[]) (λw g h'=>J w g h') n ((b1,m1,c1),0) (by constructor<;>cbv) Q ?_
 intro w g K hI;rw[Z]at hI;cbv;obtain⟨⟨gb,gm,gc⟩,z⟩:=g;obtain⟨i,o,hw,hi,M,p,hL⟩:=hI;have o:aK z i:=o;have p:aU 5 bL h K (.slice gb gm gc) (a++((r.take i).map iL).flatten):=p;have nj:=p.sl.len;have f1:A .ay .lss z (A .nat n)=decide (i<n):=by rw[aD A,o.eq,hA.nat];exact decide_eq_decide.2 (by show(i:Int)<(n:Int)↔_;omega)
 rw[f1];by_cases R:i<n
 .rw[decide_eq_true R];obtain⟨x,hx⟩:=bn r i;have yR:=hs x (List.mem_of_getElem? hx);have Y:=Hh x;have ix:=o.ix R;have iU:b.isSome=true:=q.aQ;have N:n-(i+1)<w:=by omega
  have I:∀j m' c' h',Le K h'->aU 5 bL K h' (.slice j m' c') ((a++((r.take i).map iL).flatten)++iL x)->J (n-(i+1)) ((j,m',c'),A .aC .add .i64 z 1) h':=λj m' c' h' l' q'=>by
   rw[Z];have ha:(a++((r.take i).map iL).flatten)++iL x=a++((r.take (i+1)).map iL).flatten:=by rw[List.take_add_one,hx];simp
   refine⟨i+1,o.succ (A:=A),rfl,by omega,M.trans l',?_,?_⟩
   .rw[<-ha];exact q'.base M
   rw[<-ha,List.length_append];omega
  have uy:(a++((r.take i).map iL).flatten).length<=2^34:=by omega
  have s:A .ay .eql x.k 1=decide (x.k=1):=aq A ..;have t:A .ay .eql x.k 2=decide (x.k=2):=aq A ..;have u:A .ay .eql x.k 3=decide (x.k=3):=aq A ..;have V:iL x=u8 x.k::(if x.k=1 then [u8 x.n]else if x.k=2 then bR x.n else if x.k=3 then dY x.s else []):=rfl;clear f1 hL Z Q Y;generalize a++((r.take i).map iL).flatten=L at *;generalize iL x=vw at *;cbv;refine⟨⟨iU,ix⟩,?_⟩;cbv;refine(q.mono (M.t _)).load hx o.eq (λcs P=>?_);have P:cs=[.int .i64 x.k,.int .i64 x.n,.string x.s]:=P;subst P;generalize x.k=O at *;generalize x.n=xn at *;generalize x.s=xs at *;cbv;refine oe p.sl (by omega) O (λh3 b3 m3 c3 f C=>?_);have MU:=C.sl.len;rw[List.length_append,List.length_singleton]at MU;cbv;rw[s];by_cases E:O=1
  .rw[if_pos E]at V;rw[decide_eq_true E];clear s t u;cbv;refine oe C.sl (by omega) xn (λv d m e B D=>?_);have U:=I d m e v (f.trans B) (by rw[V];have:=D.base f;simpa using this);clear I;cbv;refine⟨_,((d,m,e),A .aC .add .i64 z 1),N,by constructor<;>cbv,U⟩
  rw[if_neg E]at V;rw[decide_eq_false E];cbv;rw[t];by_cases F:O=2
  .rw[if_pos F]at V;rw[decide_eq_true F];clear s t u;cbv;refine LO C.sl (by omega) xn (λv d m e B D=>?_);have U:=I d m e v (f.trans B) (by rw[V];have:=D.base f;simpa using this);clear I;cbv;refine⟨_,((d,m,e),A .aC .add .i64 z 1),N,by constructor<;>cbv,U⟩
  rw[if_neg F]at V;rw[decide_eq_false F];cbv;rw[u];by_cases H:O=3
  .rw[if_pos H]at V;rw[decide_eq_true H];clear s t u;cbv;refine xQ (e1:=0) C.sl (by omega) xs yR (λv d m e B D=>?_);have U:=I d m e v (f.trans B) (by rw[V];have:=D.base f;unfold dY;simpa using this);clear I;cbv;refine⟨_,((d,m,e),A .aC .add .i64 z 1),N,by constructor<;>cbv,U⟩
  rw[if_neg H]at V;rw[decide_eq_false H];have U:=I b3 m3 c3 h3 f (by rw[V];exact C);clear s t u I;cbv;refine⟨_,((b3,m3,c3),A .aC .add .i64 z 1),N,by constructor<;>cbv,U⟩
 rw[decide_eq_false R];have hi:i=n:=by omega
 rw[List.take_of_length_le (by omega)]at p hL;have:=S K gb gm gc M p (by omega);clear S Z Q;cbv;exact this
set_option maxHeartbeats 8000000
theorem eKy{v:Int}{x:W}(d:jF z x)(h0:0<n)(b:n<32)(g:v=-(n:Int))(c:∀w,jF w (rr x n)->k (.int .u32 w) h):
 Ct 391 [.int .u32 z,.int .i64 v] h k:=by
 obtain⟨A,a⟩:=Ar.ex;obtain⟨s1,K,e1⟩:∃s1,aK s1 (32-n)/\A .aC .and .u64 (A .conv .u64 v) 31=s1:=⟨_,⟨by
  rw[a.aC,a.conv,g];have:∀m:Nat,m<32->0<m->Sx.aC .and .u64 (IntKind.u64.wrap (-(m:Int))) 31=((32-m:Nat):Int):=by decide
  exact this n b h0⟩,rfl⟩
 obtain⟨s2,D,f⟩:∃s2,aK s2 n/\A .aC .sub .u64 32 s1=s2:=⟨_,⟨by
  rw[a.aC,K.eq];have:∀m:Nat,m<32->0<m->Sx.aC .sub .u64 32 ((32-m:Nat):Int)=(m:Int):=by decide
  exact this n b h0⟩,rfl⟩
 have s:0<=s1/\0<=s2:=by have:=K.eq;have:=D.eq;omega
 have r:=c _ (by
  have:=(d.shl (A:=A) K (by omega)).or (A:=A) (d.shr (A:=A) D b);rw[BitVec.or_comm]at this;have e:32-n=32-n:=rfl;exact this)
 clear c;refine bB cKG A Tryz.func391 ?_;cbv;rw[e1];refine⟨s.1,?_⟩;cbv;rw[f];refine⟨s.2,?_⟩;cbv;exact r
theorem oO{m:Int}{x:W}(f:jF z x)(h0:0<n)(d:n<32)(c:m=(n:Int))(b:∀w,jF w (rr x n)->k (.int .u32 w) h):
 Ct 383 [.int .u32 z,.int .i64 m] h k:=by
 obtain⟨A,a⟩:=Ar.ex;have v:A .aC .sub .i64 0 m=-(n:Int):=by rw[a.aC,c];show IntKind.i64.wrap (0-(n:Int))=_;rw[IntWalk.i64_in _ (by omega)];omega
 refine bB cKH A Tryz.func383 ?_;cbv;refine eKy f h0 d v (λw e=>?_);have:=b w e;cbv;exact this
def wl(g:Nat->Int):List Value:=[.int .u32 (g 0),.int .u32 (g 1),.int .u32 (g 2),.int .u32 (g 3),.int .u32 (g 4),.int .u32 (g 5),.int .u32 (g 6),.int .u32 (g 7),.int .u32 (g 8),.int .u32 (g 9),.int .u32 (g 10),.int .u32 (g 11),.int .u32 (g 12),.int .u32 (g 13),.int .u32 (g 14),.int .u32 (g 15),.int .u32 (g 16),.int .u32 (g 17),.int .u32 (g 18),.int .u32 (g 19),.int .u32 (g 20),.int .u32 (g 21),.int .u32 (g 22),.int .u32 (g 23),.int .u32 (g 24),.int .u32 (g 25),.int .u32 (g 26),.int .u32 (g 27),.int .u32 (g 28),.int .u32 (g 29),.int .u32 (g 30),.int .u32 (g 31),.int .u32 (g 32),.int .u32 (g 33),.int .u32 (g 34),.int .u32 (g 35),.int .u32 (g 36),.int .u32 (g 37),.int .u32 (g 38),.int .u32 (g 39),.int .u32 (g 40),.int .u32 (g 41),.int .u32 (g 42),.int .u32 (g 43),.int .u32 (g 44),.int .u32 (g 45),.int .u32 (g 46),.int .u32 (g 47),.int .u32 (g 48),.int .u32 (g 49),.int .u32 (g 50),.int .u32 (g 51),.int .u32 (g 52),.int .u32 (g 53),.int .u32 (g 54),.int .u32 (g 55),.int .u32 (g 56),.int .u32 (g 57),.int .u32 (g 58),.int .u32 (g 59),.int .u32 (g 60),.int .u32 (g 61),.int .u32 (g 62),.int .u32 (g 63)]
theorem Bn(g:Nat->Int):wl g=(List.range 64).map λi=>Value.int .u32 (g i):=rfl
theorem QY(g:Nat->Int)(h:i<64):(wl g)[i]? =some (.int .u32 (g i)):=by rw[Bn,List.getElem?_map,List.getElem?_range h];rfl
theorem bKX(r:Go.Sx.Rows nD h c 0 xs)(e:c.length=64)(hx:xs.length=64):∃g,c=wl g/\∀i x,xs[i]? =some x->jF (g i) x:=by
 refine⟨λi=>match c[i]? with|some (.int _ z)=>z|_=>0,?_,λi x K=>?_⟩
 .rw[Bn];apply List.ext_getElem?;intro i;rw[List.getElem?_map];by_cases d:i<64
  .rw[List.getElem?_range d];obtain⟨x,a⟩:=bn xs i;obtain⟨z,b,w⟩:=r.at a;have O:=congrArg (λl=>l[0]?) b;simp only[List.getElem?_take,List.getElem?_drop]at O;have n:nD.n=1:=rfl;rw[n]at O;simp at O;simp[O]
  rw[List.getElem?_eq_none (by omega),List.getElem?_eq_none (by simp;omega)];rfl
 obtain⟨z,b,w⟩:=r.at K;have O:=congrArg (λl=>l[0]?) b;simp only[List.getElem?_take,List.getElem?_drop]at O;have n:nD.n=1:=rfl;rw[n]at O;simp at O;simp[O,w]
theorem mJ[a:bf A]{T:Nat}{k:List Value->Prop}(q:h n=some (.cells (List.toArray (wl g)) T fr))(d:aK z i)(b:i<64)(c:k [.int .u32 (g i)]):
 vK h (A .ia (some ⟨n,0,none⟩) z 1) 1 k:=by
 have e:A .ia (some ⟨n,0,none⟩) z 1=⟨n,i,none⟩:=by rw[a.ia,d.eq];simp[ia,bP]
 rw[e];refine⟨_,⟨rfl,rfl,_,_,_,q,λj f=>?_⟩,c⟩;have:j=0:=by omega
 subst this;simpa using QY g b
theorem eE[a:bf A]{T:Nat}{v:Value}{k:List Value->Prop}(d:z=(i:Int))(q:h n=some (.cells (List.toArray c) T fr))(hx:c[i]? =some v)(b:k [v]):
 vK h (A .ia (some ⟨n,0,none⟩) z 1) 1 k:=by
 have e:A .ia (some ⟨n,0,none⟩) z 1=⟨n,i,none⟩:=by rw[a.ia,d];simp[ia,bP]
 rw[e];refine⟨_,⟨rfl,rfl,_,_,_,q,λj f=>?_⟩,b⟩;have:j=0:=by omega
 subst this;simpa using hx
theorem cXD(a:∀g:Nat->Int,(∀i,i<64->jF (g i) (Dz.getD i 0))->k (.agg (List.toArray (wl g))) h):Ct 382 [] h k:=by
 have r:=a (λi=>((Dz.getD i 0).toNat:Int)) (λi c=>⟨rfl⟩);clear a;have e:wl (λi=>((Dz.getD i 0).toNat:Int))=[.int .u32 1116352408,.int .u32 1899447441,.int .u32 3049323471,.int .u32 3921009573,.int .u32 961987163,.int .u32 1508970993,.int .u32 2453635748,.int .u32 2870763221,.int .u32 3624381080,.int .u32 310598401,.int .u32 607225278,.int .u32 1426881987,.int .u32 1925078388,.int .u32 2162078206,.int .u32 2614888103,.int .u32 3248222580,.int .u32 3835390401,.int .u32 4022224774,.int .u32 264347078,.int .u32 604807628,.int .u32 770255983,.int .u32 1249150122,.int .u32 1555081692,.int .u32 1996064986,.int .u32 2554220882,.int .u32 2821834349,.int .u32 2952996808,.int .u32 3210313671,.int .u32 3336571891,.int .u32 3584528711,.int .u32 113926993,.int .u32 338241895,.int .u32 666307205,.int .u32 773529912,.int .u32 1294757372,.int .u32 1396182291,.int .u32 1695183700,.int .u32 1986661051,.int .u32 2177026350,.int .u32 2456956037,.int .u32 2730485921,.int .u32 2820302411,.int .u32 3259730800,.int .u32 3345764771,.int .u32 3516065817,.int .u32 3600352804,.int .u32 4094571909,.int .u32 275423344,.int .u32 430227734,.int .u32 506948616,.int .u32 659060556,.int .u32 883997877,.int .u32 958139571,.int .u32 1322822218,.int .u32 1537002063,.int .u32 1747873779,.int .u32 1955562222,.int .u32 2024104815,.int .u32 2227730452,.int .u32 2361852424,.int .u32 2428436474,.int .u32 2756734187,.int .u32 3204031479,.int .u32 3329325298]:=by kernel_rfl
 rw[e]at r;clear e;refine an cKI Tryz.func382 λA b=>?_;cbv;exact r
def Bo(a b c d e f g h:Int):List Value:=[.int .u32 a,.int .u32 b,.int .u32 c,.int .u32 d,.int .u32 e,.int .u32 f,.int .u32 g,.int .u32 h]
structure QN(a b c d e f g h:Int)(s:W8):Prop where
 a:jF a s.a
 b:jF b s.b
 c:jF c s.c
 d:jF d s.d
 e:jF e s.e
 f:jF f s.f
 g:jF g s.g
 h:jF h s.h
theorem bZE(j:∀a b c d e f g i,QN a b c d e f g i jS->k (.agg (List.toArray (Bo a b c d e f g i))) h):Ct 368 [] h k:=by have r:=j _ _ _ _ _ _ _ _ ⟨⟨rfl⟩,⟨rfl⟩,⟨rfl⟩,⟨rfl⟩,⟨rfl⟩,⟨rfl⟩,⟨rfl⟩,⟨rfl⟩⟩;clear j;refine an cKN Tryz.func368 λA l=>?_;cbv;exact r
def NR(l:Bs)(i:Nat):List W:=(List.range i).map (wF l)++List.replicate (64-i) 0
theorem EY(l:Bs)(h:i<=64):(NR l i).length=64:=by unfold NR;simp;omega
theorem vS(l:Bs)(h:j<i):(NR l i)[j]? =some (wF l j):=by unfold NR;rw[List.getElem?_append_left (by simpa using h),List.getElem?_map,List.getElem?_range h];rfl
theorem LU(l:Bs)(a:i<64):(NR l i).set i (wF l i)=NR l (i+1):=by
 unfold NR;rw[List.set_append_right _ _ (by simp),List.length_map,List.length_range,Nat.sub_self,List.range_succ,List.map_append,List.append_assoc];congr 1;obtain⟨m,h⟩:∃m,64-i=m+1:=⟨63-i,by omega⟩;have:64-(i+1)=m:=by omega
 rw[h,this];rfl
theorem Ep{T:Nat}{f:Nat->W}(q:h n=some (.cells (List.toArray (wl g)) T (0,0)))(b:∀i,i<64->jF (g i) (f i)):cA T nD h n 64 ((List.range 64).map f):=by
 refine⟨⟨wl g,q,⟨?_,λi x hx=>?_⟩,rfl⟩,by simp,by simp⟩
 .simp[Bn,nD]
 have a:i<64:=by have:=(List.getElem?_eq_some_iff.1 hx).1;simpa using this
 rw[List.getElem?_map,List.getElem?_range a]at hx;cases hx;refine⟨g i,?_,b i a⟩;have w:=QY g a;show((wl g).drop (0+i*1)).take 1=_;rw[Nat.zero_add,Nat.mul_one];apply List.ext_getElem?;intro j;rw[List.getElem?_take,List.getElem?_drop];by_cases c:j<1
 .have:j=0:=by omega
  subst this;simpa using w
 rw[if_neg c,List.getElem?_eq_none (by simp;omega)]
theorem DU{T:Nat}(o:cA T nD h n 64 xs)(hx:xs.length=64):∃g,h n=some (.cells (List.toArray (wl g)) T (0,0))/\∀i x,xs[i]? =some x->jF (g i) x:=by obtain⟨c,a,b,d⟩:=o.out;obtain⟨g,rfl,e⟩:=bKX b (by simpa[nD]using d) hx;exact⟨g,a,e⟩
theorem XA{c:Nat}{l:Bs}(q:Sl e1 bL h (.slice b n c) l)(hn:l.length=64)(hk:∀h' (g:Nat->Int),Le h h'->(∀i,i<64->jF (g i) (wF l i))->k (.agg (List.toArray (wl g))) h'):
 Ct 381 [.slice b n c] h k:=by
 have aW:=q.len;have K:b.isSome=true:=q.aQ;refine an cKJ Tryz.func381 λA hA=>?_;cbv;intro p h1 Y e1;have l1:Le h h1:=by rw[e1];exact Le.set Y
 have o1:cA 355 nD h1 p 64 (NR l 0):=Ep (g:=λ_=>0) (f:=λ_=>0) ((congrFun e1 p).trans ae) (λ_ _=>⟨rfl⟩);obtain⟨J,Z⟩:∃J:Nat->Nat->Int->ab->Prop,∀m w g h',J m w g h'=(∃i:Nat,aK g i/\w=m-i/\i<=m/\(m=64->16<=i)/\Le h h'/\cA 355 nD h' p 64 (NR l i)):=⟨_,λ_ _ _ _=>rfl⟩;have df:J 16 16 0 h1:=by rw[Z];exact⟨0,⟨rfl⟩,rfl,by omega,by omega,l1,o1⟩
 clear e1 o1;cbv;refine aG.go (G:=Int) (λg=>[(8,.v (.int .i64 g))]) (λ_=>[(2,List.replicate 64 (.int .u32 0))]) (λw g h'=>J 16 w g h') 16 0 (by constructor<;>cbv) df ?_
 intro w z h2 I;rw[Z]at I;cbv;obtain⟨i,d,hw,hi,-,l2,o2⟩:=I;have r:A .ay .lss z 16=decide (i<16):=by rw[aD A,d.eq];exact decide_eq_decide.2 (by omega)
 rw[r];by_cases t:i<16
 .rw[decide_eq_true t];have M:=q.mono (l2.t _);obtain⟨x0,rR⟩:=bn l (4*i);obtain⟨x1,WQ⟩:=bn l (4*i+1);obtain⟨x2,TM⟩:=bn l (4*i+2);obtain⟨x3,Qx⟩:=bn l (4*i+3);have E:aK (A .aC .mul .i64 4 z) (4*i):=⟨by
   rw[hA.aC,d.eq];show IntKind.i64.wrap (4*(i:Int))=_;rw[IntWalk.i64_in _ (by omega)];omega⟩
  have m1:=E.succ (A:=A);have m2:=E.add (A:=A) (w:=2) (j:=2) ⟨rfl⟩ (by omega);have m3:=E.add (A:=A) (w:=3) (j:=3) ⟨rfl⟩ (by omega);have c0:0<=A .aC .mul .i64 4 z/\A .aC .mul .i64 4 z<(n:Int):=E.ix (by omega);have c1:=m1.ix (len:=n) (by omega);have S:=m2.ix (len:=n) (by omega);have c3:=m3.ix (len:=n) (by omega);have T:=d.ix (len:=64) (by omega);have N:wF l i=BitVec.ofNat 32 x0.toNat <<< 24|||BitVec.ofNat 32 x1.toNat <<< 16|||BitVec.ofNat 32 x2.toNat <<< 8|||BitVec.ofNat 32 x3.toNat:=by rw[wF,if_pos t];unfold QX bw;rw[List.getD_eq_getElem?_getD,List.getD_eq_getElem?_getD,List.getD_eq_getElem?_getD,List.getD_eq_getElem?_getD,rR,WQ,TM,Qx];rfl
  have F:∀h',Le h h'->cA 355 nD h' p 64 ((NR l i).set i (wF l i))->J 16 (16-(i+1)) (A .aC .add .i64 z 1) h':=λh' l' o'=>by
   rw[Z];rw[LU l (by omega)]at o';exact⟨i+1,d.succ (A:=A),rfl,by omega,by omega,l',o'⟩
  have O:16-(i+1)<w:=by omega
  have sP:i<(NR l i).length:=by rw[EY l (by omega)];omega
  obtain⟨y0,C⟩:∃y:Int,y=(x0.toNat:Int):=⟨_,rfl⟩;obtain⟨y1,X⟩:∃y:Int,y=(x1.toNat:Int):=⟨_,rfl⟩;obtain⟨y2,vp⟩:∃y:Int,y=(x2.toNat:Int):=⟨_,rfl⟩;obtain⟨y3,OV⟩:∃y:Int,y=(x3.toNat:Int):=⟨_,rfl⟩;have hR:jF (A .aC .or .u32 (A .aC .or .u32 (A .aC .or .u32 (A .aC .shl .u32 (A .conv .u32 y0) 24) (A .aC .shl .u32 (A .conv .u32 y1) 16)) (A .aC .shl .u32 (A .conv .u32 y2) 8)) (A .conv .u32 y3)) (wF l i):=by rw[N];exact((((jF.aXx (A:=A) C).shl (A:=A) (n:=24) (i:=24) ⟨rfl⟩ (by decide)).or (A:=A) ((jF.aXx (A:=A) X).shl (A:=A) (n:=16) (i:=16) ⟨rfl⟩ (by decide))).or (A:=A) ((jF.aXx (A:=A) vp).shl (A:=A) (n:=8) (i:=8) ⟨rfl⟩ (by decide))).or (A:=A) (jF.aXx (A:=A) OV)
  clear r Z N;cbv;refine⟨⟨K,c0⟩,?_⟩;cbv;refine M.load rR E.eq (λcs a=>?_);have a:cs=[.int .u8 y0]:=by rw[C];exact a
  subst a;cbv;refine⟨by decide,?_⟩;cbv;refine⟨⟨K,c1⟩,?_⟩;cbv;refine M.load WQ m1.eq (λcs a=>?_);have a:cs=[.int .u8 y1]:=by rw[X];exact a
  subst a;cbv;refine⟨by decide,?_⟩;cbv;refine⟨⟨K,S⟩,?_⟩;cbv;refine M.load TM m2.eq (λcs a=>?_);have a:cs=[.int .u8 y2]:=by rw[vp];exact a
  subst a;cbv;refine⟨by decide,?_⟩;cbv;refine⟨⟨K,c3⟩,?_⟩;cbv;refine M.load Qx m3.eq (λcs a=>?_);have a:cs=[.int .u8 y3]:=by rw[OV];exact a
  subst a;cbv;refine⟨T,?_⟩;cbv;refine o2.setAt (s:=nD) (by simp[nD]) sP d.eq rfl (x:=wF l i) ⟨_,rfl,hR⟩ (λh3 k3 _ L=>?_);have U:=F h3 (l2.aE (bs:=[p]) (by simpa using Y) k3) L;clear F;cbv;refine⟨16-(i+1),A .aC .add .i64 z 1,O,by constructor<;>cbv,U⟩
 have aH:i=16:=by omega
 subst aH;have F:J 64 48 16 h2:=by rw[Z];exact⟨16,⟨rfl⟩,rfl,by omega,λ_=>by omega,l2,o2⟩
 rw[decide_eq_false t];clear r o2;cbv;refine aG.go (G:=Int) (λg=>[(5,.v (.int .i64 g))]) (λ_=>[(2,List.replicate 64 (.int .u32 0))]) (λw g h'=>J 64 w g h') 48 16 (by constructor<;>cbv) F ?_
 intro w z h3 I;rw[Z]at I;cbv;obtain⟨i,d,hw,hi,B,l3,L⟩:=I;have B:=B rfl;have r:A .ay .lss z 64=decide (i<64):=by rw[aD A,d.eq];exact decide_eq_decide.2 (by omega)
 obtain⟨g,o,H⟩:=DU L (EY l hi);rw[r];by_cases t:i<64
 .rw[decide_eq_true t];have D:=d.sub (A:=A) (w:=15) (j:=15) ⟨rfl⟩ (by omega) (by omega);have i2:=d.sub (A:=A) (w:=2) (j:=2) ⟨rfl⟩ (by omega) (by omega);have e:=d.sub (A:=A) (w:=16) (j:=16) ⟨rfl⟩ (by omega) (by omega);have u:=d.sub (A:=A) (w:=7) (j:=7) ⟨rfl⟩ (by omega) (by omega);have P:=H _ _ (vS l (i:=i) (j:=i-15) (by omega));have g2:=H _ _ (vS l (i:=i) (j:=i-2) (by omega));have ag:=H _ _ (vS l (i:=i) (j:=i-16) (by omega));have g7:=H _ _ (vS l (i:=i) (j:=i-7) (by omega));have ar:=D.ix (len:=64) (by omega);have S:=i2.ix (len:=64) (by omega);have aj:=e.ix (len:=64) (by omega);have c7:=u.ix (len:=64) (by omega);have T:=d.ix (len:=64) (by omega);have N:wF l i=wF l (i-16)+eKr (wF l (i-15))+wF l (i-7)+eKq (wF l (i-2)):=by rw[wF,if_neg (by omega),if_pos (by omega)]
  have U:∀h',Le h h'->cA 355 nD h' p 64 ((NR l i).set i (wF l i))->J 64 (64-(i+1)) (A .aC .add .i64 z 1) h':=λh' l' o'=>by
   rw[Z];rw[LU l (by omega)]at o';exact⟨i+1,d.succ (A:=A),rfl,by omega,by omega,l',o'⟩
  have O:64-(i+1)<w:=by omega
  have sP:i<(NR l i).length:=by rw[EY l (by omega)];omega
  have au:i-15<64:=by omega
  have b2:i-2<64:=by omega
  have V:i-16<64:=by omega
  have v:i-7<64:=by omega
  clear r Z H;cbv;refine⟨ar,?_⟩;cbv;refine mJ o D au ?_;cbv;refine⟨S,?_⟩;cbv;refine mJ o i2 b2 ?_;cbv;refine⟨aj,?_⟩;cbv;refine mJ o e V ?_;cbv;refine⟨by decide,?_⟩;cbv;refine⟨c7,?_⟩;cbv;refine mJ o u v ?_;cbv;refine⟨by decide,?_⟩;cbv;refine oO P (n:=7) (by decide) (by decide) rfl (λw1 JC=>?_);cbv;repeat (first|(refine mJ o u v ?_;cbv)|(refine mJ o e V ?_;cbv)|(refine⟨⟨_,rfl,rfl⟩,?_⟩;cbv))
  refine oO P (n:=18) (by decide) (by decide) rfl (λw2 FQ=>?_);cbv;repeat (first|(refine mJ o u v ?_;cbv)|(refine mJ o e V ?_;cbv)|(refine⟨⟨_,rfl,rfl⟩,?_⟩;cbv))
  refine oO g2 (n:=17) (by decide) (by decide) rfl (λw3 Q=>?_);cbv;repeat (first|(refine mJ o u v ?_;cbv)|(refine mJ o e V ?_;cbv)|(refine⟨⟨_,rfl,rfl⟩,?_⟩;cbv))
  refine oO g2 (n:=19) (by decide) (by decide) rfl (λw4 W=>?_);cbv;repeat (first|(refine mJ o u v ?_;cbv)|(refine mJ o e V ?_;cbv)|(refine⟨⟨_,rfl,rfl⟩,?_⟩;cbv))
  refine⟨T,?_⟩;cbv;have hR:=(((ag.add (A:=A) ((JC.xor (A:=A) FQ).xor (A:=A) (P.shr (A:=A) (n:=3) (i:=3) ⟨rfl⟩ (by decide)))).add (A:=A) g7).add (A:=A) ((Q.xor (A:=A) W).xor (A:=A) (g2.shr (A:=A) (n:=10) (i:=10) ⟨rfl⟩ (by decide))));refine L.setAt (s:=nD) (by simp[nD]) sP d.eq rfl (x:=wF l i) ⟨_,rfl,by rw[N];exact hR⟩ (λh4 k4 _ o4=>?_);have aN:=U h4 (l3.aE (bs:=[p]) (by simpa using Y) k4) o4;clear U;cbv;refine⟨64-(i+1),A .aC .add .i64 z 1,O,by constructor<;>cbv,aN⟩
 have R:i=64:=by omega
 subst R;have:=hk h3 g l3 (λj hj=>H j _ (vS l hj));rw[decide_eq_false t];clear hk H;cbv;refine ak o ?_;cbv;exact this
def xN(t s:W8)(i:Nat):List W:=(List.range 8).map λj=>if j<i then t.l.getD j 0+s.l.getD j 0 else t.l.getD j 0
theorem VX(t s:W8):xN t s 8=(t.add s).l:=rfl
theorem Jo(t s:W8)(h:i<8):(xN t s i).set i (t.l.getD i 0+s.l.getD i 0)=xN t s (i+1):=by
 have:i=0\/i=1\/i=2\/i=3\/i=4\/i=5\/i=6\/i=7:=by omega
 rcases this with rfl|rfl|rfl|rfl|rfl|rfl|rfl|rfl<;>rfl
theorem Jp(t s:W8)(h:i<8):(xN t s i)[i]? =some (t.l.getD i 0):=by unfold xN;rw[List.getElem?_map,List.getElem?_range h];simp
theorem Bp{T:Nat}{a b c d e f g i:Int}(q:h n=some (.cells (List.toArray (Bo a b c d e f g i)) T (0,0)))(k:QN a b c d e f g i s):cA T nD h n 8 s.l:=by
 refine⟨⟨_,q,⟨Nat.le_refl _,λj x hx=>?_⟩,rfl⟩,Nat.le_refl _,by simp[W8.l]⟩;have l:j<8:=(List.getElem?_eq_some_iff.1 hx).1;have:j=0\/j=1\/j=2\/j=3\/j=4\/j=5\/j=6\/j=7:=by omega
 rcases this with rfl|rfl|rfl|rfl|rfl|rfl|rfl|rfl<;>cases hx
 .exact⟨_,rfl,k.a⟩
 .exact⟨_,rfl,k.b⟩
 .exact⟨_,rfl,k.c⟩
 .exact⟨_,rfl,k.d⟩
 .exact⟨_,rfl,k.e⟩
 .exact⟨_,rfl,k.f⟩
 .exact⟨_,rfl,k.g⟩
 exact⟨_,rfl,k.h⟩
theorem Ra{T:Nat}(o:cA T nD h n 8 s.l):∃a b c d e f g i,h n=some (.cells (List.toArray (Bo a b c d e f g i)) T (0,0))/\QN a b c d e f g i s:=by
 obtain⟨cs,m,p,k⟩:=o.out;have k:cs.length=8:=k;have key:∀j x,s.l[j]? =some x->∃z,cs[j]? =some (Value.int .u32 z)/\jF z x:=λj x hx=>by
  obtain⟨z,C,B⟩:=p.at hx;have O:=congrArg (λl=>l[0]?) C;simp only[List.getElem?_take,List.getElem?_drop]at O;have A:nD.n=1:=rfl;rw[A]at O;exact⟨z,by simpa using O,B⟩
 obtain⟨a,q,wa⟩:=key 0 _ rfl;obtain⟨b,r,wb⟩:=key 1 _ rfl;obtain⟨c,t,wc⟩:=key 2 _ rfl;obtain⟨d,hd,D⟩:=key 3 _ rfl;obtain⟨e,u,E⟩:=key 4 _ rfl;obtain⟨f,v,F⟩:=key 5 _ rfl;obtain⟨g,w,G⟩:=key 6 _ rfl;obtain⟨i,y,H⟩:=key 7 _ rfl;refine⟨a,b,c,d,e,f,g,i,?_,⟨wa,wb,wc,D,E,F,G,H⟩⟩;rw[m];have:cs=Bo a b c d e f g i:=by
  apply List.ext_getElem?;intro j;by_cases I:j<8
  .have:j=0\/j=1\/j=2\/j=3\/j=4\/j=5\/j=6\/j=7:=by omega
   rcases this with rfl|rfl|rfl|rfl|rfl|rfl|rfl|rfl<;>(first|rw[q] |rw[r] |rw[t] |rw[hd] |rw[u] |rw[v] |rw[w] |rw[y])<;>rfl
  rw[List.getElem?_eq_none (by omega),List.getElem?_eq_none (by show 8<=j;omega)]
 rw[this]
theorem Fp(z:Value)(g:Nat->Int):fK (List.replicate 64 z) 0 (wl g)=wl g:=by kernel_rfl
theorem kU{m:Nat}{o:Obj}(a:h m=some o)(b:h n=none):m≠n:=λe=>by rw[e,b]at a;cases a
theorem fKN{P a1 a2 Q R S T U:Int}(hs:QN P a1 a2 Q R S T U s){c:Nat}{l:Bs}(q:Sl e1 bL h (.slice b n c) l)(hn:l.length=64)
 (hk:∀h' B C D V E F H W,Le h h'->QN B C D V E F H W (DP s l)->k (.agg (List.toArray (Bo B C D V E F H W))) h'):
 Ct 370 [.agg (List.toArray (Bo P a1 a2 Q R S T U)),.slice b n c] h k:=by
 refine an cKL Tryz.func370 λA hA=>?_;cbv;intro K h1 dZ e2;have l1:Le h h1:=by rw[e2];exact Le.set dZ
 have m:h1 K=some (.cells (List.toArray (Bo P a1 a2 Q R S T U)) 509 (0,0)):=(congrFun e2 K).trans ae;clear e2;cbv;refine XA (q.mono (l1.t _)) hn (λh2 g X hg=>?_);have m:=X _ _ m;have X:=l1.trans X;cbv;refine cXD (λkg bC=>?_);cbv;intro u h3 JF M;have Qr:Le h2 h3:=M ▸ Le.set JF;have l3:=X.trans Qr;have bj:=m;have aN:=Qr _ _ m;have m:=aN;have f:h3 u=some (.cells (List.toArray (List.replicate 64 (.int .u32 0))) 355 (0,0)):=(congrFun M u).trans ae;have cd:=f;clear M;cbv;intro v h4 MS N;have zR:Le h3 h4:=N ▸ Le.set MS;have o:h4 v=some (.cells (List.toArray (List.replicate 64 (.int .u32 0))) 355 (0,0)):=(congrFun N v).trans ae;have bk:K≠u:=kU bj JF;clear N;have m:=zR _ _ m;have f:=zR _ _ f;have bl:K≠v:=kU aN MS;have ar:u≠v:=kU cd MS;have z5:=X.none JF;have z6:=l3.none MS;have l4:=l3.trans zR;cbv;refine jr f (Nat.le_refl _) (λh5 M=>?_);have k5:Kp [u] h4 h5:=by rw[M];exact Kp.set (by simp)
 have f:h5 u=some (.cells (List.toArray (wl g)) 355 (0,0)):=by rw[M,ae];exact congrArg (λc=>some (Obj.cells (List.toArray c) 355 (0,0))) (Fp _ g)
 have m:=k5 _ _ m (by simpa using bk);have o:=k5 _ _ o (by simpa using Ne.symm ar);have l5:=l4.aE (bs:=[u]) (by simpa using z5) k5;clear M k5;cbv;refine jr o (Nat.le_refl _) (λh6 N=>?_);have k6:Kp [v] h5 h6:=by rw[N];exact Kp.set (by simp)
 have o:h6 v=some (.cells (List.toArray (wl kg)) 355 (0,0)):=by rw[N,ae];exact congrArg (λc=>some (Obj.cells (List.toArray c) 355 (0,0))) (Fp _ kg)
 have m:=k6 _ _ m (by simpa using bl);have f:=k6 _ _ f (by simpa using ar);have l6:=l5.aE (bs:=[v]) (by simpa using z6) k6;clear N k6;cbv;refine ak m ?_;cbv;intro p h7 Z e7;have Dy:Le h6 h7:=e7 ▸ Le.set Z;have a:h7 p=some (.cells (List.toArray (List.replicate 8 (.int .u32 0))) 509 (0,0)):=(congrFun e7 p).trans ae;have L:K≠p:=kU m Z;have au:u≠p:=kU f Z;have aH:v≠p:=kU o Z;have z7:=l6.none Z;have l7:=l6.trans Dy;have m:=Dy _ _ m;have f:=Dy _ _ f;have o:=Dy _ _ o;clear e7 Dy;cbv;refine jr a (Nat.le_refl _) (λd e8=>?_);have k8:Kp [p] h7 d:=by rw[e8];exact Kp.set (by simp)
 have a:d p=some (.cells (List.toArray (Bo P a1 a2 Q R S T U)) 509 (0,0)):=by rw[e8,ae];rfl
 have m:=k8 _ _ m (by simpa using L);have f:=k8 _ _ f (by simpa using au);have o:=k8 _ _ o (by simpa using aH);have l8:=l7.aE (bs:=[p]) (by simpa using z7) k8;clear e8 k8;obtain⟨J,aZ⟩:∃J:Nat->Int->ab->Prop,∀w z h',J w z h'=(∃i B C D V E F H W,aK z i/\w=64-i/\i<=64/\Le h h'/\h' K=some (.cells (List.toArray (Bo P a1 a2 Q R S T U)) 509 (0,0))/\h' u=some (.cells (List.toArray (wl g)) 355 (0,0))/\h' v=some (.cells (List.toArray (wl kg)) 355 (0,0))/\
  h' p=some (.cells (List.toArray (Bo B C D V E F H W)) 509 (0,0))/\QN B C D V E F H W (uG l s i)):=⟨_,λ_ _ _=>rfl⟩
 have df:J 64 0 d:=by rw[aZ];exact⟨0,_,_,_,_,_,_,_,_,⟨rfl⟩,rfl,by omega,l8,m,f,o,a,hs⟩
 clear m f o a l8 l7 l6 l5 l4 l3 X zR;cbv;refine aG.go (G:=Int) (λz=>[(18,.v (.int .i64 z))]) (λ_=>[(4,List.replicate 8 (.int .u32 0))]) (λw z h'=>J w z h') 64 0 (by constructor<;>cbv) df ?_
 intro w z h9 hI;rw[aZ]at hI;cbv;obtain⟨i,B,C,D,V,E,F,H,W,j,hw,hi,l9,m,f,o,a,d⟩:=hI;have O:A .ay .lss z 64=decide (i<64):=by rw[aD A,j.eq];exact decide_eq_decide.2 (by omega)
 rw[O];by_cases e:i<64
 .rw[decide_eq_true e];have r:=j.ix (len:=64) (by omega);have gk:=bC i e;have gw:=hg i e;have bI:∀h' x y,Le h h'->h' K=some (.cells (List.toArray (Bo P a1 a2 Q R S T U)) 509 (0,0))->h' u=some (.cells (List.toArray (wl g)) 355 (0,0))->h' v=some (.cells (List.toArray (wl kg)) 355 (0,0))->
   h' p=some (.cells (List.toArray (Bo x B C D y E F H)) 509 (0,0))->QN x B C D y E F H (aJJ (uG l s i) (Dz.getD i 0) (wF l i))->J (64-(i+1)) (A .aC .add .i64 z 1) h':=λh' x y l' q2 q5 q6 Y q8=>by
   rw[aZ];exact⟨i+1,_,_,_,_,_,_,_,_,j.succ (A:=A),rfl,by omega,l',q2,q5,q6,Y,q8⟩
  have aF:64-(i+1)<w:=by omega
  clear aZ df O;generalize uG l s i=t at *;cbv;repeat ((first|refine eE (i:=4) rfl a rfl ?_|refine eE (i:=0) rfl a rfl ?_|refine eE (i:=7) rfl a rfl ?_|refine eE (i:=5) rfl a rfl ?_|refine eE (i:=6) rfl a rfl ?_|refine eE (i:=1) rfl a rfl ?_|refine eE (i:=2) rfl a rfl ?_|refine eE (i:=3) rfl a rfl ?_|refine mJ o j e ?_|refine mJ f j e ?_|refine⟨by decide,?_⟩ |refine⟨r,?_⟩ |refine⟨⟨_,rfl,rfl⟩,?_⟩);cbv)
  refine oO d.e (n:=6) (by decide) (by decide) rfl (λw6 WR=>?_);cbv;repeat ((first|refine eE (i:=4) rfl a rfl ?_|refine eE (i:=0) rfl a rfl ?_|refine eE (i:=7) rfl a rfl ?_|refine eE (i:=5) rfl a rfl ?_|refine eE (i:=6) rfl a rfl ?_|refine eE (i:=1) rfl a rfl ?_|refine eE (i:=2) rfl a rfl ?_|refine eE (i:=3) rfl a rfl ?_|refine mJ o j e ?_|refine mJ f j e ?_|refine⟨by decide,?_⟩ |refine⟨r,?_⟩ |refine⟨⟨_,rfl,rfl⟩,?_⟩);cbv)
  refine oO d.e (n:=11) (by decide) (by decide) rfl (λch bc=>?_);cbv;repeat ((first|refine eE (i:=4) rfl a rfl ?_|refine eE (i:=0) rfl a rfl ?_|refine eE (i:=7) rfl a rfl ?_|refine eE (i:=5) rfl a rfl ?_|refine eE (i:=6) rfl a rfl ?_|refine eE (i:=1) rfl a rfl ?_|refine eE (i:=2) rfl a rfl ?_|refine eE (i:=3) rfl a rfl ?_|refine mJ o j e ?_|refine mJ f j e ?_|refine⟨by decide,?_⟩ |refine⟨r,?_⟩ |refine⟨⟨_,rfl,rfl⟩,?_⟩);cbv)
  refine oO d.e (n:=25) (by decide) (by decide) rfl (λcn aW=>?_);cbv;repeat ((first|refine eE (i:=4) rfl a rfl ?_|refine eE (i:=0) rfl a rfl ?_|refine eE (i:=7) rfl a rfl ?_|refine eE (i:=5) rfl a rfl ?_|refine eE (i:=6) rfl a rfl ?_|refine eE (i:=1) rfl a rfl ?_|refine eE (i:=2) rfl a rfl ?_|refine eE (i:=3) rfl a rfl ?_|refine mJ o j e ?_|refine mJ f j e ?_|refine⟨by decide,?_⟩ |refine⟨r,?_⟩ |refine⟨⟨_,rfl,rfl⟩,?_⟩);cbv)
  refine oO d.a (n:=2) (by decide) (by decide) rfl (λw2 FQ=>?_);cbv;repeat ((first|refine eE (i:=4) rfl a rfl ?_|refine eE (i:=0) rfl a rfl ?_|refine eE (i:=7) rfl a rfl ?_|refine eE (i:=5) rfl a rfl ?_|refine eE (i:=6) rfl a rfl ?_|refine eE (i:=1) rfl a rfl ?_|refine eE (i:=2) rfl a rfl ?_|refine eE (i:=3) rfl a rfl ?_|refine mJ o j e ?_|refine mJ f j e ?_|refine⟨by decide,?_⟩ |refine⟨r,?_⟩ |refine⟨⟨_,rfl,rfl⟩,?_⟩);cbv)
  refine oO d.a (n:=13) (by decide) (by decide) rfl (λcq br=>?_);cbv;repeat ((first|refine eE (i:=4) rfl a rfl ?_|refine eE (i:=0) rfl a rfl ?_|refine eE (i:=7) rfl a rfl ?_|refine eE (i:=5) rfl a rfl ?_|refine eE (i:=6) rfl a rfl ?_|refine eE (i:=1) rfl a rfl ?_|refine eE (i:=2) rfl a rfl ?_|refine eE (i:=3) rfl a rfl ?_|refine mJ o j e ?_|refine mJ f j e ?_|refine⟨by decide,?_⟩ |refine⟨r,?_⟩ |refine⟨⟨_,rfl,rfl⟩,?_⟩);cbv)
  refine oO d.a (n:=22) (by decide) (by decide) rfl (λcp bp=>?_);cbv;repeat ((first|refine eE (i:=4) rfl a rfl ?_|refine eE (i:=0) rfl a rfl ?_|refine eE (i:=7) rfl a rfl ?_|refine eE (i:=5) rfl a rfl ?_|refine eE (i:=6) rfl a rfl ?_|refine eE (i:=1) rfl a rfl ?_|refine eE (i:=2) rfl a rfl ?_|refine eE (i:=3) rfl a rfl ?_|refine mJ o j e ?_|refine mJ f j e ?_|refine⟨by decide,?_⟩ |refine⟨r,?_⟩ |refine⟨⟨_,rfl,rfl⟩,?_⟩);cbv)
  have hX:=((((d.h.add (A:=A) ((WR.xor (A:=A) bc).xor (A:=A) aW)).add (A:=A) ((d.e.and (A:=A) d.f).xor (A:=A) ((d.e.not (A:=A)).and (A:=A) d.g))).add (A:=A) gk).add (A:=A) gw);have hY:=((FQ.xor (A:=A) br).xor (A:=A) bp).add (A:=A) (((d.a.and (A:=A) d.b).xor (A:=A) (d.a.and (A:=A) d.c)).xor (A:=A) (d.b.and (A:=A) d.c));refine jr a (Nat.le_refl _) (λgP oZ=>?_);have yO:Kp [p] h9 gP:=by rw[oZ];exact Kp.set (by simp)
  have Y:gP p=some (.cells (List.toArray (Bo _ B C D _ E F H)) 509 (0,0)):=(congrFun oZ p).trans ae;have gU:=bI gP _ _ (l9.aE (bs:=[p]) (by simpa using z7) yO) (yO _ _ m (by simpa using L)) (yO _ _ f (by simpa using au)) (yO _ _ o (by simpa using aH)) Y ⟨hX.add (A:=A) hY,d.a,d.b,d.c,d.d.add (A:=A) hX,d.e,d.f,d.g⟩;clear bI oZ;cbv;refine⟨64-(i+1),A .aC .add .i64 z 1,aF,by constructor<;>cbv,gU⟩
 have bd:i=64:=by omega
 subst bd;generalize ht:uG l s 64=t at *;have aj:DP s l=t.add s:=by unfold DP;rw[ht]
 rw[aj]at hk;clear aj ht;rw[decide_eq_false e];obtain⟨I,fv⟩:∃I:Nat->Int->ab->Prop,∀w z h',I w z h'=(∃i,aK z i/\w=8-i/\i<=8/\Le h h'/\cA 509 nD h' K 8 s.l/\cA 509 nD h' p 8 (xN t s i)):=⟨_,λ_ _ _=>rfl⟩;have jM:I 8 0 h9:=by rw[fv];exact⟨0,⟨rfl⟩,rfl,by omega,l9,Bp m hs,Bp a d⟩
 clear m f o a aZ df O;cbv;refine aG.go (G:=Int) (λz=>[(100,.v (.int .i64 z))]) (λ_=>[(4,List.replicate 8 (.int .u32 0))]) (λw z h'=>I w z h') 8 0 (by constructor<;>cbv) jM ?_
 intro w z gP hI;rw[fv]at hI;cbv;obtain⟨i,j,hw,hi,fo,o2,o7⟩:=hI;have O:A .ay .lss z 8=decide (i<8):=by rw[aD A,j.eq];exact decide_eq_decide.2 (by omega)
 rw[O];by_cases e:i<8
 .rw[decide_eq_true e];have r:=j.ix (len:=8) (by omega);have aF:8-(i+1)<w:=by omega
  have bZ:=Jp t s e;have TM:s.l[i]? =some (s.l.getD i 0):=by rw[List.getD_eq_getElem?_getD,List.getElem?_eq_getElem (show i<s.l.length from e)];rfl
  have jI:∀h',Le h h'->cA 509 nD h' K 8 s.l->cA 509 nD h' p 8 ((xN t s i).set i (t.l.getD i 0+s.l.getD i 0))->I (8-(i+1)) (A .aC .add .i64 z 1) h':=λh' l' q2 Y=>by
   rw[fv];rw[Jo t s e]at Y;exact⟨i+1,j.succ (A:=A),rfl,by omega,l',q2,Y⟩
  have sP:i<(xN t s i).length:=by unfold xN;simpa using e
  clear fv jM O;cbv;refine⟨r,?_⟩;cbv;refine(o7.sl (n:=8) rfl).load bZ j.eq (λcs ao=>?_);obtain⟨u7,rfl,cb⟩:=ao;cbv;refine⟨r,?_⟩;cbv;refine(o2.sl (n:=8) rfl).load TM j.eq (λcs ao=>?_);obtain⟨u2,rfl,YK⟩:=ao;cbv;refine⟨r,?_⟩;cbv;refine o7.setAt (s:=nD) (by simp[nD]) sP j.eq rfl ⟨_,rfl,cb.add (A:=A) YK⟩ (λmK ag _ bF=>?_);have AY:=jI mK (fo.aE (bs:=[p]) (by simpa using z7) ag) (o2.kp ag (by simpa using L) (λ_ _ _ _ hm _=>by cases hm)) bF;clear jI;cbv;refine⟨8-(i+1),A .aC .add .i64 z 1,aF,by constructor<;>cbv,AY⟩
 have bx:i=8:=by omega
 subst bx;rw[decide_eq_false e];rw[VX]at o7;obtain⟨c0,c1,c2,c3,c4,c5,c6,c7,a,w8⟩:=Ra o7;have:=hk gP c0 c1 c2 c3 c4 c5 c6 c7 fo w8;clear hk fv jM O;cbv;refine ak a ?_;cbv;exact this
def Xk(n i:Nat):UInt8:=u8 ((n*8 % 2^64 / 2^(56-8*i):Nat):Int)
theorem uj(n:Nat):(Ji n).length=8:=rfl
theorem iXd[a:bf A](j:n<=2^40){N:Int}(e:aK N (n*8))(f:aK z i)(g:i<8):
 0<=A .aC .sub .i64 56 (A .aC .mul .i64 8 z)/\bL.R h [.int .u8 (A .conv .u8 (A .aC .shr .u64 N (A .aC .sub .i64 56 (A .aC .mul .i64 8 z))))] (Xk n i):=by
 have b:A .aC .mul .i64 8 z=((8*i:Nat):Int):=by rw[a.aC,f.eq];show IntKind.i64.wrap (8*(i:Int))=_;rw[IntWalk.i64_in _ (by omega)];omega
 have c:A .aC .sub .i64 56 ((8*i:Nat):Int)=((56-8*i:Nat):Int):=by rw[a.aC];show IntKind.i64.wrap (56-((8*i:Nat):Int))=_;rw[IntWalk.i64_in _ (by omega)];omega
 have d:A .aC .shr .u64 N ((56-8*i:Nat):Int)=((n*8 % 2^64 / 2^(56-8*i):Nat):Int):=by rw[a.aC,e.eq];show((n*8:Nat):Int).fdiv (2^(min ((56-8*i:Nat):Int).toNat 64))=_;rw[show min ((56-8*i:Nat):Int).toNat 64=56-8*i by omega,Int.fdiv_eq_ediv_of_nonneg _ (Int.le_of_lt (Int.pow_pos (by decide))),Nat.mod_eq_of_lt (by omega)];norm_cast
 rw[b,c,d];exact⟨by omega,ju _⟩
theorem Yh(l0:Le h0 h){c:Nat}{l:Bs}(q:aU 5 bL h0 h (.slice b n c) l)(hn:n<=2^38)
 (V:∀h' a n' c',Le h0 h'->(∀tys,5∉tys->bV tys h h')->aU 5 bL h0 h' (.slice a n' c') (BS l)->k (.slice a n' c') h'):
 Ct 369 [.slice b n c] h k:=by
 obtain⟨A,D⟩:=Ar.ex;have H:=q.sl.len;obtain⟨N,B⟩:∃N,N=A .aC .mul .u64 (A .conv .u64 (A .nat n)) 8:=⟨_,rfl⟩;have hN:aK N (l.length*8):=⟨by
  rw[B,D.nat,D.conv,D.aC,<-H];show IntKind.u64.wrap (IntKind.u64.wrap (n:Int)*8)=_;rw[mZ,mZ];omega⟩
 obtain⟨J,Z⟩:∃J:Nat->(Option Addr×Nat×Nat)->ab->Prop,∀w g h',J w g h'=(∃j,w=lp l.length-j/\j<=lp l.length/\Le h0 h'/\(∀tys,5∉tys->bV tys h h')/\aU 5 bL h0 h' (.slice g.1 g.2.1 g.2.2) (l++[128]++List.replicate j 0)):=⟨_,λ_ _ _=>rfl⟩;refine bB cKM A Tryz.func369 ?_;cbv;intro n1 h1 ek e1;have Y:Le h h1:=by rw[e1];exact Le.set ek
 have q1:=aR (s:=bL) (x:=128) ((congrFun e1 n1).trans ae) rfl;clear e1;cbv;refine(q.mono (Y.t _)).app q1 (by decide) rfl (by decide) (by omega) (l0.trans Y) (λm2 b2 c2 h2 yY l2 t2 k2 q2=>?_);have R:J (lp l.length) (b2,m2,c2) h2:=by rw[Z];exact⟨0,rfl,Nat.zero_le _,l2,λtys t=>(Y.t _).trans (t2 _ t),by simpa using q2⟩
 clear k2;cbv;rw[<-B];refine aG.go (G:=Option Addr×Nat×Nat) (λg=>[(0,.v (.slice g.1 g.2.1 g.2.2))]) (λ_=>[]) (λw g h'=>J w g h') (lp l.length) (b2,m2,c2) (by constructor<;>cbv) R ?_
 intro w g M E;rw[Z]at E;cbv;obtain⟨p,m,r⟩:=g;obtain⟨j,hw,hj,l3,t3,f⟩:=E;have f:aU 5 bL h0 M (.slice p m r) (l++[128]++List.replicate j 0):=f;have nj:m=l.length+1+j:=by have:=f.sl.len;simp at this;omega
 have ag:lp l.length<64:=Nat.mod_lt _ (by decide);have o:A .ay .neq (A .aC .rem .i64 (A .nat m) 64) 56=decide (j<lp l.length):=by rw[av A,D.aC,D.nat];show decide (((m:Int)).tmod 64≠56)=_;rw[Int.tmod_eq_emod_of_nonneg (by omega)];refine decide_eq_decide.2 ?_;unfold lp at *;omega
 have bI:∀h' a m' c',j<lp l.length->Le h0 h'->(∀tys,5∉tys->bV tys M h')->aU 5 bL h0 h' (.slice a m' c') (l++[128]++List.replicate j 0++[0])->J (lp l.length-(j+1)) (a,m',c') h':=λh' a m' c' F X t' Q=>by
  rw[Z];refine⟨j+1,rfl,F,X,λtys t=>(t3 _ t).trans (t' _ t),?_⟩;rw[List.append_assoc,<-List.replicate_succ']at Q;exact Q
 refine⟨by decide,?_⟩;cbv;rw[o];by_cases d:j<lp l.length
 .rw[decide_eq_true d];have F:lp l.length-(j+1)<w:=by omega
  clear o Z R;generalize l++[128]++List.replicate j 0=cur at *;cbv;intro n4 u FV S;have v:Le M u:=by rw[S];exact Le.set FV
  have e:=aR (s:=bL) (x:=0) ((congrFun S n4).trans ae) rfl;clear S;cbv;refine(f.mono (v.t _)).app e (by decide) rfl (by decide) (by omega) (l3.trans v) (λm5 b5 c5 U JG L t5 k5 q5=>?_);have gU:=bI U b5 m5 c5 d L (λtys t=>(v.t _).trans (t5 _ t)) q5;clear k5;cbv;refine⟨_,(b5,m5,c5),F,by constructor<;>cbv,gU⟩
 rw[decide_eq_false d];have hj:j=lp l.length:=by omega
 subst hj;clear o bI;obtain⟨P,O⟩:∃P,P=l++[128]++List.replicate (lp l.length) 0:=⟨_,rfl⟩;have ar:BS l=P++Ji l.length:=by rw[O];rfl
 have GS:P.length<=2^38+100:=by rw[O];simp;omega
 rw[<-O]at f;rw[ar]at V;obtain⟨I,C⟩:∃I:Nat->(Int×Option Addr×Nat×Nat)->ab->Prop,∀w g h',I w g h'=(∃i,aK g.1 i/\w=8-i/\i<=8/\Le h0 h'/\(∀tys,5∉tys->bV tys h h')/\aU 5 bL h0 h' (.slice g.2.1 g.2.2.1 g.2.2.2) (P++(Ji l.length).take i)):=⟨_,λ_ _ _=>rfl⟩;have W:I 8 (0,p,m,r) M:=by rw[C];exact⟨0,⟨rfl⟩,rfl,by omega,l3,t3,by simpa using f⟩
 clear Z R O ar f;cbv;refine aG.go (G:=Int×Option Addr×Nat×Nat) (λg=>[(19,.v (.int .i64 g.1)),(0,.v (.slice g.2.1 g.2.2.1 g.2.2.2))]) (λ_=>[]) (λw g h'=>I w g h') 8 (0,p,m,r) (by constructor<;>cbv) W ?_
 intro w g u E;rw[C]at E;cbv;obtain⟨z,p,m,r⟩:=g;obtain⟨i,K,hw,hi,v,t4,e⟩:=E;have K:aK z i:=K;have e:aU 5 bL h0 u (.slice p m r) (P++(Ji l.length).take i):=e;have nj:=e.sl.len;rw[List.length_append,List.length_take,uj]at nj;have o:A .ay .lss z 8=decide (i<8):=by rw[aD A,K.eq];exact decide_eq_decide.2 (by omega)
 rw[o];by_cases d:i<8
 .rw[decide_eq_true d];obtain⟨dv,hR⟩:=iXd (A:=A) (h:=u) (n:=l.length) (by omega) hN K d;have iq:(Ji l.length).take (i+1)=(Ji l.length).take i++[Xk l.length i]:=qz (Xk l.length) d;have jI:∀h' m' a c',Le h0 h'->(∀tys,5∉tys->bV tys h h')->aU 5 bL h0 h' (.slice a m' c') (P++(Ji l.length).take i++[Xk l.length i])->I (8-(i+1)) (A .aC .add .i64 z 1,a,m',c') h':=λh' m' a c' X t' Q=>by
   rw[C];exact⟨i+1,K.succ (A:=A),rfl,d,X,t',by rw[iq,<-List.append_assoc];exact Q⟩
  have F:8-(i+1)<w:=by omega
  have nq:m+1<=2^39:=by omega
  clear o C W iq nj;generalize Xk l.length i=y at *;generalize P++(Ji l.length).take i=cur at *;cbv;refine⟨dv,?_⟩;cbv;intro n5 U JF T;have L:Le u U:=by rw[T];exact Le.set JF
  have q5:=aR (s:=bL) ((congrFun T n5).trans ae) hR;clear T;cbv;refine(e.mono (L.t _)).app q5 (by decide) rfl (by decide) nq (v.trans L) (λm6 b6 c6 h6 Pf l6 t6 k6 q6=>?_);have AY:=jI h6 m6 b6 c6 l6 (λtys t=>(t4 _ t).trans ((L.t _).trans (t6 _ t))) q6;clear jI k6;cbv;refine⟨8-(i+1),(_,b6,m6,c6),F,by constructor<;>cbv,AY⟩
 rw[decide_eq_false d];have hi:i=8:=by omega
 rw[List.take_of_length_le (by rw[uj];omega)]at e;have:=V u p m r v t4 e;clear V C W;cbv;exact this
def hl(g:Nat->Int):List Value:=[.int .u8 (g 0),.int .u8 (g 1),.int .u8 (g 2),.int .u8 (g 3),.int .u8 (g 4),.int .u8 (g 5),.int .u8 (g 6),.int .u8 (g 7),.int .u8 (g 8),.int .u8 (g 9),.int .u8 (g 10),.int .u8 (g 11),.int .u8 (g 12),.int .u8 (g 13),.int .u8 (g 14),.int .u8 (g 15),.int .u8 (g 16),.int .u8 (g 17),.int .u8 (g 18),.int .u8 (g 19),.int .u8 (g 20),.int .u8 (g 21),.int .u8 (g 22),.int .u8 (g 23),.int .u8 (g 24),.int .u8 (g 25),.int .u8 (g 26),.int .u8 (g 27),.int .u8 (g 28),.int .u8 (g 29),.int .u8 (g 30),.int .u8 (g 31)]
def mC(v:Value)(d s:Int)(g:Nat->Int):List Value:=[v,.int .u32 d,.int .i32 s,.int .u32 0,.int .u8 (g 0),.int .u8 (g 1),.int .u8 (g 2),.int .u8 (g 3),.int .u8 (g 4),.int .u8 (g 5),.int .u8 (g 6),.int .u8 (g 7),.int .u8 (g 8),.int .u8 (g 9),.int .u8 (g 10),.int .u8 (g 11),.int .u8 (g 12),.int .u8 (g 13),.int .u8 (g 14),.int .u8 (g 15),.int .u8 (g 16),.int .u8 (g 17),.int .u8 (g 18),.int .u8 (g 19),.int .u8 (g 20),.int .u8 (g 21),.int .u8 (g 22),.int .u8 (g 23),.int .u8 (g 24),.int .u8 (g 25),.int .u8 (g 26),.int .u8 (g 27),.int .u8 (g 28),.int .u8 (g 29),.int .u8 (g 30),.int .u8 (g 31)]
theorem Cq(g:Nat->Int):hl g=(List.range 32).map λi=>Value.int .u8 (g i):=rfl
theorem TV(v:Value)(d s:Int)(g:Nat->Int):mC v d s g=[v,.int .u32 d,.int .i32 s,.int .u32 0]++hl g:=rfl
theorem zb(g:Nat->Int)(x:Int)(h:i<32):(hl g).set i (.int .u8 x)=hl (λj=>if j=i then x else g j):=by
 rw[Cq,Cq];apply List.ext_getElem?;intro j;rw[List.getElem?_set,List.getElem?_map,List.getElem?_map];by_cases a:j<32
 .rw[List.getElem?_range a];by_cases e:i=j
  .rw[if_pos e,if_pos (by simpa using h)];subst e;simp
  rw[if_neg e];simp[Ne.symm e]
 rw[List.getElem?_eq_none (by simp;omega),if_neg (by omega)];rfl
theorem YP(v:Value)(d s:Int)(g:Nat->Int)(x:Int)(h:i<32):(mC v d s g).set (4+i) (.int .u8 x)=mC v d s (λj=>if j=i then x else g j):=by
 rw[TV,TV,<-zb g x h,List.set_append_right _ _ (by simp)];have:4+i-([v,.int .u32 d,.int .i32 s,.int .u32 0]:List Value).length=i:=by show 4+i-4=i;omega
 rw[this]
theorem aJs[a:bf A]{T o:Nat}{v:Value}{k:ab->Prop}(d:aK z i)(q:h n=some (.cells (List.toArray c) T (0,0)))(f:o+i<c.length)
 (b:∀h',h'=bu h n (.cells (List.toArray (c.set (o+i) v)) T (0,0))->k h'):Dq h (A .ia (some ⟨n,o,none⟩) z 1) [v] k:=by
 have e:A .ia (some ⟨n,o,none⟩) z 1=⟨n,o+i,none⟩:=by rw[a.ia,d.eq];simp[ia,bP]
 rw[e];exact jr q (by show o+i+1<=_;omega) b
theorem xh{b:Bs}(c:b.length=32)(h:∀i x,b[i]? =some x->g i=(x.toNat:Int)):hl g=aI b:=by
 rw[Cq];unfold aI;apply List.ext_getElem?;intro i;rw[List.getElem?_map,List.getElem?_map];by_cases a:i<32
 .obtain⟨x,hx⟩:=bn b i;rw[List.getElem?_range a,hx,Option.map_some,Option.map_some,h i x hx]
 rw[List.getElem?_eq_none (by simp;omega),List.getElem?_eq_none (by omega)];rfl
theorem Cr{b:Bs}(h:b.length=32):∃g,hl g=aI b:=⟨λi=>((b.getD i 0).toNat:Int),xh h λi x hx=>by rw[List.getD_eq_getElem?_getD,hx];rfl⟩
theorem HY(s:W8)(h:j<32):(OC s)[j]? =some (wB (s.l.getD (j / 4) 0) (j % 4)):=by have:OC s=(List.range 32).map λj=>wB (s.l.getD (j / 4) 0) (j % 4):=rfl;rw[this,List.getElem?_map,List.getElem?_range h];rfl
theorem HW(l:Bs):(BS l).length % 64=0:=by unfold BS;simp only[List.length_append,List.length_cons,List.length_nil,List.length_replicate,uj];unfold lp;omega
theorem jF.byte[d:bf A]{u:Int}{w:W}(e:jF u w)(f:aK z i):
 0<=A .aC .sub .i64 24 (A .aC .mul .i64 8 (A .aC .rem .i64 z 4))/\A .conv .u8 (A .aC .shr .u32 u (A .aC .sub .i64 24 (A .aC .mul .i64 8 (A .aC .rem .i64 z 4))))=((wB w (i % 4)).toNat:Int):=by
 have b:A .aC .sub .i64 24 (A .aC .mul .i64 8 (A .aC .rem .i64 z 4))=((24-8*(i % 4):Nat):Int):=by rw[d.aC,f.eq];show IntKind.i64.wrap (24-IntKind.i64.wrap (8*((i:Int)).tmod 4))=_;rw[Int.tmod_eq_emod_of_nonneg (by omega),IntWalk.i64_in (8*((i:Int) % 4)) (by omega),IntWalk.i64_in _ (by omega)];omega
 rw[b];refine⟨by omega,?_⟩;have c:=(e.shr (A:=A) (n:=((24-8*(i % 4):Nat):Int)) (i:=24-8*(i % 4)) ⟨rfl⟩ (by omega)).eq;rw[c];have a:=ju (A:=A) (h:=λ_=>none) (((w >>> (24-8*(i % 4))).toNat:Nat):Int);have a:[Value.int .u8 (A .conv .u8 (((w >>> (24-8*(i % 4))).toNat:Nat):Int))]=[.int .u8 ((u8 (((w >>> (24-8*(i % 4))).toNat:Nat):Int)).toNat:Int)]:=a;injection a with a _
 injection a with _ a
theorem cZj(l0:Le h0 h){p:Nat}{c:Nat}{l:Bs}(q:aU 5 bL h0 h (.slice b n c) l)(gp:h p=some (.cells (List.toArray (mC (.slice b n c) 0 1 λ_=>0)) 493 (0,0)))(hp:h0 p=none)(hn:n<=2^38)
 (hk:∀h' g,Le h0 h'->h' p=some (.cells (List.toArray (mC (.slice b n c) 0 1 g)) 493 (0,0))->hl g=aI (On l)->k (.tuple #[]) h'):
 Ct 351 [.pointer (some ⟨p,0,none⟩)] h k:=by
 have TX:On l=OC (iS jS (BS l)):=rfl;have L:=HW l;rw[TX]at hk;clear TX;refine an dQa Tryz.func351 λA hA=>?_;cbv;refine bZE (λa0 a1 a2 a3 a4 a5 a6 a7 h8=>?_);cbv;intro a h1 dZ e1;have U:Le h h1:=by rw[e1];exact Le.set dZ
 have d:h1 a=some (.cells (List.toArray (List.replicate 8 (.int .u32 0))) 509 (0,0)):=(congrFun e1 a).trans ae;have K:p≠a:=kU gp dZ;have z2:=l0.none dZ;have q1:=q.mono (U.t _);have P:=U _ _ gp;have U:=l0.trans U;clear e1;cbv;refine jr d (Nat.le_refl _) (λh2 e2=>?_);have k2:Kp [a] h1 h2:=by rw[e2];exact Kp.set (by simp)
 have q2:aU 5 bL h0 h2 (.slice b n c) l:=q1.mono (by rw[e2];exact bV.set d (by decide));have d:h2 a=some (.cells (List.toArray (Bo a0 a1 a2 a3 a4 a5 a6 a7)) 509 (0,0)):=by rw[e2,ae];rfl
 have O:=k2 _ _ P (by simpa using K);have l2:=U.aE (bs:=[a]) (by simpa using z2) k2;clear e2 k2 P;cbv;rw[al A];refine ak O ?_;cbv;refine Yh l2 q2 hn (λh3 y m3 c3 l3 t3 q3=>?_);have d:=t3 [509] (by decide) _ _ _ _ (by simp) d;have H:=t3 [493] (by decide) _ _ _ _ (by simp) O;have q3:=q3.sl;obtain⟨J,Z⟩:∃J:Nat->(Option Addr×Nat×Nat)->ab->Prop,∀w g h',J w g h'=(∃b0 b1 b2 y b4 b5 b6 b7 S r,w=g.2.1/\Le h0 h'/\Sl 5 bL h' (.slice g.1 g.2.1 g.2.2) r/\r.length % 64=0/\iS S r=iS jS (BS l)/\QN b0 b1 b2 y b4 b5 b6 b7 S/\
  h' a=some (.cells (List.toArray (Bo b0 b1 b2 y b4 b5 b6 b7)) 509 (0,0))/\h' p=some (.cells (List.toArray (mC (.slice b n c) 0 1 λ_=>0)) 493 (0,0))):=⟨_,λ_ _ _=>rfl⟩
 have df:J m3 (y,m3,c3) h3:=by rw[Z];exact⟨_,_,_,_,_,_,_,_,_,_,rfl,l3,q3,L,rfl,h8,d,H⟩
 generalize iS jS (BS l)=SF at *;clear d H O t3 q3 q2 l2 q1 L;cbv;refine aG.go (G:=Option Addr×Nat×Nat) (λg=>[(3,.v (.slice g.1 g.2.1 g.2.2))]) (λ_=>[]) (λw g h'=>J w g h') m3 (y,m3,c3) (by constructor<;>cbv) df ?_
 intro w g h4 R;rw[Z]at R;cbv;obtain⟨gb,m,f⟩:=g;obtain⟨b0,b1,b2,y,b4,b5,b6,b7,S,r,hw,l4,F,zX,hS,w8,d,N⟩:=R;have hw:w=m:=hw;have F:Sl 5 bL h4 (.slice gb m f) r:=F;have nj:=F.len;have iW:=F.bound;have B:A .ay .gtr (A .nat m) 0=decide (64<=r.length):=by rw[aX A,hA.nat];refine decide_eq_decide.2 ?_;show(m:Int)>0↔_;omega
 have D:iS S r=if h:64<=r.length then iS (DP S (r.take 64)) (r.drop 64)else S:=by rw[iS]
 rw[B];by_cases s:64<=r.length
 .rw[dif_pos s,hS]at D;rw[decide_eq_true s];have Q:aK 64 64:=⟨rfl⟩;have dv:(0:Int)<=64/\(64:Int)<=(f:Int):=by omega
  have iG:(0:Int)<=64/\(64:Int)<=(m:Int):=by omega
  have ar:=cM (A:=A) Q;have GW:=bQ (A:=A) (n:=m) Q;have Nq:=bQ (A:=A) (n:=f) Q;have tk:=F.sg (A:=A) (z:=A .nat f) (i:=64) (by omega) rfl;have td:=F.iH (A:=A) Q (by omega) rfl rfl;have aF:m-64<w:=by omega
  have yS:(r.take 64).length=64:=by rw[List.length_take];omega
  have aj:(r.drop 64).length % 64=0:=by rw[List.length_drop];omega
  have bI:∀h' x0 V W Y x4 x5 x6 x7,Le h0 h'->Sl 5 bL h' (.slice (A .cut gb 64 (A .nat f) 1) (m-64) (f-64)) (r.drop 64)->QN x0 V W Y x4 x5 x6 x7 (DP S (r.take 64))->h' a=some (.cells (List.toArray (Bo x0 V W Y x4 x5 x6 x7)) 509 (0,0))->
   h' p=some (.cells (List.toArray (mC (.slice b n c) 0 1 λ_=>0)) 493 (0,0))->J (m-64) (A .cut gb 64 (A .nat f) 1,m-64,f-64) h':=λh' x0 V W Y x4 x5 x6 x7 l' q' w' g' au=>by
   rw[Z];exact⟨_,_,_,_,_,_,_,_,_,_,rfl,l',q',aj,D.symm,w',g',au⟩
  clear Z df B hS D;cbv;refine ak d ?_;cbv;refine⟨dv,?_⟩;cbv;rw[ar];refine fKN w8 tk yS (λh5 x0 V W Y x4 x5 x6 x7 v w5=>?_);have g5:=v _ _ d;have X:=v _ _ N;have ag:=td.mono (v.t _);cbv;refine jr g5 (Nat.le_refl _) (λC o=>?_);have T:Kp [a] h5 C:=by rw[o];exact Kp.set (by simp)
  have g6:C a=some (.cells (List.toArray (Bo x0 V W Y x4 x5 x6 x7)) 509 (0,0)):=by rw[o,ae];rfl
  have gU:=bI C _ _ _ _ _ _ _ _ ((l4.trans v).aE (bs:=[a]) (by simpa using z2) T) (ag.mono (by rw[o];exact bV.set g5 (by decide))) w5 g6 (T _ _ X (by simpa using K));clear bI o;cbv;refine⟨iG,?_⟩;cbv;rw[GW,Nq];refine⟨_,(_,m-64,f-64),aF,by constructor<;>cbv,gU⟩
 rw[decide_eq_false s];rw[dif_neg s,hS]at D;subst D;obtain⟨I,M⟩:∃I:Nat->Int->ab->Prop,∀w z h',I w z h'=(∃i g,aK z i/\w=32-i/\i<=32/\Le h0 h'/\cA 509 nD h' a 8 SF.l/\h' p=some (.cells (List.toArray (mC (.slice b n c) 0 1 g)) 493 (0,0))/\∀j,j<i->g j=((wB (SF.l.getD (j / 4) 0) (j % 4)).toNat:Int)):=⟨_,λ_ _ _=>rfl⟩;have jM:I 32 0 h4:=by rw[M];exact⟨0,_,⟨rfl⟩,rfl,by omega,l4,Bp d w8,N,λj hj=>by omega⟩
 clear Z df B d N hS;cbv;refine aG.go (G:=Int) (λz=>[(20,.v (.int .i64 z))]) (λ_=>[]) (λw z h'=>I w z h') 32 0 (by constructor<;>cbv) jM ?_
 intro w z h5 R;rw[M]at R;cbv;obtain⟨i,g,E,hw,hi,v,o5,X,t⟩:=R;have B:A .ay .lss z 32=decide (i<32):=by rw[aD A,E.eq];exact decide_eq_decide.2 (by omega)
 rw[B];by_cases s:i<32
 .rw[decide_eq_true s];have hq:aK (A .aC .quo .i64 z 4) (i / 4):=⟨by
   rw[hA.aC,E.eq];show IntKind.i64.wrap ((i:Int).tdiv 4)=_;rw[Int.tdiv_eq_ediv_of_nonneg (by omega),IntWalk.i64_in _ (by omega)];omega⟩
  have cq:=hq.ix (len:=8) (by omega);have cz:=E.ix (len:=32) (by omega);have aF:32-(i+1)<w:=by omega
  have hx:SF.l[i / 4]? =some (SF.l.getD (i / 4) 0):=by rw[List.getD_eq_getElem?_getD,List.getElem?_eq_getElem (show i / 4<SF.l.length from(by show i / 4<8;omega))];rfl
  have jI:∀h' x,x=((wB (SF.l.getD (i / 4) 0) (i % 4)).toNat:Int)->Le h0 h'->cA 509 nD h' a 8 SF.l->h' p=some (.cells (List.toArray ((mC (.slice b n c) 0 1 g).set (4+i) (.int .u8 x))) 493 (0,0))->I (32-(i+1)) (A .aC .add .i64 z 1) h':=λh' x hx l' o' g'=>by
   rw[M];rw[YP _ _ _ _ _ s]at g';refine⟨i+1,_,E.succ (A:=A),rfl,by omega,l',o',g',λj hj=>?_⟩;show(if j=i then x else g j)=_;split
   .rename_i e;rw[e,hx]
   exact t j (by omega)
  clear M jM B t;cbv;refine⟨by decide,?_⟩;cbv;refine⟨cq,?_⟩;cbv;refine(o5.sl (n:=8) rfl).load hx hq.eq (λcs ao=>?_);obtain⟨u,rfl,hu⟩:=ao;obtain⟨dv,mR⟩:=hu.byte (A:=A) E;cbv;refine⟨by decide,?_⟩;cbv;refine⟨dv,?_⟩;cbv;refine⟨cz,?_⟩;cbv;rw[al A];refine aJs E X (by show 0+4+i<36;omega) (λC o=>?_);have T:Kp [p] h5 C:=by rw[o];exact Kp.set (by simp)
  have gU:=jI C _ mR (v.aE (bs:=[p]) (by simpa using hp) T) (o5.kp T (by simpa using Ne.symm K) (λ_ _ _ _ hm _=>by cases hm)) (by rw[o,ae]);clear jI o;cbv;refine⟨_,A .aC .add .i64 z 1,aF,by constructor<;>cbv,gU⟩
 have hi:i=32:=by omega
 subst hi;rw[decide_eq_false s];have:=hk h5 g v X (xh (sG _) λj x hx=>by
  have hj:j<32:=by have:=(List.getElem?_eq_some_iff.1 hx).1;rw[sG]at this;exact this
  rw[HY _ hj]at hx;cases hx;exact t j hj)
 clear hk M jM;cbv;exact this
theorem LI{c:Nat}(q:Sl 176 Ah h (.slice b n c) L)(G:L.flatten.length<=2^38)
 (v:∀h' g,Le h h'->hl g=aI (On L.flatten)->k (.agg (List.toArray (hl g))) h'):Ct 290 [.slice b n c] h k:=by
 refine an dXb Tryz.func290 λA P=>?_;cbv;refine xH q G (λE a f d x z=>?_);have O:=z.sl.len;cbv;intro p t w l;have y:Le E t:=by rw[l];exact Le.set w
 have s:t p=some (.cells (List.toArray (mC (.slice a f d) 0 0 λ_=>0)) 493 (0,0)):=(congrFun l p).trans ae;have M:=z.mono (y.t _);have K:=x.none w;clear l;cbv;rw[al A];refine bKD s (o:=1) rfl rfl (λm i=>?_);have B:m p=some (.cells (List.toArray (mC (.slice a f d) 0 1 λ_=>0)) 493 (0,0)):=by rw[i,ae];rfl
 have H:Le h m:=(x.trans y).aE (bs:=[p]) (by simpa using K) (by rw[i];exact Kp.set (by simp));have N:aU 5 bL h m (.slice a f d) L.flatten:=M.mono (by rw[i];exact bV.set s (by decide));clear i;refine cZj H N B K (by omega) (λu g I C F=>?_);refine⟨rfl,_,C,rfl,rfl,?_⟩;obtain⟨e,j⟩:∃e,e=bu u p (.cells (List.toArray (mC (.slice a f d) 1 0 g)) 493 (0,0)):=⟨_,rfl⟩;have r:bu u p (.cells (List.toArray (((mC (.slice a f d) 0 1 g).set 1 (.int .u32 1)).set (1+1) (.int .i32 0))) 493 (0,0))=e:=j.symm;rw[r];have D:=(congrFun j p).trans ae;have J:Le h e:=I.aE (bs:=[p]) (by simpa using K) (by rw[j];exact Kp.set (by simp));have:=v e g J F;clear j r v;cbv;rw[al A];refine ak D ?_;cbv;exact this
def yA:Sh Bs where
 n:=32
 R _ cs b:=cs=aI b/\b.length=32
 len:=by rintro h cs b ⟨rfl,hl⟩;simpa[aI]using hl
 one:=by rintro h cs b ⟨rfl,-⟩;exact gD b
 tys:=[]
 mono:=λ_ q=>q
theorem Fo{b:Bs}(c:hl g=aI b)(a:b.length=32):yA.R h (hl g) b:=⟨c,a⟩
theorem mf{T:Nat}{x:Bs}(q:h n=some (.cells (List.toArray (hl g)) T (0,0)))(b:hl g=aI x)(hx:x.length=32):Sl T bL h (.slice (some ⟨n,0,none⟩) 32 32) x:=by
 rw[b]at q;have:=Sl.fresh (e:=T) (s:=bL) (xs:=x) (cap:=32) q ⟨by simp[bL,aI],λi y a=>?_⟩ (by omega) (by omega)
 .rw[hx]at this;exact this
 show((aI x).drop (0+i*1)).take 1=[.int .u8 (y.toNat:Int)];rw[Nat.zero_add,Nat.mul_one];unfold aI;rw[<-List.map_drop,<-List.map_take];have c:i<x.length:=(List.getElem?_eq_some_iff.1 a).1;rw[List.drop_eq_getElem_cons c];have:=(List.getElem?_eq_some_iff.1 a).2;simp[this]
theorem AK(z:Value)(g:Nat->Int):fK (List.replicate 32 z) 0 (hl g)=hl g:=by kernel_rfl
theorem HE(f g:Nat->Int):fK (hl f) 0 (hl g)=hl g:=by kernel_rfl
theorem tM{h':ab}{T:Nat}(e:h'=bu h n (.cells (List.toArray (fK c 0 (hl g))) T (0,0)))(a:fK c 0 (hl g)=hl g):h' n=some (.cells (List.toArray (hl g)) T (0,0)):=by rw[e,ae,a]
theorem aZW{c:Nat}{l:Bs}(q:Sl e1 bL h (.slice b n c) l)(r:e1∈eXv)(C:n<=2^37)
 (u:∀h' g,Le h h'->hl g=aI (wT l)->k (.agg (List.toArray (hl g))) h'):Ct 256 [.slice b n c] h k:=by
 have f:=q.len;refine an dXH Tryz.func256 λA B=>?_;cbv;intro w d j e1;have i:Le h d:=by rw[e1];exact Le.set j
 have z:=aR (s:=bL) (x:=0) ((congrFun e1 w).trans ae) rfl;clear e1;cbv;intro y o Z e;have a:Le d o:=by rw[e];exact Le.set Z
 have m:=(congrFun e y).trans ae;clear e;cbv;refine LI (L:=[[0],l]) (mM (s:=Ah) rfl m (dE (z.mono (a.t _))) (dE (q.mono ((i.trans a).t _)) r)) (by simp;omega) (λp g v t=>?_);have:=u p g ((i.trans a).trans v) (by rw[t];unfold wT;simp);cbv;exact this
theorem Hp(a b:Bs):(vY a b).length=32:=fw _
theorem bQS{c:Nat}(q:Sl 100 yA h (.slice b n c) L){p:Nat->Int}{x0:Bs}(h0:hl p=aI x0)(rR:x0.length=32)
 (hk:∀h' g,Le h h'->hl g=aI (L.foldl vY x0)->(L.foldl vY x0).length=32->k (.agg (List.toArray (hl g))) h'):Ct 328 [.agg (List.toArray (hl p)),.slice b n c] h k:=by
 have ag:=q.len;have iW:=q.bound;refine an dQt Tryz.func328 λA hA=>?_;cbv;intro f e T e1;have l1:Le h e:=by rw[e1];exact Le.set T
 have V:e f=some (.cells (List.toArray (hl p)) 100 (0,0)):=(congrFun e1 f).trans ae;obtain⟨J,Z⟩:∃J:Nat->Int->ab->Prop,∀w z h',J w z h'=(∃i g x,aK z i/\w=n-i/\i<=n/\Le h h'/\h' f=some (.cells (List.toArray (hl g)) 100 (0,0))/\hl g=aI x/\x.length=32/\(L.drop i).foldl vY x=L.foldl vY x0):=⟨_,λ_ _ _=>rfl⟩;have B:J n 0 e:=by rw[Z];exact⟨0,p,x0,⟨rfl⟩,rfl,by omega,l1,V,h0,rR,rfl⟩
 generalize L.foldl vY x0=F at *;clear e1 V;cbv;refine aG.go (G:=Int) (λz=>[(9,.v (.int .i64 z))]) (λ_=>[(4,List.replicate 32 (.int .u8 0))]) (λw z h'=>J w z h') n 0 (by constructor<;>cbv) B ?_
 intro w z Y hI;rw[Z]at hI;cbv;obtain⟨i,g,x,t,hw,hi,u,N,hg,hx,d⟩:=hI;have U:A .ay .lss z (A .nat n)=decide (i<n):=by rw[aD A,t.eq,hA.nat];exact decide_eq_decide.2 (by show(i:Int)<(n:Int)↔_;omega)
 rw[U];by_cases r:i<n
 .rw[decide_eq_true r];obtain⟨y,hy⟩:=bn L i;have ix:=t.ix r;have iU:b.isSome=true:=q.aQ;have aF:n-(i+1)<w:=by omega
  have EF:L.drop i=y::L.drop (i+1):=by have e:=(List.getElem?_eq_some_iff.1 hy);rw[List.drop_eq_getElem_cons e.1,e.2]
  rw[EF,List.foldl_cons]at d;have S:∀h' a,Le h h'->h' f=some (.cells (List.toArray (hl a)) 100 (0,0))->hl a=aI (vY x y)->J (n-(i+1)) (A .aC .add .i64 z 1) h':=λh' a l' q' C=>by
   rw[Z];exact⟨i+1,a,_,t.succ (A:=A),rfl,r,l',q',C,Hp _ _,d⟩
  clear Z B U d;cbv;refine⟨⟨iU,ix⟩,?_⟩;cbv;refine(q.mono (u.t _)).load hy t.eq (λcs o=>?_);obtain⟨o,X⟩:=o;obtain⟨gy,l⟩:=Cr X;rw[<-l]at o;subst o;cbv;intro j P M D;have l3:Le Y P:=by rw[D];exact Le.set M
  have O:P j=some (.cells (List.toArray (List.replicate 32 (.int .u8 0))) 100 (0,0)):=(congrFun D j).trans ae;have v:f≠j:=kU N M;have g3:=l3 _ _ N;have z6:=u.none M;clear D;cbv;refine jr O (Nat.le_refl _) (λQ E=>?_);have R:Kp [j] P Q:=by rw[E];exact Kp.set (by simp)
  have O:Q j=some (.cells (List.toArray (hl gy)) 100 (0,0)):=tM E (AK _ _);have W:=R _ _ g3 (by simpa using v);have l4:=(u.trans l3).aE (bs:=[j]) (by simpa using z6) R;clear E R;cbv;intro n7 h5 DG H;have l5:Le Q h5:=by rw[H];exact Le.set DG
  have q7:=aR (s:=bL) (x:=1) ((congrFun H n7).trans ae) rfl;clear H;cbv;intro n8 h6 zW I;have l6:Le h5 h6:=by rw[I];exact Le.set zW
  have g8:=(congrFun I n8).trans ae;have m:=l5.trans l6;clear I;cbv;refine LI (L:=[[1],x,y]) (sa (s:=Ah) rfl g8 (dE (q7.mono (l6.t _))) (dE (mf (m _ _ W) hg hx)) (dE (mf (m _ _ O) l X))) (by simp;omega) (λh7 a l7 C=>?_);have g7:=l7 _ _ (m _ _ W);have WM:=l4.trans (m.trans l7);have C:hl a=aI (vY x y):=by rw[C];unfold vY;simp
  cbv;refine jr g7 (Nat.le_refl _) (λh8 K=>?_);have gU:=S h8 a (WM.aE (bs:=[f]) (by simpa using T) (by rw[K];exact Kp.set (by simp))) (tM K (HE _ _)) C;clear S K;cbv;refine⟨n-(i+1),A .aC .add .i64 z 1,aF,by constructor<;>cbv,gU⟩
 have eC:i=n:=by omega
 subst eC;rw[List.drop_of_length_le (by omega)]at d;have d:x=F:=d;subst d;have:=hk Y g u hg hx;rw[decide_eq_false r];clear hk Z B;cbv;refine ak N ?_;cbv;exact this
theorem cXm(q:aK z n)(u:2<=n)(s:n<=2^60)(b:∀w,aK w (xF n)->k (.int .i64 w) h):Ct 327 [.int .i64 z] h k:=by
 obtain⟨J,a⟩:∃J:Nat->Int->ab->Prop,∀w y h',J w y h'=(∃i,aK y i/\w=n-i/\0<i/\i<n/\h'=h/\zr i n=xF n):=⟨_,λ_ _ _=>rfl⟩;have d:J (n-1) 1 h:=by rw[a];exact⟨1,⟨rfl⟩,rfl,by omega,by omega,rfl,rfl⟩
 generalize xF n=C at *;refine an dQu Tryz.func327 λA e=>?_;cbv;refine aG.go (G:=Int) (λy=>[(3,.v (.int .i64 y))]) (λ_=>[]) (λw y h'=>J w y h') (n-1) 1 (by constructor<;>cbv) d ?_
 intro w y o I;rw[a]at I;cbv;obtain⟨i,j,v,h0,t,rfl,g⟩:=I;have m:A .aC .mul .i64 2 y=((2*i:Nat):Int):=by rw[e.aC,j.eq];show IntKind.i64.wrap (2*(i:Int))=_;rw[IntWalk.i64_in _ (by omega)];omega
 have r:A .aC .mul .i64 y 2=A .aC .mul .i64 2 y:=by rw[e.aC];show IntKind.i64.wrap (y*2)=IntKind.i64.wrap (2*y);rw[Int.mul_comm]
 have f:A .ay .lss (A .aC .mul .i64 2 y) z=decide (2*i<n):=by rw[m,aD A,q.eq];exact decide_eq_decide.2 (by omega)
 have F:zr i n=if h:2*i<n/\0<i then zr (2*i) n else i:=by rw[zr]
 rw[f];by_cases c:2*i<n
 .rw[dif_pos ⟨c,h0⟩,g]at F;have U:J (n-2*i) (A .aC .mul .i64 2 y) o:=by rw[a];exact⟨2*i,⟨m⟩,rfl,by omega,c,rfl,F.symm⟩
  have l:n-2*i<w:=by omega
  rw[decide_eq_true c];clear a d b f m;cbv;rw[r];refine⟨_,A .aC .mul .i64 2 y,l,by constructor<;>cbv,U⟩
 rw[dif_neg (λp=>c p.1),g]at F;have:=b y (by rw[F];exact j);rw[decide_eq_false c];clear a d b f m;cbv;exact this
set_option maxHeartbeats 2000000
theorem Ej(h:2<=L.length):fL L=vY (fL (L.take (xF L.length))) (fL (L.drop (xF L.length))):=by
 match L,h with
 |x::y::r,_=>rw[fL];rfl
theorem aZS(N:Nat):∀ {h:ab} {b:Option Addr} {n c:Nat} {L:List Bs} (q:Sl 100 yA h (.slice b n c) L) (J:L.length<=N) {k:Value->ab->Prop}
 (a:∀h' g,Le h h'->hl g=aI (fL L)->(fL L).length=32->k (.agg (List.toArray (hl g))) h'),Ct 246 [.slice b n c] h k:=by
 induction N with
 |zero=>
  intro h b n c L q J k a;obtain⟨A,u⟩:=Ar.ex;have l:=q.len;have j:L=[]:=List.eq_nil_of_length_eq_zero (by omega);subst j;have r:A .ay .eql (A .nat n) 0=true:=by rw[aq A,u.nat,l];rfl
  refine bB aQr A Tryz.func246 ?_;cbv;rw[r];cbv;refine LI (L:=[]) Sl.nil (by simp) (λt g f d=>?_);have:=a t g f (by rw[d];rw[fL];rfl) (by rw[fL];exact fw _);cbv;exact this
 |succ N o=>
  intro h b n c L q J k a;obtain⟨A,u⟩:=Ar.ex;have l:=q.len;have iW:=q.bound;have r:A .ay .eql (A .nat n) 0=decide (L.length=0):=by rw[aq A,u.nat,<-l];exact decide_eq_decide.2 (by show(n:Int)=0↔_;omega)
  have H:A .ay .eql (A .nat n) 1=decide (L.length=1):=by rw[aq A,u.nat,<-l];exact decide_eq_decide.2 (by show(n:Int)=1↔_;omega)
  refine bB aQr A Tryz.func246 ?_;cbv;rw[r];by_cases v:L.length=0
  .have j:L=[]:=List.eq_nil_of_length_eq_zero v;subst j;rw[decide_eq_true v];clear o;cbv;refine LI (L:=[]) Sl.nil (by simp) (λt g f d=>?_);have:=a t g f (by rw[d];rw[fL];rfl) (by rw[fL];exact fw _);cbv;exact this
  rw[decide_eq_false v];cbv;rw[H];by_cases B:L.length=1
  .obtain⟨x,hx⟩:=bn L 0;have j:L=[x]:=by
    match L,B with
    | [y],_=>cases hx;rfl
   have hR:fL L=x:=by rw[j,fL]
   rw[hR]at a;have iU:b.isSome=true:=q.aQ;have ix:(0:Int)<=0/\(0:Int)<(n:Int):=by omega
   rw[decide_eq_true B];clear o;cbv;refine⟨⟨iU,ix⟩,?_⟩;cbv;refine q.load hx rfl (λcs p=>?_);obtain⟨p,T⟩:=p;obtain⟨g,d⟩:=Cr T;rw[<-d]at p;subst p;have:=a h g (Le.refl _) d T;cbv;exact this
  rw[decide_eq_false B];have hR:=Ej (L:=L) (by omega);obtain⟨F,Y⟩:=Ba (n:=L.length) (by omega);rw[hR]at a;have dZ:2<=n:=by omega
  have Z:L.length=n:=l.symm;rw[Z]at a F Y;obtain⟨m,M⟩:∃m,m=xF n:=⟨_,rfl⟩;rw[<-M]at a F Y;clear r H hR;cbv;refine cXm (aK.nat n) dZ (by omega) (λw e=>?_);rw[<-M]at e;have mF:0<=w/\w<=(c:Int):=by have:=e.eq;omega
  have mX:0<=w/\w<=(n:Int):=by have:=e.eq;omega
  have S:=cM (A:=A) e;obtain⟨n2,E⟩:∃x,x=n-m:=⟨_,rfl⟩;obtain⟨c2,U⟩:∃x,x=c-m:=⟨_,rfl⟩;have G:=bQ (A:=A) (n:=n) e;have D:=bQ (A:=A) (n:=c) e;rw[<-E]at G;rw[<-U]at D;have tk:=q.sg (A:=A) (z:=A .nat c) (i:=m) (by omega) rfl;have O:=q.iH (A:=A) e (by omega) E U;cbv;refine⟨mF,?_⟩;cbv;refine⟨mX,?_⟩;cbv;rw[S,G,D];refine o tk (by rw[List.length_take];omega) (λt g1 f V Q=>?_);have K:=O.mono (f.t _);clear O tk;cbv;refine o K (by rw[List.length_drop];omega) (λh2 g2 l2 X W=>?_);clear o;cbv;intro n3 I R C;have l3:Le h2 I:=by rw[C];exact Le.set R
  have q3:=aR (s:=yA) (cs:=hl g2) ((congrFun C n3).trans ae) (Fo (h:=I) X W);clear C;cbv;refine bQS q3 V Q (λh4 g l4 d P=>?_);have:=a h4 g (((f.trans l2).trans l3).trans l4) d P;cbv;exact this
end Go.S
