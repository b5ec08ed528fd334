import Derived.Test.YthnbpiejemlbeaaGreatBD
import Derived.Test.YthnbpiejemlbeaaGreatNA
import Derived.Test.YthnbpiejemlbeaaGreatI2b
set_option linter.all false
set_option maxRecDepth 100000
set_option maxHeartbeats 8000000
namespace Go.S
open Go.Sx Go.Proofs
variable {d:DB}{D:Dk}{g:Lg}{r:List Bs}{P n:Nat}{p:Option Addr}{e:TypeId}{k:Value->ad->Prop}{h:ad}
def hQh(z:List Value)(hz:jv z=true):Sh Unit where
 n:=z.length
 R _ cs _:=cs=z
 len:=by rintro h cs x rfl;rfl
 one:=by rintro h cs x rfl;exact hz
 tys:=[]
 mono:=λ_ q=>q
theorem bQp(e:∀h' b c,Le h h'->k (.slice b 0 c) h'):
 Ct 238 [.slice none 0 0,.func (.func 239) #[] #[]] h k:=by
 refine cg aKK Tryz.func238 λA d=>?_;have f:A .aN .lss 0 (A .nat 0)=false:=by rw[aR A,d.nat];rfl
 cbv;refine jy (s:=hQh [.int .i64 0,.slice none 0 0] rfl) (x:=()) (λ_=>rfl) (by omega) (by decide) (λn a C l o1=>?_);have:=e a (zsA n) 0 l;cbv;refine aX.go (G:=Unit) (λ_=>[(13,.v (.int .i64 0))]) (λ_=>[]) (λw _ h'=>h'=a) 0 () (by constructor<;>cbv) rfl ?_
 intro w g i I;subst I;cbv;rw[f];cbv;exact this
theorem bQi(d:∀h' b c,Le h h'->k (.slice b 0 c) h'):
 Ct 117 [.slice none 0 0] h k:=by
 refine cg aKX Tryz.func117 λA e=>?_;cbv;refine bQp (λa b c l=>?_);have:=d a b c l;cbv;exact this
theorem bQr(e:∀h' b c,Le h h'->k (.slice b 0 c) h'):
 Ct 119 [.slice none 0 0,.func (.func 117) #[] #[]] h k:=by
 refine cg aKV Tryz.func119 λA d=>?_;have f:A .aN .lss 0 (A .nat 0)=false:=by rw[aR A,d.nat];rfl
 cbv;refine jy (s:=hQh [.slice none 0 0] rfl) (x:=()) (λ_=>rfl) (by omega) (by decide) (λn a C l o1=>?_);have:=e a (zsA n) 0 l;cbv;refine aX.go (G:=Unit) (λ_=>[(13,.v (.int .i64 0))]) (λ_=>[]) (λw _ h'=>h'=a) 0 () (by constructor<;>cbv) rfl ?_
 intro w g i I;subst I;cbv;rw[f];cbv;exact this
theorem aQt(b:k (.slice none 0 0) h):
 Ct 118 [.slice none 0 0] h k:=by
 refine cg aKW Tryz.func118 λA a=>?_;have f:A .Cc none=true:=by rw[a.Cc];rfl
 cbv;rw[f];cbv;exact b
theorem bQk(l:∀h' b e a f,Le h h'->k (.agg #[.int .i64 0,.slice b 0 e,.slice none 0 0,.slice a 0 f]) h'):Ct 48 [.agg #[.int .i64 0,.slice none 0 0,.slice none 0 0,.slice none 0 0]] h k:=by refine cg fXd Tryz.func48 λA p=>?_;cbv;refine bQi (λo c g m=>?_);cbv;refine aQt ?_;cbv;refine bQr (λj d i n=>?_);have:=l j c g d i (m.trans n);cbv;exact this
theorem gKL{s p:Nat}{G:Lg}(q:Da h s p G d L0)(o:∀h' b c a e,Le h h'->k (.agg #[.int .i64 0,.slice b 0 c,.slice none 0 0,.slice a 0 e]) h'):Ct 15 [.zP s] h k:=by obtain⟨g,x,t,J,I,u⟩:=q.out;obtain⟨b,C,c,a,D,e,v,E,y,w,F,z,f,H⟩:=u.out;refine cg fXg Tryz.func15 λA B=>?_;cbv;rw[av A];refine yJ (cm t.out rfl) f rfl ?_;cbv;rw[av A];refine cr f ?_;cbv;refine bQk (λn i l j m r=>?_);have:=o n i l j m r;cbv;exact this
structure Good(D:Dk)(P:Nat):Prop where
 dead:D.dead=false
 left:¬D.left>0
 len:D.now.length=P
 pg:∀b∈D.now,b.length=64
theorem Qa(g:Good D P):eM D=(false,D):=by unfold eM;rw[if_neg g.left]
theorem IP(g:Good D P):∃a,dw D=(0,a)/\Good a P/\a.ws=[]/\a.now=D.now:=by unfold dw;rw[Qa g,g.dead];exact⟨_,rfl,⟨g.dead,g.left,g.len,g.pg⟩,rfl,rfl⟩
theorem Kr(g:Good D P){l:Bs}(f:n<P)(hl:l.length<=64):∃a,bJ D (n:Int) l=(0,a)/\Good a P/\a.now=D.now.set n (eI l):=by
 have e:fj D (n:Int) l.length=0:=by unfold fj;rw[g.dead,if_neg (by simp),if_neg (by have:=g.len;omega)]
 unfold bJ;rw[e,if_neg (by simp),HH];have c:Good { D with now:=D.now.set n (eI l),ws:=D.ws++[((n:Int),eI l)] } P:=
  ⟨g.dead,g.left,by show(D.now.set n _).length=P;rw[nM];exact g.len,λb d=>by
   rcases jKs d with h|h
   .exact g.pg b h
   rw[h];exact sF hl⟩
 rw[Qa c];exact⟨_,rfl,c,rfl⟩
theorem SK{l:Bs}:(eI l).take l.length=l:=by unfold eI;rw[kQl (kB _),Bk]
theorem Hf:∀(n:Nat) (D:Dk) (pg:Nat) (b:Bs),b.length<=n->Good D P->pg*64+b.length<=P*64->
 ∃a,dI D pg b=(0,a)/\Good a P/\a.ws=[]/\a.now.take pg=D.now.take pg/\(a.now.drop pg).flatten.take b.length=b:=λn=>by
 induction n with
 |zero=>intro D pg b c g h;have c:b=[]:=kh (by omega);obtain⟨a,e,f,w,j⟩:=IP g;refine⟨a,?_,f,w,by rw[j],by rw[c];rfl⟩;rw[dI,dif_pos c,e]
 |succ n x=>
  intro D pg b c g h;by_cases S:b=[]
  .obtain⟨a,e,f,w,j⟩:=IP g;refine⟨a,?_,f,w,by rw[j],by rw[S];rfl⟩;rw[dI,dif_pos S,e]
  have A:=jKF.2 S;obtain⟨o,e1,q,m⟩:=Kr g (n:=pg) (l:=b.take 64) (by omega) (by rw[eA];omega);obtain⟨a,p,r,y,t,k⟩:=x o (pg+1) (b.drop 64) (by rw[iz];omega) q (by rw[iz];omega);have K:pg<D.now.length:=by rw[g.len];omega
  have O:a.now[pg]? =some (eI (b.take 64)):=by have:=congrArg (λz=>z[pg]?) t;simp only[qH]at this;rw[if_pos (by omega),if_pos (by omega),m,jKx K]at this;exact this
  refine⟨a,?_,r,y,?_,?_⟩
  .rw[dI,dif_neg S,e1];exact p
  .have s:a.now.take pg=(a.now.take (pg+1)).take pg:=by rw[jKK,jKf (by omega)]
   rw[s,t,jKK,jKf (by omega),m,List.take_set_of_le (kB _)]
  have hd:a.now.drop pg=eI (b.take 64)::a.now.drop (pg+1):=by obtain⟨U,u⟩:=ff.1 O;rw[Rs U,u]
  have d:(eI (b.take 64)).length=64:=sF (by rw[eA];omega);rw[hd,jKR,List.take_append,d];by_cases i:b.length<=64
  .have h0:b.length-64=0:=by omega
   rw[h0,List.take_zero,vv,ie (l:=b) i];exact SK
  have J:(b.take 64).length=64:=by rw[eA];omega
  have v:eI (b.take 64)=b.take 64:=by unfold eI;rw[J];simp
  rw[iz]at k;rw[k,v,ie (by omega),jKu]
theorem gX{q:Nat}:∀ {xs:List Bs},(∀b∈xs,b.length=64)->q<=xs.length->(xs.take q).flatten.length=64*q:=λ{xs} hx a=>by
 rw[sS (λb h=>hx b (jKk h)),eA,jKf a];try omega
theorem ET(g:Good D P)(q:Nat)(a:1+q<=P):dE D=((D.now.take (1+q)).drop 1).flatten++(D.now.drop (1+q)).flatten/\((D.now.take (1+q)).drop 1).flatten.length=64*q:=by
 constructor
 .unfold dE;rw[<-List.flatten_append];congr 1;have:D.now.drop 1=(D.now.drop 1).take q++(D.now.drop 1).drop q:=(jKu _ _).symm;rw[jKS]at this;rw[this,List.drop_take];simp
 rw[List.drop_take,show 1+q-1=q by omega];exact gX (λb h=>g.pg b (jKd h)) (by rw[iz,g.len];omega)
theorem Xe(g:Good D P)(a:Nat)(b:Bs)(h:64+a+b.length<=P*64)(s:0<b.length):
 ∃c,cD D a b=(0,c)/\Good c P/\c.ws=[]/\c.now.take 1=D.now.take 1/\(dE c).take (a+b.length)=(dE D).take a++b:=by
 obtain⟨q,n⟩:∃q,q=a / 64:=⟨_,rfl⟩;obtain⟨r,o⟩:∃r,r=a % 64:=⟨_,rfl⟩;have p:a=64*q+r:=by omega
 have G:r<64:=by omega
 have J:1+q<P:=by omega
 have W:1+q<=P:=by omega
 obtain⟨pg,C⟩:∃pg,D.now[1+q]? =some pg:=by
  have:1+q<D.now.length:=by rw[g.len];exact J
  exact⟨_,zG this⟩
 have K:pg.length=64:=g.pg pg (cK C);have key:∃c,cD D a b=(0,c)/\Good c P/\c.ws=[]/\c.now.take (1+q)=D.now.take (1+q)/\(c.now.drop (1+q)).flatten.take (r+b.length)=pg.take r++b:=by
  unfold cD;rw[<-n,<-o];by_cases h0:r=0
  .rw[if_pos h0];obtain⟨c,e,d,w,t,f⟩:=Hf b.length D (1+q) b (kB _) g (by omega);exact⟨c,e,d,w,t,by rw[h0,tT,f];rfl⟩
  have k:fj D ((1+q:Nat):Int) 0=0:=by unfold fj;rw[g.dead,if_neg (by simp),if_neg (by have:=g.len;omega)]
  have y:dp D ((1+q:Nat):Int)=pg:=by unfold dp;rw[HH,C];rfl
  rw[if_neg h0,k,if_neg (by simp),y];have hl:(pg.take r++b).length=r+b.length:=by rw[cy,eA];omega
  obtain⟨c,e,d,w,t,f⟩:=Hf _ D (1+q) (pg.take r++b) (kB _) g (by omega);exact⟨c,e,d,w,t,by rw[hl]at f;exact f⟩
 obtain⟨c,e,d,w,t,f⟩:=key;refine⟨c,e,d,w,?_,?_⟩
 .have j:c.now.take 1=(c.now.take (1+q)).take 1:=by rw[jKK,jKf (by omega)]
  rw[j,t,jKK,jKf (by omega)]
 obtain⟨s1,s2⟩:=ET g q W;obtain⟨s3,u⟩:=ET d q W;rw[t]at s3;have hd:D.now.drop (1+q)=pg::D.now.drop (1+q+1):=by obtain⟨U,m⟩:=ff.1 C;rw[Rs U,m]
 rw[s1,s3,hd,jKR];generalize ((D.now.take (1+q)).drop 1).flatten=X at *;rw[List.take_append,List.take_append,s2,ie (l:=X) (i:=a+b.length) (by omega),ie (l:=X) (i:=a) (by omega),ym];congr 1;rw[show a+b.length-64*q=r+b.length by omega,show a-64*q=r by omega,f,kQl (by omega)]
def mj(rs:List Bs):Bs:=(rs.map λl=>cF (l.length:Int)++l).flatten
structure yf(g:Lg)(P:Nat)(rs:List Bs):Prop where
 iP:Good g.D P
 n:g.n=rs.length
 s:g.s=(mj rs).length
 body:(dE g.D).take g.s=mj rs
 hd:g.D.now[0]? =some (eI (rI g.s g.n))
 ws:g.D.ws=[]
theorem CD(I:yf g P r)(l:Bs)(hl:l.length<=65536)(v:64+g.s+8+l.length<=P*64):∃b,aY g l=(0,b)/\yf b P (r++[l])/\b.s=g.s+8+l.length:=by
 have e:=bY (l.length:Int);have u:(cF (l.length:Int)++l).length=8+l.length:=by rw[cy,e]
 obtain⟨a,e1,c,B,A,p⟩:=Xe I.iP g.s (cF (l.length:Int)++l) (by omega) (by omega);have O:(rI (g.s+8+l.length) (g.n+1)).length=16:=by unfold rI;rw[cy];rfl
 obtain⟨k,m,q,f⟩:=Kr c (n:=0) (l:=rI (g.s+8+l.length) (g.n+1)) (by omega) (by omega);obtain⟨D,o,s,w,j⟩:=IP q;have h:bJ a 0 (rI (g.s+8+l.length) (g.n+1))=(0,k):=m;have i:Uw g l=(0,D):=by unfold Uw;rw[e1,h,o]
 have t:dE D=dE a:=by
  unfold dE;rw[j,f];cases z:a.now with
  |nil=>rfl
  |cons x y=>rfl
 have d:0<a.now.length:=by rw[c.len];omega
 refine⟨⟨D,g.s+8+l.length,g.n+1⟩,?_,⟨s,?_,?_,?_,?_,w⟩,rfl⟩
 .unfold aY;rw[if_neg (by omega),if_neg (by have:=I.iP.len;omega),e1];rw[if_neg (by simp),h,if_neg (by simp),i];rfl
 .show g.n+1=_;rw[cy,I.n];rfl
 .show g.s+8+l.length=_;unfold mj;rw[jKH,List.flatten_append,cy,I.s];simp[mj,e];omega
 .show(dE D).take (g.s+8+l.length)=_;rw[t,show g.s+8+l.length=g.s+(cF (l.length:Int)++l).length by omega,p,I.body];unfold mj;simp
 show D.now[0]? =_;rw[j,f,jKx d]
theorem BE(n:Nat):(u8 (n:Int)).toNat=n % 256:=by
 unfold u8;have:((n:Int) % 256).toNat=n % 256:=by omega
 rw[this,kXz];omega
theorem Qw(h:n<2^63):nf (cF (n:Int))=n:=by
 have b:∀k,(iC (n:Int) k).toNat=n / 2^(8*k) % 256:=λk=>by
  unfold iC;have e:((n:Int) % 18446744073709551616 / (2^(8*k)))=((n / 2^(8*k):Nat):Int):=by
   have:(n:Int) % 18446744073709551616=(n:Int):=by omega
   rw[this];simp
  rw[e,BE]
 show nf [iC n 0,iC n 1,iC n 2,iC n 3,iC n 4,iC n 5,iC n 6,iC n 7]=n;simp only[nf,b];omega
theorem Li(h:n<2^63)(l:Bs):ep (cF (n:Int)++l)=n:=by unfold ep;rw[kQl (by rw[bY];omega),ie (by rw[bY];omega),Qw h,IntWalk.i64_in _ (by omega)]
theorem DT(h:n<2^63)(l:Bs):uZ (cF (n:Int)++l)=n:=Li h l
theorem Zj:∀(s:List Bs),(∀l∈s,l.length<2^63)->eG (mj s) s.length=(s,[]):=λs=>by
 induction s with
 |nil=>intro _;rfl
 |cons l r i=>
  intro h;have hl:=h l (by simp);have c:mj (l::r)=cF (l.length:Int)++(l++mj r):=by unfold mj;simp
  have a:=bY (l.length:Int);have f:ep (cF (l.length:Int)++(l++mj r))=l.length:=Li hl _;have e:(cF (l.length:Int)++(l++mj r)).length=8+(l.length+(mj r).length):=by rw[cy,cy,a]
  rw[c,wS];unfold eG;rw[f,e,if_pos (by omega),if_pos (by omega),HH];have d:(cF (l.length:Int)++(l++mj r)).drop 8=l++mj r:=by rw[<-a,jKX]
  have b:(cF (l.length:Int)++(l++mj r)).drop (8+l.length)=mj r:=by rw[<-jKS,d,jKX]
  rw[d,b,i (λx hx=>h x (by simp[hx])),kXS]
theorem ZA{l:Bs}{s:List Bs}(h:l∈s):l.length<=(mj s).length:=by
 induction s with
 |nil=>cases h
 |cons x r i=>
  have b:mj (x::r)=cF (x.length:Int)++(x++mj r):=by unfold mj;simp
  rw[b,cy,cy];rcases xl.1 h with e|e
  .rw[e];omega
  have:=i e;omega
theorem DL(I:yf g P r)(b:0<P)(s:g.s<2^60)(n:g.n<2^60):gA g.D=(⟨g.s,g.n,r,false⟩,0):=by
 have O:dp g.D 0=eI (rI g.s g.n):=by unfold dp;rw[show(0:Int).toNat=0 from rfl,I.hd];rfl
 have e1:uZ (eI (rI g.s g.n))=g.s:=by unfold eI rI;rw[ym,DT (by omega)]
 have e:uZ ((eI (rI g.s g.n)).drop 8)=g.n:=by unfold eI rI;have:(cF (g.s:Int)).length=8:=bY _;rw[ym,<-this,jKX,DT (by omega)]
 have a:g.s<=(dE g.D).length:=by have:=congrArg List.length I.body;rw[eA,<-I.s]at this;omega
 unfold gA;rw[I.iP.dead,if_neg (by simp),O,e1,e];unfold Ay;have h:=Zj r (λl hl=>by have:=ZA hl;rw[<-I.s]at this;omega);rw[if_neg (by omega),HH,HH,I.body,I.n,h];simp
structure TI(d:DB):Prop where
 gL:d.ao.Pairwise (λa b=>dA a.S.name b.S.name<0)
 le:d.ao.length<=8
 rows:∀t∈d.ao,t.rows=[]/\t.S.name.size<=12
 ai:d.ai=[]
 holds:d.holds=[]
 waits:d.waits=[]
theorem TI.small(q:TI d):Small d where
 ao:=by have:=q.le;omega
 ai:=by rw[q.ai];exact nr _
 rows:=λt ht=>by rw[(q.rows t ht).1];exact nr _
 holds:=by rw[q.holds];exact Nat.two_pow_pos _
 waits:=by rw[q.waits];exact Nat.two_pow_pos _
theorem iQS:TI dz:=⟨List.Pairwise.nil,by decide,λt h=>(by cases h),rfl,rfl,rfl⟩
theorem rM(h:d.ao.Pairwise (λa b=>dA a.S.name b.S.name<0))(s:tE):cf d s=dv d s:=by
 obtain⟨i,-,-,-⟩:=Ae h s.name;have j:=PX h s.name;unfold cf gq fN dv;rw[i,j];have f:((8:Int)<=(d.ao.length:Int))↔8<=d.ao.length:=by omega
 have g:((0:Int)<(d.ai.length:Int))↔0<d.ai.length:=by omega
 generalize d.ao.any (λt=>decide (t.S.name=s.name))=u;by_cases a:eE s=0
 .cases u with
  |true=>simp[a]
  |false=>
   by_cases c:8<=d.ao.length
   .simp[a,c,f]
   by_cases e:0<d.ai.length
   .simp only[a,c,f,g,e,ne_eq,not_true_eq_false,if_false,ge_iff_le,gt_iff_lt,decide_false,decide_true,jKw,if_true];rfl
   simp only[a,c,f,g,e,ne_eq,not_true_eq_false,if_false,ge_iff_le,gt_iff_lt,decide_false,decide_true,jKw,if_true]
 simp[a]
theorem dQX(hP:0<P):yf ⟨JN P,0,0⟩ P []where
 iP:=⟨rfl,Int.lt_irrefl 0,by show(List.replicate P Gw).length=P;rw[yl],λb hb=>by
  have:b∈List.replicate P Gw:=hb;rw[List.eq_of_mem_replicate this];rfl⟩
 n:=rfl
 s:=rfl
 body:=rfl
 hd:=by show(List.replicate P Gw)[0]? =_;rw[kXa,if_pos hP];exact congrArg some (show Gw=eI (rI 0 0)from by kernel_rfl)
 ws:=rfl
theorem eJQ{p:Nat}(q:nI h p g.D)(I:yf g P r)(c:0<P)(o:g.s<2^60)(n:g.n<2^60)(e:mK dz r=some d)
 (A:∀l∈r,(aO 1 (some l)).1=1\/(aO 1 (some l)).1=2) (S:∀k a,mK dz (r.take k)=some a->Small a) 
 (m:∀h' s,dX Qu h h'->Da h' s p g d L0->k (.tuple #[.zP s,.int .i64 0]) h'):
 Ct 19 [.zP p] h k:=by
 have hl:=DL I c o n;refine eJO q (by rw[I.iP.len];exact c) (by rw[hl];exact A) (by rw[hl];exact S) (λb=>?_) (λh' s j x v _ _ K i t f u=>?_)
 .rw[hl,e]at b;rcases b with b|b|b
  .exact absurd rfl b
  .cases b
  cases b
 rw[hl]at K f;rw[e]at K;cases K;exact m h' s i ⟨j,x,t,f,q.lt (i.t (by decide)),u⟩
theorem KV{P:Program}{t:TypeId}(h:P.underlying t=some (.pointer e))(p:Option Addr)(w:World):(Op.equal t (.pointer p) (.pointer none)).run P w=.ok p.isNone w:=by unfold Op.equal Op.maxDepth Op.equalIn;rw[nX,run_underlying h,mB];cases p<;>rfl
theorem aJV{P:Program}{t:TypeId}(h:P.underlying t=some (.pointer e)){x:Operand}{k:Value->Prop}(b:k (.bool p.isNone)):
 uj (λ_=>P) (λ_=>do
  eqGuard .eql t x (.const (.pointer none)) (.pointer p) (.pointer none)
  Go.binOp .eql t (.pointer p) (.pointer none)) k:=by
 refine⟨_,λw=>?_,b⟩;have g:(eqGuard .eql t x (.const (.pointer none)) (.pointer p) (.pointer none)).run P w=.ok () w:=by unfold eqGuard;split<;>rfl
 have a:Go.binOp .eql t (.pointer p) (.pointer none)=Functor.map Value.bool (Op.equal t (.pointer p) (.pointer none)):=rfl;rw[nX,g,mB,a];simp[KV h];try rfl
theorem aZq{P:Program}{t:TypeId}(h:P.underlying t=some (.pointer e)){x:Operand}{k:Value->Prop}(c:k (.bool (!p.isNone))):
 uj (λ_=>P) (λ_=>do
  eqGuard .neq t x (.const (.pointer none)) (.pointer p) (.pointer none)
  Go.binOp .neq t (.pointer p) (.pointer none)) k:=by
 refine⟨_,λw=>?_,c⟩;have g:(eqGuard .neq t x (.const (.pointer none)) (.pointer p) (.pointer none)).run P w=.ok () w:=by unfold eqGuard;split<;>rfl
 have a:Go.binOp .neq t (.pointer p) (.pointer none)=Functor.map (λb=>Value.bool (!b)) (Op.equal t (.pointer p) (.pointer none)):=rfl;rw[nX,g,mB,a];simp[KV h];try rfl
theorem VE:Tryz.prog.underlying 36=some (.pointer 94):=by kernel_rfl
theorem Sg:Tryz.prog.underlying 38=some (.pointer 158):=by kernel_rfl
theorem aZD(h:ad)(i:∀h',dX Qu h h'->k (.bool true) h'):Ct 9 [] h k:=by
 obtain⟨A,d⟩:=Ar.ex;have Y:A .aN .eql 0 0=true:=by rw[au A];rfl
 have Z:A .aN .eql (A .nat 0) 0=true:=by rw[au A,d.nat];rfl
 refine fz T9 A Tryz.func9 ?_;cbv;refine eJT (n:=9) ⟨rfl⟩ (by omega) (by omega) (λK p N j q=>?_);cbv;refine aJV VE ?_;cbv;refine eJQ (g:=⟨JN 9,0,0⟩) q (dQX (by omega)) (by omega) (by decide) (by decide) rfl (λl hl=>by cases hl) (λk J c=>?_) (λL s x w=>?_)
 .rw[List.take_nil]at c;cases c;exact iQS.small
 cbv;rw[Y];cbv;refine aZq Sg ?_;cbv;refine eJF w (λM u o D v O E y P F z Q G a r=>?_);have f:o=0:=by obtain⟨_,_,_,_,_,_,_,_,_,_,_,_,R,e,t,_⟩:=r.out;cases e;exact t.len
 subst f;cbv;rw[Z];cbv;refine gKL (w.lx a) (λb B H C I m=>?_);have:=i b (((j.x _).trans x).trans ((a.trans m).x _));cbv;rw[Z];cbv;exact this
theorem jX(a:Int)(n:Nat)(o:0<n)(U:n<=2^40)(h:ad)(l:∀z i,aZ z i->i=(a % (n:Int)).toNat->i<n->k (.int .i64 z) h):Ct 11 [.int .i64 a,.int .i64 (n:Int)] h k:=by
 obtain⟨A,c⟩:=Ar.ex;obtain⟨m,b⟩:∃m:Int,m=(n:Int):=⟨_,rfl⟩;rw[<-b];have D:m≠0:=by omega
 have I:A .aT .rem .i64 a m=a.tmod m:=by rw[c.aT];rfl
 have v:a.tmod m<m:=by have:=kQS a (show 0<m by omega);omega
 have Z:-m<a.tmod m:=by have:=kQR a (show 0<m by omega);omega
 have w:a % m=if a.tmod m<0 then a.tmod m+m else a.tmod m:=by
  rw[kQQ];have g:=jKh a D;have j:=jKG a (show 0<m by omega);by_cases d:0<=a\/m ∣ a
  .rw[if_pos d];rw[if_neg (by omega)];omega
  rw[if_neg d];have:(m.natAbs:Int)=m:=by omega
  rw[this,if_pos (by omega)];omega
 generalize q:a.tmod m=t at *;generalize e:A .aN .lss t 0=u;have f:=e;rw[aR A]at e;have key:∀z:Int,z=a % m->k (.int .i64 z) h:=λz s=>by
  have g:=jKh a D;have j:=jKG a (show 0<m by omega);refine l z (a % (n:Int)).toNat ⟨?_⟩ rfl ?_
  .rw[<-b];omega
  rw[<-b];omega
 have W:t<0->A .aT .add .i64 t m=t+m:=λh=>by
  rw[c.aT];simp only[aT];rw[IntWalk.i64_in _ (by omega)]
 refine fz hKF A Tryz.func11 ?_;cbv;refine⟨D,?_⟩;cbv;rw[I];rw[f];cases u with
 |true=>have p:=lA e;have r:=key (t+m) (by rw[w,if_pos p]);cbv;rw[W p];exact r
 |false=>have p:=kz e;have r:=key t (by rw[w,if_neg p]);cbv;exact r
theorem aKf{C j l m:Option Addr}{c e f o w p x r:Nat}(q:RP h C c e j f o l w p m x r d)(X:d.ao.Pairwise (λa b=>dA a.S.name b.S.name<0))(Z:d.ao.length<=8)(nm:ByteArray){D:DB×Int}(H:eD d nm=D)(I:RK h D.1 D.2 k):
 Ct 167 [.agg #[.slice C c e,.slice j f o,.slice l w p,.slice m x r],.string nm] h k:=by
 obtain⟨A,hA⟩:=Ar.ex;have V:A .aN .lss (-1) 0=true:=by rw[aR A];rfl
 have fh:=q.ao.len;have eU:=q.ai.len;have jQ:=q.ao.bound;have zM:=Z;have f1:A .aN .gtr (A .nat f) 0=decide ((d.ai.length:Int)>0):=by rw[bC A,hA.nat,eU];rfl
 refine fz aKN A Tryz.func167 ?_;cbv;refine(wz q).mono (λv E hR=>?_);obtain⟨G,g,rfl,O⟩:=hR;have B:=q.mono G;rcases tG X O with⟨rfl,hb,-⟩|⟨i,t,F,ht,rW,e1,e2⟩
 .have Q:D=(d,2):=by rw[<-H];unfold eD;rw[hb];rfl
  subst Q;have y:=I E C c e j f o l w p m x r G B;cbv;rw[V];cbv;exact y
 have iv:=(ff.1 ht).1;have Q:D=if decide ((d.ai.length:Int)>0)=true then(d,18)else(⟨d.ao.take i++d.ao.drop (i+1),d.ai,d.holds,d.waits⟩,0):=by rw[<-H];unfold eD;rw[e2,e1,jKM];rfl
 clear H O;have aU:A .aN .lss g 0=false:=F.yW (A:=A);have J:=F.succ (A:=A);have L:A .nt g 0=i:=dy (A:=A) F;have U:=cJ (A:=A) J (n:=c);obtain⟨OX,OW⟩:=jQ;have gu:0<=g/\g<=(e:Int):=by have:=F.eq;omega
 have ll:0<=A .aT .add .i64 g 1/\A .aT .add .i64 g 1<=(c:Int):=by have:=J.eq;omega
 have fC:i<=c:=by omega
 have Y:i+1<=c:=by omega
 cbv;rw[aU];cbv;rw[f1];generalize decide ((d.ai.length:Int)>0)=u at *;cases u with
 |true=>have Q:D=(d,18):=Q;subst Q;have y:=I E C c e j f o l w p m x r G B;cbv;exact y
 |false=>
  have Q:D=(⟨d.ao.take i++d.ao.drop (i+1),d.ai,d.holds,d.waits⟩,0):=Q;subst Q;cbv;intro n6 M g6 e6;have P:Le E M:=by rw[e6];exact Le.set g6
  have q6:=B.mono P;have fB:bt 132 bN E M (.slice (zsA n6) 0 0) ([]:List ca):=bt.nil;cbv;refine⟨gu,?_⟩;cbv;refine fB.append (q6.ao.sA (A:=A) (s:=bN) (z:=A .nat e) fC L L) (by decide) rfl (by decide) (by rw[L];omega) P (λm7 b7 c7 h7 Mr R t7 k7 N=>?_);rw[np]at N;have q7:=B.mono R;cbv;refine⟨ll,?_⟩;cbv;refine N.append (q7.ao.jD (A:=A) (s:=bN) J Y U (c':=e-(i+1)) rfl) (by decide) rfl (by decide) (by rw[U];omega) R (λm8 b8 c8 h8 W S t8 k8 T=>?_);have K:=B.mono S;have y:=I h8 b8 m8 c8 j f o l w p m x r (G.trans S) ⟨T.sl,K.ai,K.holds,K.waits⟩;cbv;exact y
set_option maxHeartbeats 1000000
structure Fz(h0 hA h:ad):Prop where
 le:Le hA h
 xN:∀b o,h0 b=some o->h b=some o/\hA b=none
theorem Fz.base{h0 A:ad}(q:Fz h0 A h):Le h0 h:=λb o a=>(q.xN b o a).1
end Go.S
