import Derived.Test.YthnbpiejemlbeaaGreatBG
set_option linter.all false
set_option maxRecDepth 100000
set_option maxHeartbeats 4000000
namespace Go.S
open Go.Sx Go.Proofs
theorem fJK{a:Nat}(b:a<2^56):aT .shl .u64 (a:Int) 8=((a*256:Nat):Int):=by
 show IntKind.u64.wrap ((a:Int)*2^8)=_;have h:(a:Int)*2^8=((a*256:Nat):Int):=by push_cast;rfl
 rw[h,su (by omega)]
theorem iXS{a x:Nat}(c:a<2^56)(hx:x<256):aT .or .u64 ((a*256:Nat):Int) (x:Int)=((a*256+x:Nat):Int):=by
 show IntKind.u64.wrap (((BitVec.ofInt 64 ((a*256:Nat):Int)|||BitVec.ofInt 64 (x:Int)).toNat:Nat):Int)=_;have h:(BitVec.ofInt 64 ((a*256:Nat):Int)|||BitVec.ofInt 64 (x:Int)).toNat=a*256+x:=by
  rw[BitVec.toNat_or,BitVec.toNat_ofInt,BitVec.toNat_ofInt];have e1:((((a*256:Nat):Int) % ((2^64:Nat):Int)).toNat)=a*256:=by rw[<-Int.natCast_emod,HH,Nat.mod_eq_of_lt (by omega)]
  have e:(((x:Int) % ((2^64:Nat):Int)).toNat)=x:=by rw[<-Int.natCast_emod,HH,Nat.mod_eq_of_lt (by omega)]
  rw[e1,e];have:=Nat.two_pow_add_eq_or_of_lt (i:=8) (b:=x) (by omega) a;rw[Nat.mul_comm]at this;exact this.symm
 rw[h,su (by omega)]
theorem Xv{l:Bs}{j:Nat}{x:UInt8}(h:l[j]? =some x):nf (l.drop j)=nf (l.drop (j+1))*256+x.toNat:=by have a:=ff.1 h;rw[Rs a.1,a.2];simp only[nf];omega
theorem Db{h:ad}{p:Nat}{s:St}(q:kP h p s){k:Value->ad->Prop}(d:∀h' x,x=IntKind.i64.wrap ((aO 8 s).1:Int)->Kp [p] h h'->kP h' p (aO 8 s).2->k (.int .i64 x) h'):
 Ct 202 [.zP p] h k:=by
 have S:aO 8 s=(nf (eP 8 s).1,(eP 8 s).2):=rfl;have Y:=sy 8 s;rw[S]at d;refine cg eZf Tryz.func202 λA a=>?_;cbv;refine IX q (n:=8) ⟨rfl⟩ (λf b m c U W s1=>?_);generalize eP 8 s=R at *;obtain⟨l,s2⟩:=R;have s1:Sl 5 cj f (.slice b m c) l:=s1;have Y:l.length<=8:=Y;have rX:=s1.len;obtain⟨i,F⟩:∃z,z=A .aT .sub .i64 (A .nat m) 1:=⟨_,rfl⟩;have Z:i=(m:Int)-1:=by rw[F,a.aT,a.nat];show IntKind.i64.wrap ((m:Int)-1)=_;rw[IntWalk.i64_in _ (by omega)]
 obtain⟨J,D⟩:∃J:Nat->Int×Int->ad->Prop,∀w g h',J w g h'=(∃j:Nat,g.1=(j:Int)-1/\w=j/\j<=m/\g.2=(nf (l.drop j):Int)/\h'=f):=⟨_,λ_ _ _=>rfl⟩;have L:J m (i,0) f:=by rw[D];exact⟨m,Z,rfl,kB _,by rw[jKz (by omega)];rfl,rfl⟩
 cbv;rw[<-F];refine aX.go (G:=Int×Int) (λg=>[(5,.v (.int .i64 g.1)),(3,.v (.int .u64 g.2))]) (λ_=>[]) (λw g h'=>J w g h') m (i,0) (by constructor<;>cbv) L ?_
 intro w g t I;rw[D]at I;cbv;obtain⟨z,u⟩:=g;obtain⟨j,C,hw,hj,e,rfl⟩:=I;have C:z=(j:Int)-1:=C;have e:u=(nf (l.drop j):Int):=e;have o:A .aN .geq z 0=decide (0<j):=by rw[cH A];exact decide_eq_decide.2 (by omega)
 rw[o];by_cases v:0<j
 .rw[ak v];obtain⟨x,hx⟩:=cB l (j-1);have K:aZ z (j-1):=⟨by omega⟩;have ix:=K.ix (len:=m) (by omega);have V:b.isSome=true:=s1.bp;have hd:=Xv hx;have P:j-1+1=j:=by omega
  rw[P]at hd;have aU:=Fi (l.drop j);have T:(256:Nat)^(l.drop j).length<=256^7:=Nat.pow_le_pow_right (by omega) (by rw[iz];omega);have h7:(256:Nat)^7=2^56:=by decide
  obtain⟨y,B⟩:∃y:Int,y=(x.toNat:Int):=⟨_,rfl⟩;have M:=x.toNat_lt;have E:A .aT .or .u64 (A .aT .shl .u64 u 8) (A .conv .u64 y)=(nf (l.drop (j-1)):Int):=by
   have X:A .conv .u64 y=(x.toNat:Int):=by rw[a.conv,B];exact su (by omega)
   rw[X,a.aT,e,fJK (by omega),iXS (by omega) M,hd]
  have N:A .aT .sub .i64 z 1=((j-1:Nat):Int)-1:=by rw[a.aT];show IntKind.i64.wrap (z-1)=_;rw[IntWalk.i64_in _ (by omega)];omega
  have O:J (j-1) (A .aT .sub .i64 z 1,A .aT .or .u64 (A .aT .shl .u64 u 8) (A .conv .u64 y)) t:=by rw[D];exact⟨j-1,N,rfl,by omega,E,rfl⟩
  have Q:j-1<w:=by omega
  clear D L o d E N hd;cbv;refine⟨by decide,?_⟩;cbv;refine⟨⟨V,ix⟩,?_⟩;cbv;refine s1.load hx K.eq (λcs r=>?_);have r:cs=[.int .u8 y]:=by rw[B];exact r
  subst r;cbv;refine⟨_,(A .aT .sub .i64 z 1,A .aT .or .u64 (A .aT .shl .u64 u 8) (A .conv .u64 y)),Q,by constructor<;>cbv,O⟩
 rw[bn v];have H:j=0:=by omega
 subst H;have:=d t (A .conv .i64 u) (by rw[a.conv,e];rfl) U W;clear D L d;cbv;exact this
end Go.S
namespace Go.Sx
variable {cs:List Value}{bytes e n size:Nat}{b:Option Addr}{k:Value->ad->Prop}{h:ad}
theorem bt.gKB{A:Type}{s:Sh A}{h0:ad}{len cap:Nat}{xs ys:List A}(q:bt e s h0 h (.slice b len cap) xs)(v:n=ys.length)(r:jv cs=true)(d:cs.length=n*s.n)(t:∀h',Rows s h' cs 0 ys)(C:e∉s.tys)(E:size=s.n)(W:bytes<=128)(D:len+n<=2^39)
  (l:Le h0 h) (p:∀m a c' h',m=len+n->Le h0 h'->(∀tys,e∉tys->cO tys h h')->bt e s h0 h' (.slice a m c') (xs++ys)->k (.slice a m c') h'):
 uv h b len cap n size bytes e cs k:=by
 subst E;have x:=q.sl.len;have g:cap<len+n->uv h b len cap n s.n bytes e cs k:=λw=>by
  refine sQ q.sl w rfl W D r d (ys:=ys) (by omega) (λh' hl=>t h') (λz c h' e1 u H o=>?_)
  exact p _ _ _ h' rfl (l.trans u) (λtys _=>u.t tys) (o.buf (l.none e1) (by rw[cy];omega))
 by_cases J:len+n<=cap
 .refine⟨r,λ_=>?_,λw=>by omega⟩;by_cases y:n=0
  .have B:cs=[]:=kh (by rw[d,y];simp);have N:ys=[]:=kh (by omega);refine .inl ⟨B,p _ _ _ h rfl l (λ_ _=>cO.refl _ _) ?_⟩;rw[N,vv,y];exact q
  rcases q.out with⟨a,f,j⟩|⟨z,I,f,j,o⟩
  .cases f;omega
  cases f;refine .inr ⟨⟨z,xs.length*s.n,none⟩,by simp[cI],?_⟩;refine o.write (ys:=ys) C (i:=xs.length) (by omega) (by omega) (by omega) (by rw[d,v]) (t h) (λh' F G o'=>?_);rw[Bk,RR (by omega),vv]at o';exact p _ _ _ h' rfl (l.aV (by simpa using j) F) G (o'.buf j (by rw[cy,v]))
 exact g (by omega)
theorem Uv{len cap n':Nat}{cs':List Value}(a:n'=n)(c:cs'=cs)(q:uv h b len cap n' size bytes e cs' k):uv h b len cap n size bytes e cs k:=by subst a c;exact q
end Go.Sx
namespace Go.S
open Go.Sx Go.Proofs
variable {D:Dk}{id o z:Int}{L:List cV}{c m m' n p s:Nat}{b:Option Addr}{r:Row}{k:Value->ad->Prop}{h h0:ad}
theorem KZ(l:Bs)(h:ad):Sx.Rows cj h (aQ l) 0 l:=by refine⟨by simp[cj,aQ],λi y a=>?_⟩;show((aQ l).drop (0+i*1)).take 1=[.int .u8 (y.toNat:Int)];rw[tT,jKp];unfold aQ;rw[<-kQD,<-kQE];have b:i<l.length:=(ff.1 a).1;rw[Rs b];have:=(ff.1 a).2;simp[this]
theorem MG(s:ByteArray):(kJ s).length=s.size:=jKo
abbrev WK(h0 h:ad)(n:Nat)(l:Bs)(k:Value->ad->Prop):Prop:=
 ∀h' b' c',Le h0 h'->(∀tys,5∉tys->cO tys h h')->bt 5 cj h0 h' (.slice b' n c') l->k (.slice b' n c') h'
theorem lu{l:Bs}(q:bt 5 cj h0 h (.slice b m c) l)(p:Le h0 h)(D:m<=2^38)(z:Int)(G:m'=m+1)(n:WK h0 h m' (l++[u8 z]) k):
 Ct 191 [.slice b m c,.int .i64 z] h k:=by
 obtain⟨A,C⟩:=Ar.ex;have u:=kQ (A:=A) (h:=h) z;refine fz eZq A Tryz.func191 ?_;cbv;intro w i g e1;have a:Le h i:=by rw[e1];exact Le.set g
 have x:=bf (s:=cj) ((congrFun e1 w).trans ae) u;clear e1;cbv;refine(q.mono (a.t _)).app x (by decide) rfl (by decide) (by omega) (p.trans a) (λv d f j N r B o y=>?_);have e:v=m':=by omega
 subst e;have:=n j d f r (λtys t=>(a.t _).trans (B _ t)) y;clear o;cbv;exact this
theorem sX{l:Bs}(q:bt 5 cj h0 h (.slice b m c) l)(l0:Le h0 h)(hm:m<=2^38)(n:Int)(S:m'=m+8)(L:WK h0 h m' (l++cF n) k):
 Ct 188 [.slice b m c,.int .i64 n] h k:=by
 have o:=q.sl.len;obtain⟨J,D⟩:∃J:Nat->(Int×Option Addr×Nat×Nat)->ad->Prop,∀w g h',J w g h'=(∃i,aZ g.1 i/\i<=8/\w=8-i/\Le h0 h'/\(∀tys,5∉tys->cO tys h h')/\bt 5 cj h0 h' (.slice g.2.1 g.2.2.1 g.2.2.2) (l++(cF n).take i)):=⟨_,λ_ _ _=>rfl⟩;have x:J 8 (0,b,m,c) h:=by rw[D];exact⟨0,⟨rfl⟩,by omega,rfl,l0,λ_ _=>cO.refl _ _,by simpa using q⟩
 refine cg eZt Tryz.func188 λA v=>?_;cbv;refine aX.go (G:=Int×Option Addr×Nat×Nat) (λg=>[(5,.v (.int .i64 g.1)),(0,.v (.slice g.2.1 g.2.2.1 g.2.2.2))]) (λ_=>[]) (λw g h'=>J w g h') 8 (0,b,m,c) (by constructor<;>cbv) x ?_
 intro w g j I;rw[D]at I;cbv;obtain⟨z,E,u,F⟩:=g;obtain⟨i,a,Z,hw,M,O,f⟩:=I;have a:aZ z i:=a;have f:bt 5 cj h0 j (.slice E u F) (l++(cF n).take i):=f;have N:=f.sl.len;rw[cy,eA,bY,<-o]at N;have C:A .aN .lss z 8=decide (i<8):=by rw[aR A,a.eq];exact decide_eq_decide.2 (by omega)
 rw[C];by_cases U:i<8
 .obtain⟨p,K⟩:∃p,p=A .aT .mul .u64 8 (A .conv .u64 z):=⟨_,rfl⟩;have H:p=((8*i:Nat):Int):=by rw[K,v.conv,v.aT,a.eq];show IntKind.u64.wrap (8*IntKind.u64.wrap (i:Int))=_;rw[pk,pk];omega
  have V:A .aT .mul .i64 8 z=p:=by rw[H,v.aT,a.eq];show IntKind.i64.wrap (8*(i:Int))=_;rw[IntWalk.i64_in _ (by omega)];omega
  have R:0<=p:=by omega
  have hR:=KP (A:=A) (h:=j) n a U;rw[V]at hR;have T:(cF n).take (i+1)=(cF n).take i++[iC n i]:=tP (iC n) U;have X:∀h' m' d c',Le h0 h'->(∀tys,5∉tys->cO tys j h')->bt 5 cj h0 h' (.slice d m' c') (l++(cF n).take i++[iC n i])->J (8-(i+1)) (A .aT .add .i64 z 1,d,m',c') h':=λh' m' d c' l' t' q'=>by
   rw[D];exact⟨i+1,a.succ (A:=A),U,rfl,l',λtys t=>(O _ t).trans (t' _ t),by rw[T,<-ym];exact q'⟩
  have Q:8-(i+1)<w:=by omega
  have oF:u+1<=2^39:=by omega
  rw[ak U];clear D T x C V N;generalize iC n i=y at *;generalize l++(cF n).take i=cur at *;cbv;rw[<-K];refine⟨R,?_⟩;cbv;intro n3 W P r;have B:Le j W:=by rw[r];exact Le.set P
  have q3:=bf (s:=cj) ((congrFun r n3).trans ae) hR;clear r;cbv;refine(f.mono (B.t _)).app q3 (by decide) rfl (by decide) oF (M.trans B) (λm' d c' Y S l4 t4 k4 q4=>?_);have iD:=X Y m' d c' l4 (λtys t=>(B.t _).trans (t4 _ t)) q4;clear X k4;cbv;refine⟨8-(i+1),(_,d,m',c'),Q,by constructor<;>cbv,iD⟩
 rw[bn U];have hi:i=8:=by omega
 rw[ie (by rw[bY];omega)]at f;have e:u=m':=by omega
 subst e;have:=L j E F M O f;clear D x L;cbv;exact this
theorem uk{l:Bs}(q:bt 5 cj h0 h (.slice b m c) l)(P:Le h0 h)(hm:m<=2^37)(s:ByteArray)(d:∀m',m'=m+(dS s).length->WK h0 h m' (l++dS s) k):
 Ct 216 [.slice b m c,.string s] h k:=by
 obtain⟨A,g⟩:=Ar.ex;obtain⟨j,N⟩:∃j,j=min s.size 65535:=⟨_,rfl⟩;have e:A .aN .gtr (A .lC s) 65535=decide (65535<s.size):=by rw[bC A,g.lC];exact decide_eq_decide.2 (by show(s.size:Int)>65535↔_;omega)
 obtain⟨C,f⟩:∃C:ByteArray->ad->Prop,∀t h',C t h'=(h'=h/\kJ t=fW s/\t.size=j):=⟨_,λ_ _=>rfl⟩;refine fU A [3] (aj eXS.aw eXS.bq) Tryz.func216 rfl (by kernel_rfl) ?_;cbv;refine ld.go (G:=ByteArray) (λt=>[(1,.v (.string t))]) (λ_=>[]) C ?_ ?_
 .cbv;rw[e];by_cases w:65535<s.size
  .rw[ak w];have H:(0:Int)<=65535/\(65535:Int)<=(s.size:Int):=by omega
   have a:C (A .sub s 0 65535) h:=by
    rw[f];have u:A .sub s 0 65535=s.extract 0 65535:=by rw[g.sub];rfl
    refine⟨rfl,?_,?_⟩
    .rw[u];unfold fW kJ;simp only[kXk,kXm,List.extract,jKW,kQi]
    rw[u,ByteArray.size_extract];omega
   clear f e d;cbv;refine⟨H,?_⟩;cbv;refine⟨_,by constructor<;>cbv,a⟩
  rw[bn w];have a:C s h:=by rw[f];refine⟨rfl,?_,by omega⟩;unfold fW;rw[ie (by rw[MG];omega)]
  clear f e d;cbv;refine⟨_,by constructor<;>cbv,a⟩
 intro t i a;rw[f]at a;cbv;obtain⟨rfl,D,o⟩:=a;have y:=kQ (A:=A) (h:=i) (j:Int);have R:=kQ (A:=A) (h:=i) ((j / 256:Nat):Int);have oC:A .lC t=(j:Int):=by rw[g.lC];show(t.size:Int)=_;rw[o]
 have K:A .aT .shr .i64 (j:Int) 8=((j / 256:Nat):Int):=by rw[g.aT];show((j:Int)).fdiv (2^8)=_;rw[jKN _ (by decide)];omega
 have J:dS s=[u8 (j:Int),u8 ((j / 256:Nat):Int)]++kJ t:=by rw[D];unfold dS gM;rw[<-N]
 rw[J]at d;have M:t.size=(kJ t).length:=(MG t).symm;clear f e J D;refine⟨by decide,?_⟩;cbv;rw[oC,K];intro B v I e1;have p:Le i v:=by rw[e1];exact Le.set I
 have U:Sl 5 cj v (.slice (zsA B) 2 2) [u8 (j:Int),u8 ((j / 256:Nat):Int)]:=oN (s:=cj) rfl ((congrFun e1 B).trans ae) y R;clear e1;cbv;refine(q.mono (p.t _)).app U (by decide) rfl (by decide) (by omega) (P.trans p) (λm2 b2 c2 h3 zN Q Y O V=>?_);clear O;generalize X:[u8 (j:Int),u8 ((j / 256:Nat):Int)]=uu at *;cbv;refine Uv (n':=t.size) (cs':=aQ (kJ t)) (by rcases t with⟨⟨_| ⟨x,r⟩⟩⟩<;>rfl) (by rcases t with⟨⟨_| ⟨x,r⟩⟩⟩<;>rfl) ?_;refine V.gKB (s:=cj) (ys:=kJ t) (cs:=aQ (kJ t)) M (iN _) (by rw[M];simp[aQ,cj]) (λh'=>KZ _ _) (by simp[cj]) (size:=1) (bytes:=1) rfl (by decide) (by omega) Q (λT E F L Nq S Z W=>?_);have n:uu.length=2:=by rw[<-X];rfl
 have:=d T (by rw[cy,n];omega) L E F S (λtys z=>((p.t _).trans (Y _ z)).trans (Z _ z)) (by rw[<-ym];exact W);clear d;cbv;exact this
theorem IC(q:Sl 45 bA h (.slice b n c) r)(hn:n<=2^16)
 (hk:∀h' u n' c',Le h h'->bt 5 cj h h' (.slice u n' c') (gn r)->(gn r).length<=2^34->k (.slice u n' c') h'):Ct 286 [.slice b n c] h k:=by
 obtain⟨A,hA⟩:=Ar.ex;have H:=q.len;have Q:A .nat n=(r.length:Int):=by rw[hA.nat,H];rfl
 obtain⟨d,lr⟩:∃d:Bs,d=[u8 (r.length:Int)]:=⟨_,rfl⟩;have ab:d.length=1:=by rw[lr];rfl
 have hS:gn r=d++(r.map js).flatten:=by rw[lr];unfold gn;rw[List.flatMap_def];rfl
 rw[hS]at hk;clear hS;have FG:([]++[u8 (A .nat n)]:Bs)=d:=by rw[Q,lr];rfl
 obtain⟨J,y⟩:∃J:Nat->((Option Addr×Nat×Nat)×Int)->ad->Prop,∀w g h',J w g h'=(∃i:Nat,aZ g.2 i/\w=n-i/\i<=n/\Le h h'/\bt 5 cj h h' (.slice g.1.1 g.1.2.1 g.1.2.2) (d++((r.take i).map js).flatten)/\(d++((r.take i).map js).flatten).length<=2^17*(i+1)):=⟨_,λ_ _ _=>rfl⟩;refine fz eQJ A Tryz.func286 ?_;cbv;refine lu (h0:=h) (l:=[]) bt.nil (Le.refl _) (by omega) _ (m':=1) rfl (λh1 b1 c1 k1 t1 q1=>?_);rw[FG]at q1;have Z:J n ((b1,1,c1),0) h1:=by rw[y];refine⟨0,⟨rfl⟩,rfl,by omega,k1,by simpa using q1,by simp;omega⟩
 clear FG q1 Q t1;cbv;refine aX.go (G:=(Option Addr×Nat×Nat)×Int) (λg=>[(3,.v (.slice g.1.1 g.1.2.1 g.1.2.2)),(4,.v (.int .i64 g.2))]) (λ_=>[]) (λw g h'=>J w g h') n ((b1,1,c1),0) (by constructor<;>cbv) Z ?_
 intro w g h2 hI;rw[y]at hI;cbv;obtain⟨⟨gb,S,gc⟩,z⟩:=g;obtain⟨i,f,hw,hi,k2,v,hL⟩:=hI;have f:aZ z i:=f;have v:bt 5 cj h h2 (.slice gb S gc) (d++((r.take i).map js).flatten):=v;have nq:=v.sl.len;have f1:A .aN .lss z (A .nat n)=decide (i<n):=by rw[aR A,f.eq,hA.nat];exact decide_eq_decide.2 (by show(i:Int)<(n:Int)↔_;omega)
 rw[f1];by_cases hc:i<n
 .rw[ak hc];obtain⟨x,hx⟩:=cB r i;have Y:=Kx x;have ix:=f.ix hc;have I:b.isSome=true:=q.bp;have U:n-(i+1)<w:=by omega
  have X:∀u m' c' h',Le h h'->bt 5 cj h h' (.slice u m' c') ((d++((r.take i).map js).flatten)++js x)->J (n-(i+1)) ((u,m',c'),A .aT .add .i64 z 1) h':=λu m' c' h' l' q'=>by
   rw[y];have ha:(d++((r.take i).map js).flatten)++js x=d++((r.take (i+1)).map js).flatten:=by rw[qM,hx];simp
   refine⟨i+1,f.succ (A:=A),rfl,by omega,l',?_,?_⟩
   .rw[<-ha];exact q'
   rw[<-ha,cy];omega
  have xU:(d++((r.take i).map js).flatten).length<=2^34:=by omega
  have B:A .aN .eql x.k 1=decide (x.k=1):=au A ..;have C:A .aN .eql x.k 2=decide (x.k=2):=au A ..;have E:A .aN .eql x.k 3=decide (x.k=3):=au A ..;have V:js x=u8 x.k::(if x.k=1 then [u8 x.n]else if x.k=2 then cF x.n else if x.k=3 then dS x.s else []):=rfl;have sq:=q.mono (k2.t _);clear f1 hL y Z Y;generalize d++((r.take i).map js).flatten=L at *;generalize js x=vw at *;cbv;refine⟨⟨I,ix⟩,?_⟩;cbv;refine sq.cu hx f.eq (o:=0) (m:=1) (by decide) (λcs a=>?_);have a:cs=[.int .i64 x.k,.int .i64 x.n,.string x.s]:=a;subst a;cbv;refine lu v k2 (by omega) x.k (m':=S+1) rfl (λh3 b3 c3 T t3 N=>?_);have K:=sq.mono (t3 _ (by decide));obtain⟨s,Nq⟩:∃s,s=S+1:=⟨_,rfl⟩;rw[<-Nq]at N |-;clear sq;cbv;refine⟨⟨I,ix⟩,?_⟩;cbv;refine K.cu hx f.eq (o:=0) (m:=1) (by decide) (λcs a=>?_);have a:cs=[.int .i64 x.k,.int .i64 x.n,.string x.s]:=a;subst a;cbv;rw[B];by_cases O:x.k=1
  .rw[if_pos O]at V;rw[ak O];clear B C E;cbv;refine⟨⟨I,ix⟩,?_⟩;cbv;refine K.cu hx f.eq (o:=1) (m:=1) (by decide) (λcs a=>?_);have a:cs=[.int .i64 x.k,.int .i64 x.n,.string x.s]:=a;subst a;cbv;refine lu N T (by omega) x.n (m':=s+1) rfl (λF j p M t4 t=>?_);obtain⟨e,W⟩:∃e,e=s+1:=⟨_,rfl⟩;rw[<-W]at t |-;have D:=X j e p F M (by rw[V];simpa using t);clear X;cbv;refine⟨_,((j,e,p),A .aT .add .i64 z 1),U,by constructor<;>cbv,D⟩
  rw[if_neg O]at V;rw[bn O];cbv;rw[C];by_cases P:x.k=2
  .rw[if_pos P]at V;rw[ak P];clear B C E;cbv;refine⟨⟨I,ix⟩,?_⟩;cbv;refine K.cu hx f.eq (o:=1) (m:=1) (by decide) (λcs a=>?_);have a:cs=[.int .i64 x.k,.int .i64 x.n,.string x.s]:=a;subst a;cbv;refine sX N T (by omega) x.n (m':=s+8) rfl (λF j p M t4 t=>?_);obtain⟨e,W⟩:∃e,e=s+8:=⟨_,rfl⟩;rw[<-W]at t |-;have D:=X j e p F M (by rw[V];simpa using t);clear X;cbv;refine⟨_,((j,e,p),A .aT .add .i64 z 1),U,by constructor<;>cbv,D⟩
  rw[if_neg P]at V;rw[bn P];cbv;rw[E];by_cases R:x.k=3
  .rw[if_pos R]at V;rw[ak R];clear B C E;cbv;refine⟨⟨I,ix⟩,?_⟩;cbv;refine K.cu hx f.eq (o:=2) (m:=1) (by decide) (λcs a=>?_);have a:cs=[.int .i64 x.k,.int .i64 x.n,.string x.s]:=a;subst a;cbv;refine uk N T (by omega) x.s (λe _ F j p M t4 t=>?_);have D:=X j e p F M (by rw[V];simpa using t);clear X;cbv;refine⟨_,((j,e,p),A .aT .add .i64 z 1),U,by constructor<;>cbv,D⟩
  rw[if_neg R]at V;rw[bn R];have D:=X b3 s c3 h3 T (by rw[V];exact N);clear B C E X;cbv;refine⟨_,((b3,s,c3),A .aT .add .i64 z 1),U,by constructor<;>cbv,D⟩
 rw[bn hc];have hi:i=n:=by omega
 rw[ie (by omega)]at v hL;have:=hk h2 gb S gc k2 v (by omega);clear hk y Z;cbv;exact this
theorem ZY(D:aZ z s){t:ByteArray}(q:Sl 45 bA h (.slice b n c) r)(p:n<=2^16)
 (d:∀h' f n' c',Le h h'->Sl 5 cj h' (.slice f n' c') (Uh id s ⟨t,o,r⟩)->n'<=2^18->k (.slice f n' c') h'):
 Ct 301 [.int .i64 id,.int .i64 z,.agg #[.string t,.int .i64 o,.slice b n c]] h k:=by
 have g:Uh id s ⟨t,o,r⟩=cF id++cF z++[u8 o]++dS t++dS (strOf (gn r)):=by rw[D.eq];rfl
 have Z:=Zw id s ⟨t,o,r⟩;rw[g]at d Z;clear g;have zM:=fO t;refine cg eQu Tryz.func301 λA hA=>?_;cbv;refine sX (h0:=h) (l:=[]) bt.nil (Le.refl _) (by omega) id (m':=8) rfl (λB u x E t1 e=>?_);have e:bt 5 cj h B (.slice u 8 x) (cF id):=e;cbv;refine sX e E (by omega) z (m':=16) rfl (λh2 S W F t2 M=>?_);cbv;refine lu M F (by omega) o (m':=17) rfl (λh3 T X G t3 N=>?_);cbv;refine uk N G (by omega) t (λm4 Q h4 U Y i t4 O=>?_);cbv;refine IC (q.mono (i.t _)) p (λh5 V m5 c5 j P J=>?_);have a:=O.mono (j.t _);obtain⟨v,H⟩:∃v,v=strOf (gn r):=⟨_,rfl⟩;rw[<-H]at d Z;cbv;refine rh P.sl ?_;rw[<-H];cbv;refine uk a (i.trans j) (by omega) v (λL R C w y I t6 m=>?_);have K:=m.sl.len;have:=d C w L y I m.sl (by omega);cbv;exact this
theorem Rx(i:aZ z s){t:ByteArray}(q:Sl 45 bA h (.slice b n c) r)(d:n<=2^16)
 (a:∀h' g,Le h h'->hl g=aQ (cU id s ⟨t,o,r⟩)->k (.agg (hl g).toArray) h'):
 Ct 207 [.int .i64 id,.int .i64 z,.agg #[.string t,.int .i64 o,.slice b n c]] h k:=by
 have H:cU id s ⟨t,o,r⟩=AA (Uh id s ⟨t,o,r⟩):=rfl;rw[H]at a;clear H;refine cg eZb Tryz.func207 λA x=>?_;cbv;refine ZY i q d (λw p y u l m v=>?_);cbv;refine aQe m (by omega) (λe g j f=>?_);have:=a e g (l.trans j) f;cbv;exact this
theorem aQj(q:Sl 161 bz h (.slice b n c) L)(Z:∀x∈L,x.row.length<=2^16)(hn:n<=2^30)
 (K:∀h' d n' c',Le h h'->Sl 100 yj h' (.slice d n' c') (iM id L)->k (.slice d n' c') h'):Ct 302 [.agg #[.int .i64 id,.slice b n c]] h k:=by
 have M:=q.len;have QK:=Am id L;have O:∀ {i:Nat} {c:cV},L[i]? =some c->(iM id L)[i]? =some (cU id i c):=λh=>An h;generalize iM id L=H at *;obtain⟨J,D⟩:∃J:Nat->((Option Addr×Nat×Nat)×Int)->ad->Prop,∀w g h',J w g h'=(∃i,aZ g.2 i/\w=n-i/\i<=n/\Le h h'/\bt 100 yj h h' (.slice g.1.1 g.1.2.1 g.1.2.2) (H.take i)):=⟨_,λ_ _ _=>rfl⟩;have l:J n ((none,0,0),0) h:=by rw[D];exact⟨0,⟨rfl⟩,rfl,by omega,Le.refl _,bt.nil⟩
 refine cg eQt Tryz.func302 λA Y=>?_;cbv;refine aX.go (G:=(Option Addr×Nat×Nat)×Int) (λg=>[(3,.v (.slice g.1.1 g.1.2.1 g.1.2.2)),(4,.v (.int .i64 g.2))]) (λ_=>[(1,[.int .i64 id,.slice b n c])]) (λw g h'=>J w g h') n ((none,0,0),0) (by constructor<;>cbv) l ?_
 intro w g p F;rw[D]at F;cbv;obtain⟨⟨B,o,C⟩,z⟩:=g;obtain⟨i,a,hw,hi,t,e⟩:=F;have a:aZ z i:=a;have e:bt 100 yj h p (.slice B o C) (H.take i):=e;have nq:=e.sl.len;rw[eA]at nq;have y:A .aN .lss z (A .nat n)=decide (i<n):=by rw[aR A,a.eq,Y.nat];exact decide_eq_decide.2 (by show(i:Int)<(n:Int)↔_;omega)
 rw[y];by_cases f:i<n
 .rw[ak f];obtain⟨x,hx⟩:=cB L i;have I:=Z x (cK hx);have ix:=a.ix f;have iV:b.isSome=true:=q.bp;have U:n-(i+1)<w:=by omega
  have T:=lY (O hx);have X:∀d m' c' h',Le h h'->bt 100 yj h h' (.slice d m' c') (H.take i++[cU id i x])->J (n-(i+1)) ((d,m',c'),A .aT .add .i64 z 1) h':=λd m' c' h' l' q'=>by
   rw[D];exact⟨i+1,a.succ (A:=A),rfl,f,l',by rw[T];exact q'⟩
  have oF:o+1<=2^39:=by omega
  have lH:(cU id i x).length=32:=fL _;clear y D l T O;generalize H.take i=Lc at *;obtain⟨tb,op,r⟩:=x;cbv;refine⟨⟨iV,ix⟩,?_⟩;cbv;refine(q.mono (t.t _)).load hx a.eq (λcs S=>?_);obtain⟨rb,rn,rc,rfl,j⟩:=S;have j:Sl 45 bA p (.slice rb rn rc) r:=j;have AH:=j.len;have I:r.length<=2^16:=I;cbv;refine Rx a j (by omega) (λV g N hg=>?_);generalize cU id i ⟨tb,op,r⟩=RH at *;cbv;intro n4 E R m;have P:Le V E:=by rw[m];exact Le.set R
  have q4:=bf (s:=yj) (cs:=hl g) ((congrFun m n4).trans ae) (EJ (h:=E) hg lH);clear m;cbv;refine(e.mono ((N.trans P).t _)).append q4 (by decide) rfl (by decide) oF ((t.trans N).trans P) (λQ u v W JJ l5 t5 k5 q5=>?_);have iD:=X u Q v W l5 q5;clear X k5;cbv;refine⟨_,((u,Q,v),A .aT .add .i64 z 1),U,by constructor<;>cbv,iD⟩
 rw[bn f];rw[ie (by omega)]at e;have:=K p B o C t e.sl;clear D l O K;cbv;exact this
theorem Na(q:Sl 161 bz h (.slice b n c) L)(B:∀x∈L,x.row.length<=2^16)(f:n<=2^30)
 (a:∀h' g,Le h h'->hl g=aQ (eL id L)->(eL id L).length=32->k (.agg (hl g).toArray) h'):Ct 208 [.agg #[.int .i64 id,.slice b n c]] h k:=by
 have C:eL id L=gP (iM id L):=rfl;rw[C]at a;clear C;refine cg eZa Tryz.func208 λA s=>?_;cbv;refine aQj q B f (λr m t p l j=>?_);generalize iM id L=H at *;cbv;refine aQb _ j (kB _) (λd g i e o=>?_);have:=a d g (l.trans i) e o;cbv;exact this
theorem PD{m:Int}{g:Nat->Int}{x:Bs}(t:hl g=aQ x)(hx:x.length=32)
 (u:∀h' b n' c',Le h h'->Sl 5 cj h' (.slice b n' c') (cF id++cF m++x)->n'<=100->k (.slice b n' c') h'):
 Ct 352 [.int .i64 id,.int .i64 m,.agg (hl g).toArray] h k:=by
 refine cg dKD Tryz.func352 λA I=>?_;cbv;intro n a j e1;have y:Le h a:=by rw[e1];exact Le.set j
 have o:a n=zcL 100 (hl g):=(congrFun e1 n).trans ae;clear e1;cbv;refine sX (h0:=a) (l:=[]) bt.nil (Le.refl _) (by omega) id (m':=8) rfl (λr d f v J q=>?_);have q:bt 5 cj a r (.slice d 8 f) (cF id):=q;cbv;refine sX q v (by omega) m (m':=16) rfl (λH F G c K C=>?_);have p:=c _ _ o;cbv;refine C.app (jR p t hx) (by decide) rfl (by decide) (by decide) c (λB e i s E z L w D=>?_);have:=u s e B i (y.trans z) D.sl (by omega);clear w;cbv;exact this
theorem UD(q:Sl 161 bz h (.slice b n c) L)(B:∀x∈L,x.row.length<=2^16)(j:n<=2^30)
 (a:∀h' g,Le h h'->hl g=aQ (jN id L)->k (.agg (hl g).toArray) h'):Ct 293 [.agg #[.int .i64 id,.slice b n c]] h k:=by
 obtain⟨A,f⟩:=Ar.ex;have l:=q.len;have E:jN id L=AA (cF id++cF (A .nat n)++eL id L):=by rw[f.nat,l];rfl
 rw[E]at a;clear E;refine fz eQC A Tryz.func293 ?_;cbv;refine Na q B j (λv g m i U=>?_);generalize eL id L=R at *;cbv;refine PD i U (λw s y t o r u=>?_);cbv;refine aQe r (by omega) (λe d p F=>?_);have:=a e d ((m.trans o).trans p) F;cbv;exact this
theorem PG{n G:Int}{b c:Nat->Int}{p r:Bs}(F:hl b=aQ p)(H:hl c=aQ r)(C:p.length=32)(M:r.length=32)
 (f:∀h' d n' c',Le h h'->Sl 5 cj h' (.slice d n' c') (ZC ⟨n,p,r,G⟩)->n'<=200->k (.slice d n' c') h'):Ct 86 [.agg (zT n b c G).toArray] h k:=by
 have W:ZC ⟨n,p,r,G⟩=cF n++p++r++cF G:=rfl;rw[W]at f;clear W;refine cg hJA Tryz.func86 λA hA=>?_;cbv;intro s a y e1;have L:Le h a:=by rw[e1];exact Le.set y
 have g:a s=zcL 113 (zT n b c G):=(congrFun e1 s).trans ae;clear e1;cbv;rw[av A];refine cr g ?_;cbv;refine sX (h0:=a) (l:=[]) bt.nil (Le.refl _) (by omega) n (m':=8) rfl (λD t v i t2 q=>?_);have q:bt 5 cj a D (.slice t 8 v) (cF n):=q;have z:=i _ _ g;cbv;rw[av A];refine q.app (xg (o:=1) (x:=p) z (by rw[mW,<-F];rfl) C) (by decide) rfl (by decide) (by decide) i (λm3 T V Y S j t3 I O=>?_);have e:=j _ _ g;clear I;cbv;rw[av A];try rw[av A]
 refine cr e ?_;cbv;refine O.app (xg (o:=33) (x:=r) e (by rw[mW,<-H];rfl) M) (by decide) rfl (by decide) (by omega) j (λN U X Z R m t4 J P=>?_);have B:=m _ _ g;clear J;cbv
 (try rw[av A])
 refine cr B ?_;cbv;refine⟨⟨_,rfl,rfl⟩,?_⟩;cbv;refine sX P m (by omega) G (m':=N+8) rfl (λE u w K t5 Q=>?_);have:=f E u _ w (L.trans K) Q.sl (by omega);cbv;exact this
theorem Nb{n:Int}{a b:Nat->Int}{p r:Bs}(f:hl a=aQ p)(i:hl b=aQ r)(C:p.length=32)(m:r.length=32)
 (c:∀h' g,Le h h'->hl g=aQ (ef ⟨n,p,r,o⟩)->k (.agg (hl g).toArray) h'):Ct 30 [.agg (zT n a b o).toArray] h k:=by
 have H:ef ⟨n,p,r,o⟩=Sw (ZC ⟨n,p,r,o⟩):=rfl;rw[H]at c;clear H;refine cg hKt Tryz.func30 λA w=>?_;cbv;refine PG f i C m (λv s x t l q u=>?_);cbv;refine MX q (by omega) (λd g j e=>?_);have:=c d g (l.trans j) e;cbv;exact this
abbrev NR:List Nat:=[231,210,326]
structure nv(h0 h:ad)(p:Nat)(D:Dk):Prop where
 out:∃kb kc nb nc wb wn wc,h p=zcL 231 [.slice (zsA nb) D.now.length nc,.slice (zsA kb) D.now.length kc,.slice wb wn wc,.int .i64 D.left,.bool D.dead]/\
  cZ 210 pq h kb kc D.kept/\cZ 210 pq h nb nc D.now/\D.kept.length=D.now.length/\kb≠nb/\bt 326 Sy h0 h (.slice wb wn wc) D.ws/\D.now.length<=4096/\0<D.now.length/\h0 p=none/\h0 kb=none/\h0 nb=none/\Le h0 h
theorem nv.lt{h':ad}(q:nv h0 h p D)(l:cO NR h h')(c:Le h0 h'):nv h0 h' p D:=by obtain⟨k,kc,n,d,f,j,i,g,o1,o2,e1,e,w,a,b,z,m,o,-⟩:=q.out;exact⟨k,kc,n,d,f,j,i,l _ _ _ _ (by decide) g,o1.mono (l.sub),o2.mono (l.sub),e1,e,w.mono (l.sub),a,b,z,m,o,c⟩
theorem nv.le{h':ad}(q:nv h0 h p D)(l:Le h h'):nv h0 h' p D:=by obtain⟨k,kc,n,d,f,j,i,g,o1,o2,e1,e,w,a,b,z,m,o,c⟩:=q.out;exact⟨k,kc,n,d,f,j,i,l _ _ g,o1.mono (l.t _),o2.mono (l.t _),e1,e,w.mono (l.t _),a,b,z,m,o,c.trans l⟩
theorem nv.base(q:nv h0 h p D):Le h0 h:=by obtain⟨k,kc,n,c,d,i,f,g,o1,o2,e1,e,w,a,b,z,j,m,l⟩:=q.out;exact l
theorem eJL(r:aZ z n)(b:2<=n)(y:n<=4096)
 (w:∀h' p,h p=none->Le h h'->nv h h' p (JN n)->k (.tuple #[.zP p,.int .i64 0]) h'):
 Ct 33 [.int .i64 z] h k:=by
 obtain⟨A,v⟩:=Ar.ex;have s:A .aN .lss z 2=false:=by rw[aR A,r.eq];exact bn (by omega)
 have t:A .aN .gtr z 4096=false:=by rw[bC A,r.eq];exact bn (by omega)
 have B:z=A .nat n:=by rw[v.nat];exact r.eq
 have fin:∀(b:ad) (f g:Nat) (a:ad) (p:Nat),Le h b->h f=none->h g=none->cZ 210 pq b f n (List.replicate n Gw)->cZ 210 pq b g n (List.replicate n Gw)->f≠g->b p=none->a=bL b p (.cells #[.slice (zsA g) n n,.slice (zsA f) n n,.slice none 0 0,.int .i64 0,.bool false] 231 (0,0))->
  k (.tuple #[.zP p,.int .i64 0]) a:=λb f g a p l C zn o1 o2 S d c=>by
  have o:Le b a:=by rw[c];exact Le.set d
  have O:=l.none d;refine w a p O (l.trans o) ⟨f,n,g,n,none,0,0,?_,?_,?_,?_,S,bt.nil,?_,?_,O,C,zn,l.trans o⟩
  .rw[c,ae];simp only[JN,yl]
  .simp only[JN];exact o1.mono (o.t _)
  .simp only[JN];exact o2.mono (o.t _)
  .simp only[JN]
  .simp only[JN,yl];exact y
  simp only[JN,yl];omega
 refine fz hKq A Tryz.func33 ?_;cbv;rw[s];cbv;rw[t];cbv;rw[B];refine⟨?_,?_⟩
 .refine jy (x:=Gw) CM (by omega) (by decide) (λj u q i o1=>?_);cbv;refine jy (x:=Gw) CM (by omega) (by decide) (λm b U l o2=>?_);have S:m≠j:=λe=>by rw[e]at U;exact o1.has U
  have fin:=λa p=>fin b m j a p (i.trans l) (i.none U) q o2 (o1.mono (l.t _)) S;cbv;intro p a d c;cbv;exact fin a p d c
 refine jy (x:=Gw) CM (by omega) (by decide) (λj u q i o1=>?_);cbv;refine jy (x:=Gw) CM (by omega) (by decide) (λm b U l o2=>?_);have S:j≠m:=λe=>by rw[<-e]at U;exact o1.has U
 have fin:=λa p=>fin b j m a p (i.trans l) q (i.none U) (o1.mono (l.t _)) o2 S;cbv;intro p a d c;cbv;exact fin a p d c
theorem nv.vh(q:nv h0 h p D){G:Prop}
 (l:∀k kc n c b d a,h p=zcL 231 [.slice (zsA n) D.now.length c,.slice (zsA k) D.now.length kc,.slice b d a,.int .i64 D.left,.bool D.dead]->
  (∀left dead h',h'=bL h p (.cells #[.slice (zsA n) D.now.length c,.slice (zsA k) D.now.length kc,.slice b d a,.int .i64 left,.bool dead] 231 (0,0))->nv h0 h' p { D with left:=left,dead:=dead }/\dX NR h h')->G):G:=by
 obtain⟨k,kc,n,c,b,d,a,g,o1,o2,e1,f,w,i,j,z,r,s,o⟩:=q.out;refine l k kc n c b d a g (λleft dead h' e=>⟨?_,by rw[e];exact gN g (by decide)⟩);have lt:∀tys,231∉tys->cO tys h h':=λtys m=>by rw[e];exact cO.set g m
 exact⟨k,kc,n,c,b,d,a,(congrFun e p).trans ae,o1.mono (lt _ (by decide)),o2.mono (lt _ (by decide)),e1,f,w.mono (lt _ (by decide)),i,j,z,r,s,o.aV (bs:=[p]) (by simpa using z) (by rw[e];exact Kp.set (by simp))⟩
theorem dQf(q:nv h0 h p D)(hd:D.dead=false)(hl:0<=D.left/\D.left<2^63)(c:∀h',dX NR h h'->nv h0 h' p (eM D).2->k (.bool (eM D).1) h'):Ct 294 [.zP p] h k:=by
 obtain⟨A,F⟩:=Ar.ex;refine q.vh (λj kc n o w t s g up=>?_);have P:eM D=if D.left>0 then if IntKind.i64.wrap (D.left+ -1)=0 then(true,{ D with left:=0,dead:=true })else(false,{ D with left:=IntKind.i64.wrap (D.left+ -1) })else(false,D):=rfl
 have B:A .aN .gtr D.left 0=decide (D.left>0):=bC A ..;generalize Z:D.left=l at *;generalize D.now.length=nl at *;obtain⟨m,y⟩:∃m,m=A .aT .sub .i64 l 1:=⟨_,rfl⟩;refine fz eQB A Tryz.func294 ?_;cbv;rw[av A];refine cr g ?_;cbv;rw[B];by_cases i:l>0
 .rw[if_pos i]at P;have K:m=l-1:=by rw[y,F.aT];show IntKind.i64.wrap (l-1)=_;rw[IntWalk.i64_in _ (by omega)]
  have T:IntKind.i64.wrap (l+ -1)=m:=by rw[K,IntWalk.i64_in _ (by omega)];omega
  rw[T]at P;have C:A .aN .eql m 0=decide (m=0):=au A ..;rw[ak i];cbv;rw[av A];refine cr g ?_;cbv;rw[av A,<-y];refine ju g (by show 4<=5;decide) (λx e1=>?_);have v:x p=zcL 231 [.slice (zsA n) nl o,.slice (zsA j) nl kc,.slice w t s,.int .i64 m,.bool D.dead]:=(congrFun e1 p).trans ae;have Q:∀a b,a=bL x p (.cells #[.slice (zsA n) nl o,.slice (zsA j) nl kc,.slice w t s,.int .i64 m,.bool b] 231 (0,0))->nv h0 a p { D with left:=m,dead:=b }/\dX NR h a:=λa b f=>by
   refine up m b a ?_;rw[f,e1,ek]
  cbv;rw[av A];refine cr v ?_;cbv;rw[av A,C];refine ju v (by show 5<=5;decide) (λa f=>?_);obtain⟨r,z⟩:=Q a (decide (m=0)) f;have E:a p=zcL 231 [.slice (zsA n) nl o,.slice (zsA j) nl kc,.slice w t s,.int .i64 m,.bool (decide (m=0))]:=(congrFun f p).trans ae;have fin:k (.bool (decide (m=0))) a:=by
   by_cases d:m=0
   .rw[if_pos d]at P;rw[P]at c;rw[ak d]at r |-;rw[d]at r;exact c a z r
   rw[if_neg d]at P;rw[P]at c;rw[bn d]at r |-;have e:({ D with left:=m,dead:=false }:Dk)={ D with left:=m }:=by rw[<-hd]
   rw[e]at r;exact c a z r
  clear e1 f Q up c P;generalize decide (m=0)=u at *;cbv;rw[av A];refine cr E ?_;cbv;exact fin
 rw[if_neg i]at P;rw[P]at c;have:=c h (dX.refl _ _) q;rw[bn i];clear c up;cbv;rw[av A];refine cr g ?_;cbv;show k (.bool D.dead) h;rw[hd];exact this
theorem Py(q:nv h0 h p D)(n:Int)
 (f:fj D n 0≠0->k (.tuple #[.slice none 0 0,.int .i64 (fj D n 0)]) h)
 (G:fj D n 0=0->∀h' b c l,l=dp D n->l.length=64->Le h h'->bt 5 cj h h' (.slice b 64 c) l->k (.tuple #[.slice b 64 c,.int .i64 0]) h'):
 Ct 173 [.zP p,.int .i64 n] h k:=by
 obtain⟨A,v⟩:=Ar.ex;obtain⟨kb,kc,s,Y,wb,wn,wc,g,o1,o2,e1,e2,w,e4,t,z1,z2,z3,l0⟩:=q.out;have C:fj D n 0=if D.dead then 15 else if n<0\/n>=D.now.length\/(0:Int)>64 then 1 else 0:=rfl
 have J:A .aN .lss n 0=decide (n<0):=aR A ..;have M:A .aN .geq n (A .nat D.now.length)=decide (n>=D.now.length):=by rw[cH A,v.nat];rfl
 have e:dp D n=(D.now[n.toNat]?).getD []:=rfl;have oC:=o2.sl (n:=D.now.length) rfl;generalize O:D.left=lf at *;generalize pX:D.dead=E at *;generalize rW:D.now=N at *;generalize Yf:N.length=nl at *;refine fz eZE A Tryz.func173 ?_;cbv;rw[av A];refine cr g ?_;cbv;cases E with
 |true=>have C:fj D n 0=15:=C;rw[C]at f;have:=f (by decide);clear f G;cbv;exact this
 |false=>
  have C:fj D n 0=if n<0\/n>=nl\/(0:Int)>64 then 1 else 0:=C
  cbv;rw[J];by_cases m:n<0
  .rw[if_pos (.inl m)]at C;rw[C]at f;have:=f (by decide);rw[ak m];clear f G;cbv;exact this
  rw[bn m];cbv;rw[av A];refine cr g ?_;cbv;rw[M];by_cases d:n>=nl
  .rw[if_pos (.inr (.inl d))]at C;rw[C]at f;have:=f (by decide);rw[ak d];clear f G;cbv;exact this
  rw[if_neg (λT=>by rcases T with h|h|h;exact m h;exact d h;exact absurd h (by decide))]at C;have G:=G C;have d:¬n>=(nl:Int):=d;rw[bn d];have K:aZ n n.toNat:=⟨by omega⟩;obtain⟨x,hx⟩:=cB N n.toNat;rw[hx]at e;have e:dp D n=x:=e;rw[e]at G;have ix:=K.ix (len:=nl) (by omega);obtain⟨c,P,Q,u⟩:=o2.out;have hR:=Q.at hx;have a:x.length=64:=hR.2;have Z:Sl 210 cj h (.slice (some ⟨s,n.toNat*64,none⟩) 64 64) x:=by
   refine⟨_,64,by rw[a],by omega,by omega,.inr ⟨s,n.toNat*64,_,_,rfl,P,?_,λi y B=>?_⟩⟩
   .have:n.toNat<N.length:=(ff.1 hx).1;have V:=o2.le;have u:c.length=Y*64:=u;show n.toNat*64+x.length*1<=(List.toArray c).toList.length;simp only[List.toArray,a];omega
   have U:i<64:=by have:=(ff.1 B).1;omega
   have o:=congrArg (λl=>l[i]?) hR.1;have X:pq.n=64:=rfl;rw[X]at o;simp only[qH,rB,aQ,kS,B]at o;rw[if_pos U]at o;show((c.drop (n.toNat*64+i*1)).take 1)=[.int .u8 (y.toNat:Int)];apply yr;intro j;rw[qH,rB];by_cases z:j<1
   .have:j=0:=by omega
    subst this;rw[if_pos z,jKp,kQt,o];rfl
   rw[if_neg z,yo (by simp;omega)]
  have I:A .je (zsA s) n 64=⟨s,n.toNat*64,none⟩:=by rw[v.je];simp[je,cI]
  clear f o1 w;cbv;intro n5 R L t;have r:Le h R:=by rw[t];exact Le.set L
  clear t;cbv;rw[av A];refine cr (r _ _ g) ?_;cbv;refine⟨⟨rfl,ix⟩,?_⟩;cbv;rw[I];refine oI (Z.mono (r.t _)) rfl (by decide) (λF=>by cases F) (λGx cap S H mP W o6=>?_);have:=G S _ _ x rfl a (r.trans W) (o6.buf (r.none H) a.symm);clear G;cbv;exact this
end Go.S
