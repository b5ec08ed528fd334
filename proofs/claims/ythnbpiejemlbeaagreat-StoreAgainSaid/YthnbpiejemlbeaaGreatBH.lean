import Derived.Test.YthnbpiejemlbeaaGreatBG
set_option linter.all false
set_option maxRecDepth 100000
set_option maxHeartbeats 4000000
namespace Go.S
open Go.Sx Go.Proofs
theorem gQn{a:Nat}(b:a<2^56):aX .shl .u64 (a:Int) 8=((a*256:Nat):Int):=by
 show IntKind.u64.wrap ((a:Int)*2^8)=_;have h:(a:Int)*2^8=((a*256:Nat):Int):=by push_cast;rfl
 rw[h,sZ ip]
theorem iJA{a x:Nat}(c:a<2^56)(hx:x<256):aX .or .u64 ((a*256:Nat):Int) (x:Int)=((a*256+x:Nat):Int):=by
 show IntKind.u64.wrap (((BitVec.ofInt 64 ((a*256:Nat):Int)|||BitVec.ofInt 64 (x:Int)).toNat:Nat):Int)=_;have h:(BitVec.ofInt 64 ((a*256:Nat):Int)|||BitVec.ofInt 64 (x:Int)).toNat=a*256+x:=by
  rw[BitVec.toNat_or,BitVec.toNat_ofInt,BitVec.toNat_ofInt];have e1:((((a*256:Nat):Int) % ((2^64:Nat):Int)).toNat)=a*256:=by
   grind
  have e:(((x:Int) % ((2^64:Nat):Int)).toNat)=x:=by
   grind
  rw[e1,e];have:=Nat.two_pow_add_eq_or_of_lt (i:=8) (b:=x) ip a
  grind
 rw[h,sZ ip]
theorem YV{l:Bs}{j:Nat}{x:UInt8}(h:l[j]? =some x):nL (l.drop j)=nL (l.drop (j+1))*256+x.toNat:=by have a:=HH.1 h;rw[kQP a.1,a.2];simp only[nL];omega
theorem DQ{h:ad}{p:Nat}{s:St}(q:lC h p s){k:Value->ad->Prop}(d:∀h' x,x=IntKind.i64.wrap ((aR 8 s).1:Int)->Kp [p] h h'->lC h' p (aR 8 s).2->k (.zI x) h'):
 Ct 202 [.zP p] h k:=by
 have N:aR 8 s=(nL (fw 8 s).1,(fw 8 s).2):=rfl;have U:=th 8 s;rw[N]at d;refine cB eJB Tryz.func202 λA a=>?_;cbv;refine JP q (n:=8) ⟨rfl⟩ (λf b m c M V s1=>?_);generalize fw 8 s=R at *;obtain⟨l,s2⟩:=R;have s1:Sl 5 cD f (.slice b m c) l:=s1;have U:l.length<=8:=U;have sS:=s1.len;obtain⟨i,Y⟩:∃z,z=A .aX .sub .i64 (A .nat m) 1:=⟨_,rfl⟩;have W:i=(m:Int)-1:=by rw[Y,a.aX,a.nat];show IntKind.i64.wrap ((m:Int)-1)=_;rw[IntWalk.i64_in _ ip]
 obtain⟨J,H⟩:∃J:Nat->Int×Int->ad->Prop,∀w g h',J w g h'=(∃j:Nat,g.1=(j:Int)-1/\w=j/\j<=m/\g.2=(nL (l.drop j):Int)/\h'=f):=⟨_,λ_ _ _=>rfl⟩;have P:J m (i,0) f:=by rw[H];exact⟨m,W,rfl,qA _,by rw[kXc ip];rfl,rfl⟩
 cbv;rw[<-Y];refine ba.gz (G:=Int×Int) (λg=>[(5,.v (.zI g.1)),(3,.v (.int .u64 g.2))]) (λ_=>[]) (λw g h'=>J w g h') m (i,0) P ?_
 intro w g t I;rw[H]at I;cbv;obtain⟨z,u⟩:=g;obtain⟨j,C,hw,hj,e,rfl⟩:=I;have C:z=(j:Int)-1:=C;have e:u=(nL (l.drop j):Int):=e;have o:A .aQ .geq z 0=decide (0<j):=by rw[cF A];grind
 rw[o];by_cases v:0<j
 .rw[kS v];obtain⟨x,hx⟩:=cK l (j-1);have Q:bg z (j-1):=⟨ip⟩;have ix:=Q.ix (len:=m) ip;have K:b.isSome=true:=s1.bu;have hd:=YV hx;have F:j-1+1=j:=ip
  rw[F]at hd;have aZ:=FZ (l.drop j);have L:(256:Nat)^(l.drop j).length<=256^7:=Nat.pow_le_pow_right ip gg;have h7:(256:Nat)^7=2^56:=dl
  obtain⟨y,B⟩:∃y:Int,y=(x.toNat:Int):=⟨_,rfl⟩;have O:=x.toNat_lt;have S:A .aX .or .u64 (A .aX .shl .u64 u 8) (A .conv .u64 y)=(nL (l.drop (j-1)):Int):=by
   have Z:A .conv .u64 y=(x.toNat:Int):=by rw[a.conv,B];exact sZ ip
   rw[Z,a.aX,e,gQn ip,iJA ip O,hd]
  have T:A .aX .sub .i64 z 1=((j-1:Nat):Int)-1:=by rw[a.aX];show IntKind.i64.wrap (z-1)=_;rw[IntWalk.i64_in _ ip];omega
  have E:J (j-1) (A .aX .sub .i64 z 1,A .aX .or .u64 (A .aX .shl .u64 u 8) (A .conv .u64 y)) t:=gg
  have X:j-1<w:=ip
  clear H P o d S T hd;cbv;refine⟨dl,?_⟩;cbv;refine⟨⟨K,ix⟩,?_⟩;cbv;refine s1.load hx Q.eq (λcs r=>?_);have r:cs=[.int .u8 y]:=by rw[B];exact r
  subst r;cbv;refine zqn _ (A .aX .sub .i64 z 1,A .aX .or .u64 (A .aX .shl .u64 u 8) (A .conv .u64 y)) X E
 rw[kQW v];have D:j=0:=ip
 subst D;have:=d t (A .conv .i64 u) (by rw[a.conv,e];rfl) M V;clear H P d;cbv;exact this
end Go.S
namespace Go.Sx
variable {cs:List Value}{bytes e n size:Nat}{b:Option Addr}{k:Value->ad->Prop}{h:ad}
theorem bA.hXp{y:Type}{s:Sh y}{h0:ad}{len cap:Nat}{xs ys:List y}(q:bA e s h0 h (.slice b len cap) xs)(G:n=ys.length)(j:jL cs=true)(f:cs.length=n*s.n)(p:∀h',Rows s h' cs 0 ys)(A:e∉s.tys)(C:size=s.n)(F:bytes<=128)(B:len+n<=2^39)
  (l:Le h0 h) (d:∀m a c' h',m=len+n->Le h0 h'->(∀tys,e∉tys->cX tys h h')->bA e s h0 h' (.slice a m c') (xs++ys)->k (.slice a m c') h'):
 uW h b len cap n size bytes e cs k:=by
 subst C;have v:=q.sl.len;have w:cap<len+n->uW h b len cap n s.n bytes e cs k:=λu=>by
  refine tO q.sl u rfl F B j f (ys:=ys) ip (λh' hl=>p h') (λx c h' e1 r H o=>?_)
  exact d _ _ _ h' rfl (l.trans r) (λtys _=>r.t tys) (o.buf (l.none e1) gg)
 by_cases J:len+n<=cap
 .refine⟨j,λ_=>?_,λu=>ip⟩;by_cases N:n=0
  .have z:cs=[]:=kZh gg;have O:ys=[]:=kZh ip;refine .inl ⟨z,d _ _ _ h rfl l (λ_ _=>cX.refl _ _) ?_⟩
   grind
  rcases q.out with⟨a,t,g⟩|⟨x,I,t,g,o⟩
  .grind
  cases t;refine .inr ⟨⟨x,xs.length*s.n,none⟩,by simp[cQ],?_⟩;refine o.write (ys:=ys) A (i:=xs.length) ip ip ip (by rw[f,G]) (p h) (λh' D E o'=>?_);rw[kXo,wy ip,kJH]at o';exact d _ _ _ h' rfl (l.bf (iu g) D) E (o'.buf g (by rw[kXy,G]))
 grind
theorem VV{len cap n':Nat}{cs':List Value}(a:n'=n)(c:cs'=cs)(q:uW h b len cap n' size bytes e cs' k):uW h b len cap n size bytes e cs k:=by
 grind
end Go.Sx
namespace Go.S
open Go.Sx Go.Proofs
variable {D:Dk}{id o z:Int}{L:List cR}{c m m' n p s:Nat}{b:Option Addr}{r:Row}{k:Value->ad->Prop}{h h0:ad}
theorem Me(l:Bs)(h:ad):Sx.Rows cD h (aT l) 0 l:=by
 refine⟨by simp[cD,aT],λi y b=>?_⟩;show((aT l).drop (0+i*1)).take 1=[.int .u8 (y.toNat:Int)];rw[kJe,vi];unfold aT;rw[<-kZV,<-wL];have a:i<l.length:=(HH.1 b).1;rw[kQP a]
 grind
theorem NS(s:ByteArray):(jZ s).length=s.size:=kZU
abbrev WK(h0 h:ad)(n:Nat)(l:Bs)(k:Value->ad->Prop):Prop:=
 ∀h' b' c',Le h0 h'->(∀tys,5∉tys->cX tys h h')->bA 5 cD h0 h' (.slice b' n c') l->k (.slice b' n c') h'
theorem lS{l:Bs}(q:bA 5 cD h0 h (.slice b m c) l)(o:Le h0 h)(C:m<=2^38)(z:Int)(H:m'=m+1)(j:WK h0 h m' (l++[u8 z]) k):
 Ct 191 [.slice b m c,.zI z] h k:=by
 obtain⟨A,B⟩:=Ar.ex;have u:=lD (A:=A) (h:=h) z;refine kh eJM A Tryz.func191 ?_;cbv;intro v g G e1;have a:Le h g:=zqs e1 G
 have w:=bh (s:=cD) (zqt e1) u;clear e1;cbv;refine(q.mono (a.t _)).app w dl rfl dl ip (o.trans a) (λr d f i V p y n x=>?_);have e:r=m':=ip
 subst e;have:=j i d f p (λtys t=>(a.t _).trans (y _ t)) x;clear n;cbv;exact this
theorem tX{l:Bs}(q:bA 5 cD h0 h (.slice b m c) l)(l0:Le h0 h)(hm:m<=2^38)(n:Int)(R:m'=m+8)(M:WK h0 h m' (l++cP n) k):
 Ct 188 [.slice b m c,.zI n] h k:=by
 have o:=q.sl.len;obtain⟨J,H⟩:∃J:Nat->(Int×Option Addr×Nat×Nat)->ad->Prop,∀w g h',J w g h'=(∃i,bg g.1 i/\i<=8/\w=8-i/\Le h0 h'/\(∀tys,5∉tys->cX tys h h')/\bA 5 cD h0 h' (.slice g.2.1 g.2.2.1 g.2.2.2) (l++(cP n).take i)):=⟨_,λ_ _ _=>rfl⟩;have B:J 8 (0,b,m,c) h:=by rw[H];exact⟨0,⟨rfl⟩,ip,rfl,l0,λ_ _=>cX.refl _ _,iu q⟩
 refine cB eJP Tryz.func188 λA x=>?_;cbv;refine ba.gz (G:=Int×Option Addr×Nat×Nat) (λg=>[(5,.v (.zI g.1)),(0,.v (.slice g.2.1 g.2.2.1 g.2.2.2))]) (λ_=>[]) (λw g h'=>J w g h') 8 (0,b,m,c) B ?_
 intro w g j K;rw[H]at K;cbv;obtain⟨z,F,v,I⟩:=g;obtain⟨i,a,U,hw,O,P,f⟩:=K;have a:bg z i:=a;have f:bA 5 cD h0 j (.slice F v I) (l++(cP n).take i):=f;have Q:=f.sl.len;rw[kXy,kJI,ck,<-o]at Q;have E:A .aQ .lss z 8=decide (i<8):=by rw[aV A,a.eq];grind
 rw[E];by_cases Z:i<8
 .obtain⟨p,X⟩:∃p,p=A .aX .mul .u64 8 (A .conv .u64 z):=⟨_,rfl⟩;have r:p=((8*i:Nat):Int):=by rw[X,x.conv,x.aX,a.eq];show IntKind.u64.wrap (8*IntKind.u64.wrap (i:Int))=_;rw[pJ,pJ];omega
  have N:A .aX .mul .i64 8 z=p:=by rw[r,x.aX,a.eq];show IntKind.i64.wrap (8*(i:Int))=_;rw[IntWalk.i64_in _ ip];omega
  have T:0<=p:=ip
  have hR:=LU (A:=A) (h:=j) n a Z;rw[N]at hR;have V:(cP n).take (i+1)=(cP n).take i++[iJ n i]:=uC (iJ n) Z;have D:∀h' m' d c',Le h0 h'->(∀tys,5∉tys->cX tys j h')->bA 5 cD h0 h' (.slice d m' c') (l++(cP n).take i++[iJ n i])->J (8-(i+1)) (A .aX .add .i64 z 1,d,m',c') h':=λh' m' d c' l' t' q'=>by
   rw[H];exact⟨i+1,a.succ (A:=A),Z,rfl,l',λtys t=>(P _ t).trans (t' _ t),gg⟩
  have L:8-(i+1)<w:=ip
  have oU:v+1<=2^39:=ip
  rw[kS Z];clear H V B E N Q;generalize iJ n i=y at *;generalize l++(cP n).take i=cur at *;cbv;rw[<-X];refine⟨T,?_⟩;cbv;intro n3 W S u;have C:Le j W:=zqs u S
  have q3:=bh (s:=cD) (zqt u) hR;clear u;cbv;refine(f.mono (C.t _)).app q3 dl rfl dl oU (O.trans C) (λm' d c' Y R l4 t4 k4 q4=>?_);have iL:=D Y m' d c' l4 (λtys t=>(C.t _).trans (t4 _ t)) q4;clear D k4;cbv;refine zqn (8-(i+1)) (_,d,m',c') L iL
 rw[kQW Z];have hi:i=8:=ip
 rw[kXe (by rw[ck];omega)]at f;have e:v=m':=ip
 subst e;have:=M j F I O P f;clear H B M;cbv;exact this
theorem uT{l:Bs}(q:bA 5 cD h0 h (.slice b m c) l)(N:Le h0 h)(hm:m<=2^37)(s:ByteArray)(e:∀m',m'=m+(dZ s).length->WK h0 h m' (l++dZ s) k):
 Ct 216 [.slice b m c,.string s] h k:=by
 obtain⟨A,i⟩:=Ar.ex;obtain⟨j,I⟩:∃j,j=min s.size 65535:=⟨_,rfl⟩;have g:A .aQ .gtr (A .lW s) 65535=decide (65535<s.size):=by rw[bF A,i.lW];grind
 obtain⟨C,f⟩:∃C:ByteArray->ad->Prop,∀t h',C t h'=(h'=h/\jZ t=fX s/\t.size=j):=⟨_,λ_ _=>rfl⟩;refine fT A [3] (aj eJo.aw eJo.bz) Tryz.func216 rfl (by kernel_rfl) ?_;cbv;refine kK.go (G:=ByteArray) (λt=>[(1,.v (.string t))]) (λ_=>[]) C ?_ ?_
 .cbv;rw[g];by_cases v:65535<s.size
  .rw[kS v];have L:(0:Int)<=65535/\(65535:Int)<=(s.size:Int):=ip
   have a:C (A .sub s 0 65535) h:=by
    rw[f];have B:A .sub s 0 65535=s.extract 0 65535:=by rw[i.sub];rfl
    refine⟨rfl,?_,?_⟩
    .rw[B];unfold fX jZ;simp only[qM,kZP,List.extract,kZD,kQQ]
    rw[B,ByteArray.size_extract];omega
   clear f g e;cbv;refine⟨L,?_⟩;cbv;refine zqc _ a
  rw[kQW v];have a:C s h:=by rw[f];refine⟨rfl,?_,ip⟩;unfold fX;rw[kXe (by rw[NS];omega)]
  clear f g e;cbv;refine zqc _ a
 intro t n a;rw[f]at a;cbv;obtain⟨rfl,O,J⟩:=a;have Q:=lD (A:=A) (h:=n) (j:Int);have Z:=lD (A:=A) (h:=n) ((j / 256:Nat):Int);have oR:A .lW t=(j:Int):=by rw[i.lW];grind
 have X:A .aX .shr .i64 (j:Int) 8=((j / 256:Nat):Int):=by
  rw[i.aX];show((j:Int)).fdiv (2^8)=_
  grind
 have d:dZ s=[u8 (j:Int),u8 ((j / 256:Nat):Int)]++jZ t:=by rw[O];unfold dZ gI;rw[<-I]
 rw[d]at e;have p:t.size=(jZ t).length:=(NS t).symm;clear f g d O;refine⟨dl,?_⟩;cbv;rw[oR,X];intro y u F e1;have o:Le n u:=zqs e1 F
 have T:Sl 5 cD u (.slice (zsA y) 2 2) [u8 (j:Int),u8 ((j / 256:Nat):Int)]:=pf (s:=cD) rfl (zqt e1) Q Z;clear e1;cbv;refine(q.mono (o.t _)).app T dl rfl dl ip (N.trans o) (λm2 b2 c2 h3 zV P V M U=>?_);clear M;generalize D:[u8 (j:Int),u8 ((j / 256:Nat):Int)]=Y at *;cbv;refine VV (n':=t.size) (cs':=aT (jZ t)) (by rcases t with⟨⟨_| ⟨x,r⟩⟩⟩<;>rfl) (by rcases t with⟨⟨_| ⟨x,r⟩⟩⟩<;>rfl) ?_;refine U.hXp (s:=cD) (ys:=jZ t) (cs:=aT (jZ t)) p (iX _) (by rw[p];simp[aT,cD]) (λh'=>Me _ _) (by simp[cD]) (size:=1) (bytes:=1) rfl dl ip P (λS z E H OM R W q3=>?_);have K:Y.length=2:=gg
 have:=e S gg H z E R (λtys w=>((o.t _).trans (V _ w)).trans (W _ w)) gg;clear e;cbv;exact this
theorem Jv(q:Sl 45 bG h (.slice b n c) r)(hn:n<=2^16)
 (hk:∀h' v n' c',Le h h'->bA 5 cD h h' (.slice v n' c') (gH r)->(gH r).length<=2^34->k (.slice v n' c') h'):Ct 286 [.slice b n c] h k:=by
 obtain⟨A,hA⟩:=Ar.ex;have F:=q.len;have Z:A .nat n=(r.length:Int):=by rw[hA.nat,F];rfl
 obtain⟨d,lO⟩:∃d:Bs,d=[u8 (r.length:Int)]:=⟨_,rfl⟩;have ab:d.length=1:=by rw[lO];rfl
 have hS:gH r=d++(r.map ju).flatten:=by grind [gH]
 rw[hS]at hk;clear hS;have Gv:([]++[u8 (A .nat n)]:Bs)=d:=gg
 obtain⟨J,H⟩:∃J:Nat->((Option Addr×Nat×Nat)×Int)->ad->Prop,∀w g h',J w g h'=(∃i:Nat,bg g.2 i/\w=n-i/\i<=n/\Le h h'/\bA 5 cD h h' (.slice g.1.1 g.1.2.1 g.1.2.2) (d++((r.take i).map ju).flatten)/\(d++((r.take i).map ju).flatten).length<=2^17*(i+1)):=⟨_,λ_ _ _=>rfl⟩;refine kh eZf A Tryz.func286 ?_;cbv;refine lS (h0:=h) (l:=[]) bA.nil (Le.refl _) ip _ (m':=1) rfl (λh1 b1 c1 k1 t1 q1=>?_);rw[Gv]at q1;have X:J n ((b1,1,c1),0) h1:=by rw[H];refine⟨0,⟨rfl⟩,rfl,ip,k1,iu q1,by simp;omega⟩
 clear Gv q1 Z t1;cbv;refine ba.gz (G:=(Option Addr×Nat×Nat)×Int) (λg=>[(3,.v (.slice g.1.1 g.1.2.1 g.1.2.2)),(4,.v (.zI g.2))]) (λ_=>[]) (λw g h'=>J w g h') n ((b1,1,c1),0) X ?_
 intro w g h2 hI;rw[H]at hI;cbv;obtain⟨⟨gb,P,gc⟩,z⟩:=g;obtain⟨i,f,hw,hi,k2,y,hL⟩:=hI;have f:bg z i:=f;have y:bA 5 cD h h2 (.slice gb P gc) (d++((r.take i).map ju).flatten):=y;have nQ:=y.sl.len;have f1:A .aQ .lss z (A .nat n)=decide (i<n):=by rw[aV A,f.eq,hA.nat];grind
 rw[f1];by_cases hc:i<n
 .rw[kS hc];obtain⟨x,hx⟩:=cK r i;have W:=Lw x;have ix:=f.ix hc;have K:b.isSome=true:=q.bu;have U:n-(i+1)<w:=ip
  have s:∀v m' c' h',Le h h'->bA 5 cD h h' (.slice v m' c') ((d++((r.take i).map ju).flatten)++ju x)->J (n-(i+1)) ((v,m',c'),A .aX .add .i64 z 1) h':=λv m' c' h' l' q'=>by
   rw[H];have ha:(d++((r.take i).map ju).flatten)++ju x=d++((r.take (i+1)).map ju).flatten:=by rw[kJG,hx];simp
   refine⟨i+1,f.succ (A:=A),rfl,ip,l',?_,?_⟩
   .grind
   grind
  have yL:(d++((r.take i).map ju).flatten).length<=2^34:=ip
  have B:A .aQ .eql x.k 1=decide (x.k=1):=au A ..;have C:A .aQ .eql x.k 2=decide (x.k=2):=au A ..;have D:A .aQ .eql x.k 3=decide (x.k=3):=au A ..;have V:ju x=u8 x.k::(if x.k=1 then [u8 x.n]else if x.k=2 then cP x.n else if x.k=3 then dZ x.s else []):=rfl;have sq:=q.mono (k2.t _);clear f1 hL H X W;generalize d++((r.take i).map ju).flatten=L at *;generalize ju x=vw at *;cbv;refine⟨⟨K,ix⟩,?_⟩;cbv;refine sq.cI hx f.eq (o:=0) (m:=1) dl (λcs a=>?_);have a:cs=[.zI x.k,.zI x.n,.string x.s]:=a;subst a;cbv;refine lS y k2 ip x.k (m':=P+1) rfl (λh3 b3 c3 R t3 S=>?_);have Q:=sq.mono (t3 _ dl);obtain⟨t,OM⟩:∃t,t=P+1:=⟨_,rfl⟩;rw[<-OM]at S |-;clear sq;cbv;refine⟨⟨K,ix⟩,?_⟩;cbv;refine Q.cI hx f.eq (o:=0) (m:=1) dl (λcs a=>?_);have a:cs=[.zI x.k,.zI x.n,.string x.s]:=a;subst a;cbv;rw[B];by_cases M:x.k=1
  .rw[if_pos M]at V;rw[kS M];clear B C D;cbv;refine⟨⟨K,ix⟩,?_⟩;cbv;refine Q.cI hx f.eq (o:=1) (m:=1) dl (λcs a=>?_);have a:cs=[.zI x.k,.zI x.n,.string x.s]:=a;subst a;cbv;refine lS S R ip x.n (m':=t+1) rfl (λE j p I t4 T=>?_);obtain⟨e,Y⟩:∃e,e=t+1:=⟨_,rfl⟩;rw[<-Y]at T |-;have u:=s j e p E I gg;clear s;cbv;refine zqn _ ((j,e,p),A .aX .add .i64 z 1) U u
  rw[if_neg M]at V;rw[kQW M];cbv;rw[C];by_cases N:x.k=2
  .rw[if_pos N]at V;rw[kS N];clear B C D;cbv;refine⟨⟨K,ix⟩,?_⟩;cbv;refine Q.cI hx f.eq (o:=1) (m:=1) dl (λcs a=>?_);have a:cs=[.zI x.k,.zI x.n,.string x.s]:=a;subst a;cbv;refine tX S R ip x.n (m':=t+8) rfl (λE j p I t4 T=>?_);obtain⟨e,Y⟩:∃e,e=t+8:=⟨_,rfl⟩;rw[<-Y]at T |-;have u:=s j e p E I gg;clear s;cbv;refine zqn _ ((j,e,p),A .aX .add .i64 z 1) U u
  rw[if_neg N]at V;rw[kQW N];cbv;rw[D];by_cases O:x.k=3
  .rw[if_pos O]at V;rw[kS O];clear B C D;cbv;refine⟨⟨K,ix⟩,?_⟩;cbv;refine Q.cI hx f.eq (o:=2) (m:=1) dl (λcs a=>?_);have a:cs=[.zI x.k,.zI x.n,.string x.s]:=a;subst a;cbv;refine uT S R ip x.s (λe _ E j p I t4 T=>?_);have u:=s j e p E I gg;clear s;cbv;refine zqn _ ((j,e,p),A .aX .add .i64 z 1) U u
  rw[if_neg O]at V;rw[kQW O];have u:=s b3 t c3 h3 R gg;clear B C D s;cbv;refine zqn _ ((b3,t,c3),A .aX .add .i64 z 1) U u
 rw[kQW hc];have hi:i=n:=ip
 rw[kXe ip]at y hL;have:=hk h2 gb P gc k2 y ip;clear hk H X;cbv;exact this
theorem aXx(y:bg z s){t:ByteArray}(q:Sl 45 bG h (.slice b n c) r)(B:n<=2^16)
 (a:∀h' e n' c',Le h h'->Sl 5 cD h' (.slice e n' c') (VF id s ⟨t,o,r⟩)->n'<=2^18->k (.slice e n' c') h'):
 Ct 301 [.zI id,.zI z,.agg #[.string t,.zI o,.slice b n c]] h k:=by
 have H:VF id s ⟨t,o,r⟩=cP id++cP z++[u8 o]++dZ t++dZ (strOf (gH r)):=by rw[y.eq];rfl
 have K:=aQV id s ⟨t,o,r⟩;rw[H]at a K;clear H;have P:=gA t;refine cB eXQ Tryz.func301 λA hA=>?_;cbv;refine tX (h0:=h) (l:=[]) bA.nil (Le.refl _) ip id (m':=8) rfl (λw j p D t1 d=>?_);have d:bA 5 cD h w (.slice j 8 p) (cP id):=d;cbv;refine tX d D ip z (m':=16) rfl (λh2 R X E t2 L=>?_);cbv;refine lS L E ip o (m':=17) rfl (λh3 T Z F t3 M=>?_);cbv;refine uT M F ip t (λm4 Y h4 U c4 f t4 N=>?_);cbv;refine Jv (q.mono (f.t _)) B (λh5 V m5 c5 g O C=>?_);have W:=N.mono (g.t _);obtain⟨v,I⟩:∃v,v=strOf (gH r):=⟨_,rfl⟩;rw[<-I]at a K;cbv;refine rU O.sl ?_;rw[<-I];cbv;refine uT W (f.trans g) ip v (λJ S x m u G t6 i=>?_);have Q:=i.sl.len;have:=a x m J u G i.sl ip;cbv;exact this
theorem Tr(f:bg z s){t:ByteArray}(q:Sl 45 bG h (.slice b n c) r)(B:n<=2^16)
 (a:∀h' g,Le h h'->hl g=aT (df id s ⟨t,o,r⟩)->k (.agg (hl g).toArray) h'):
 Ct 207 [.zI id,.zI z,.agg #[.string t,.zI o,.slice b n c]] h k:=by
 have H:df id s ⟨t,o,r⟩=Bc (VF id s ⟨t,o,r⟩):=rfl;rw[H]at a;clear H;refine cB eJx Tryz.func207 λA v=>?_;cbv;refine aXx f q B (λu m w p l j G=>?_);cbv;refine aXD j ip (λd g i e=>?_);have:=a d g (l.trans i) e;cbv;exact this
theorem aXI(q:Sl 161 bD h (.slice b n c) L)(Y:∀x∈L,x.row.length<=2^16)(hn:n<=2^30)
 (K:∀h' d n' c',Le h h'->Sl 100 yV h' (.slice d n' c') (iW id L)->k (.slice d n' c') h'):Ct 302 [.agg #[.zI id,.slice b n c]] h k:=by
 have N:=q.len;have Su:=AQ id L;have C:∀ {i:Nat} {c:cR},L[i]? =some c->(iW id L)[i]? =some (df id i c):=λh=>AR h;generalize iW id L=H at *;obtain⟨J,f⟩:∃J:Nat->((Option Addr×Nat×Nat)×Int)->ad->Prop,∀w g h',J w g h'=(∃i,bg g.2 i/\w=n-i/\i<=n/\Le h h'/\bA 100 yV h h' (.slice g.1.1 g.1.2.1 g.1.2.2) (H.take i)):=⟨_,λ_ _ _=>rfl⟩;have P:J n ((none,0,0),0) h:=by rw[f];exact⟨0,⟨rfl⟩,rfl,ip,Le.refl _,bA.nil⟩
 refine cB eXP Tryz.func302 λA X=>?_;cbv;refine ba.gz (G:=(Option Addr×Nat×Nat)×Int) (λg=>[(3,.v (.slice g.1.1 g.1.2.1 g.1.2.2)),(4,.v (.zI g.2))]) (λ_=>[(1,[.zI id,.slice b n c])]) (λw g h'=>J w g h') n ((none,0,0),0) P ?_
 intro w g p I;rw[f]at I;cbv;obtain⟨⟨D,o,E⟩,z⟩:=g;obtain⟨i,a,hw,hi,t,e⟩:=I;have a:bg z i:=a;have e:bA 100 yV h p (.slice D o E) (H.take i):=e;have nQ:=e.sl.len;rw[kJI]at nQ;have B:A .aQ .lss z (A .nat n)=decide (i<n):=by rw[aV A,a.eq,X.nat];grind
 rw[B];by_cases j:i<n
 .rw[kS j];obtain⟨x,hx⟩:=cK L i;have M:=Y x (kQR hx);have ix:=a.ix j;have iK:b.isSome=true:=q.bu;have Z:n-(i+1)<w:=ip
  have V:=mI (C hx);have y:∀d m' c' h',Le h h'->bA 100 yV h h' (.slice d m' c') (H.take i++[df id i x])->J (n-(i+1)) ((d,m',c'),A .aX .add .i64 z 1) h':=λd m' c' h' l' q'=>by
   rw[f];exact⟨i+1,a.succ (A:=A),rfl,j,l',gg⟩
  have oU:o+1<=2^39:=ip
  have mg:(df id i x).length=32:=gu _;clear B f P V C;generalize H.take i=Lc at *;obtain⟨tb,op,r⟩:=x;cbv;refine⟨⟨iK,ix⟩,?_⟩;cbv;refine(q.mono (t.t _)).load hx a.eq (λcs T=>?_);obtain⟨rb,rn,rc,rfl,l⟩:=T;have l:Sl 45 bG p (.slice rb rn rc) r:=l;have Bj:=l.len;have M:r.length<=2^16:=M;cbv;refine Tr a l ip (λU g O hg=>?_);generalize df id i ⟨tb,op,r⟩=RH at *;cbv;intro n4 F S m;have Q:Le U F:=zqs m S
  have q4:=bh (s:=yV) (cs:=hl g) (zqt m) (FA (h:=F) hg mg);clear m;cbv;refine(e.mono ((O.trans Q).t _)).append q4 dl rfl dl oU ((t.trans O).trans Q) (λR u v W KC l5 t5 k5 q5=>?_);have iL:=y u R v W l5 q5;clear y k5;cbv;refine zqn _ ((u,R,v),A .aX .add .i64 z 1) Z iL
 rw[kQW j];rw[kXe ip]at e;have:=K p D o E t e.sl;clear f P C K;cbv;exact this
theorem On(q:Sl 161 bD h (.slice b n c) L)(B:∀x∈L,x.row.length<=2^16)(f:n<=2^30)
 (a:∀h' g,Le h h'->hl g=aT (fa id L)->(fa id L).length=32->k (.agg (hl g).toArray) h'):Ct 208 [.agg #[.zI id,.slice b n c]] h k:=by
 have D:fa id L=gW (iW id L):=rfl;rw[D]at a;clear D;refine cB eJw Tryz.func208 λA s=>?_;cbv;refine aXI q B f (λr m t o l j=>?_);generalize iW id L=H at *;cbv;refine aXA _ j (qA _) (λd g i e p=>?_);have:=a d g (l.trans i) e p;cbv;exact this
theorem QY{m:Int}{g:Nat->Int}{x:Bs}(s:hl g=aT x)(hx:x.length=32)
 (t:∀h' b n' c',Le h h'->Sl 5 cD h' (.slice b n' c') (cP id++cP m++x)->n'<=100->k (.slice b n' c') h'):
 Ct 352 [.zI id,.zI m,.agg (hl g).toArray] h k:=by
 refine cB eQZ Tryz.func352 λA H=>?_;cbv;intro n a G e1;have w:Le h a:=zqs e1 G
 have j:a n=zcL 100 (hl g):=zqt e1;clear e1;cbv;refine tX (h0:=a) (l:=[]) bA.nil (Le.refl _) ip id (m':=8) rfl (λp d f u I q=>?_);have q:bA 5 cD a p (.slice d 8 f) (cP id):=q;cbv;refine tX q u ip m (m':=16) rfl (λF D E c J B=>?_);have o:=c _ _ j;cbv;refine B.app (kG o s hx) dl rfl dl dl c (λz e i r Y y K v C=>?_);have:=t r e z i (w.trans y) C.sl ip;clear v;cbv;exact this
theorem Wc(q:Sl 161 bD h (.slice b n c) L)(B:∀x∈L,x.row.length<=2^16)(j:n<=2^30)
 (a:∀h' g,Le h h'->hl g=aT (ko id L)->k (.agg (hl g).toArray) h'):Ct 293 [.agg #[.zI id,.slice b n c]] h k:=by
 obtain⟨A,f⟩:=Ar.ex;have l:=q.len;have E:ko id L=Bc (cP id++cP (A .nat n)++fa id L):=by rw[f.nat,l];rfl
 rw[E]at a;clear E;refine kh eXY A Tryz.func293 ?_;cbv;refine On q B j (λv g m i w=>?_);generalize fa id L=R at *;cbv;refine QY i w (λy s z t o r u=>?_);cbv;refine aXD r ip (λe d p G=>?_);have:=a e d ((m.trans o).trans p) G;cbv;exact this
theorem Rc{n X:Int}{b c:Nat->Int}{p r:Bs}(E:hl b=aT p)(F:hl c=aT r)(C:p.length=32)(M:r.length=32)
 (f:∀h' d n' c',Le h h'->Sl 5 cD h' (.slice d n' c') (aXc ⟨n,p,r,X⟩)->n'<=200->k (.slice d n' c') h'):Ct 86 [.agg (Aw n b c X).toArray] h k:=by
 have W:aXc ⟨n,p,r,X⟩=cP n++p++r++cP X:=rfl;rw[W]at f;clear W;refine cB iQj Tryz.func86 λA hA=>?_;cbv;intro s a G e1;have K:Le h a:=zqs e1 G
 have g:a s=zcL 113 (Aw n b c X):=zqt e1;clear e1;cbv;rw[av A];refine cy g ?_;cbv;refine tX (h0:=a) (l:=[]) bA.nil (Le.refl _) ip n (m':=8) rfl (λB t v i t2 q=>?_);have q:bA 5 cD a B (.slice t 8 v) (cP n):=q;have y:=i _ _ g;cbv;rw[av A];refine q.app (xU (o:=1) (x:=p) y (by rw[nF,<-E];rfl) C) dl rfl dl dl i (λm3 R T V Q j t3 H N=>?_);have e:=j _ _ g;clear H;cbv;rw[av A];try rw[av A]
 refine cy e ?_;cbv;refine N.app (xU (o:=33) (x:=r) e (by rw[nF,<-F];rfl) M) dl rfl dl ip j (λL S U Z Y m t4 I O=>?_);have z:=m _ _ g;clear I;cbv
 (try rw[av A])
 refine cy z ?_;cbv;refine zqr ?_;cbv;refine tX O m ip X (m':=L+8) rfl (λD u w J t5 P=>?_);have:=f D u _ w (K.trans J) P.sl ip;cbv;exact this
theorem Oo{n:Int}{a b:Nat->Int}{p r:Bs}(f:hl a=aT p)(i:hl b=aT r)(C:p.length=32)(m:r.length=32)
 (c:∀h' g,Le h h'->hl g=aT (eo ⟨n,p,r,o⟩)->k (.agg (hl g).toArray) h'):Ct 30 [.agg (Aw n a b o).toArray] h k:=by
 have H:eo ⟨n,p,r,o⟩=Ul (aXc ⟨n,p,r,o⟩):=rfl;rw[H]at c;clear H;refine cB iXb Tryz.func30 λA v=>?_;cbv;refine Rc f i C m (λu s w t l q G=>?_);cbv;refine Ok q ip (λd g j e=>?_);have:=c d g (l.trans j) e;cbv;exact this
abbrev Pn:List Nat:=[231,210,326]
structure nU(h0 h:ad)(p:Nat)(D:Dk):Prop where
 out:∃kb kc nb nc wb wn wc,h p=zcL 231 [.slice (zsA nb) D.now.length nc,.slice (zsA kb) D.now.length kc,.slice wb wn wc,.zI D.left,.bool D.dead]/\
  dt 210 pN h kb kc D.kept/\dt 210 pN h nb nc D.now/\D.kept.length=D.now.length/\kb≠nb/\bA 326 Um h0 h (.slice wb wn wc) D.ws/\D.now.length<=4096/\0<D.now.length/\h0 p=none/\h0 kb=none/\h0 nb=none/\Le h0 h
theorem nU.lt{h':ad}(q:nU h0 h p D)(l:cX Pn h h')(c:Le h0 h'):nU h0 h' p D:=by obtain⟨k,kc,n,d,wb,f,wc,g,o1,o2,e1,e,w,a,b,z,i,j,-⟩:=q.out;exact⟨k,kc,n,d,wb,f,wc,l _ _ _ _ dl g,o1.mono (l.sub),o2.mono (l.sub),e1,e,w.mono (l.sub),a,b,z,i,j,c⟩
theorem nU.le{h':ad}(q:nU h0 h p D)(l:Le h h'):nU h0 h' p D:=by obtain⟨k,kc,n,d,wb,f,wc,g,o1,o2,e1,e,w,a,b,z,i,j,c⟩:=q.out;exact⟨k,kc,n,d,wb,f,wc,l _ _ g,o1.mono (l.t _),o2.mono (l.t _),e1,e,w.mono (l.t _),a,b,z,i,j,c.trans l⟩
theorem nU.base(q:nU h0 h p D):Le h0 h:=by obtain⟨k,kc,n,c,wb,d,wc,g,o1,o2,e1,e,w,a,b,z,f,i,l⟩:=q.out;exact l
theorem fQi(r:bg z n)(b:2<=n)(y:n<=4096)
 (w:∀h' p,h p=none->Le h h'->nU h h' p (KG n)->k (.tuple #[.zP p,.zI 0]) h'):
 Ct 33 [.zI z] h k:=by
 obtain⟨A,v⟩:=Ar.ex;have s:A .aQ .lss z 2=false:=by rw[aV A,r.eq];exact kQW ip
 have t:A .aQ .gtr z 4096=false:=by rw[bF A,r.eq];exact kQW ip
 have B:z=A .nat n:=by rw[v.nat];exact r.eq
 have fin:∀(b:ad) (g i:Nat) (a:ad) (p:Nat),Le h b->h g=none->h i=none->dt 210 pN b g n (List.replicate n Hn)->dt 210 pN b i n (List.replicate n Hn)->g≠i->b p=none->a=bO b p (.cells #[.slice (zsA i) n n,.slice (zsA g) n n,.zN,.zI 0,.bool false] 231 (0,0))->
  k (.tuple #[.zP p,.zI 0]) a:=λb g i a p l C zn o1 o2 V d c=>by
  have q:Le b a:=zqs c d
  have M:=l.none d;refine w a p M (l.trans q) ⟨g,n,i,n,none,0,0,?_,?_,?_,?_,V,bA.nil,?_,?_,M,C,zn,l.trans q⟩
  .rw[c,ae];simp only[KG,tT]
  .simp only[KG];exact o1.mono (q.t _)
  .simp only[KG];exact o2.mono (q.t _)
  .simp only[KG]
  .simp only[KG,tT];exact y
  simp only[KG,tT];omega
 refine kh iQY A Tryz.func33 ?_;cbv;rw[s];cbv;rw[t];cbv;rw[B];refine⟨?_,?_⟩
 .refine jM (x:=Hn) Dy ip dl (λm u G j o1=>?_);cbv;refine jM (x:=Hn) Dy ip dl (λo b f l o2=>?_);have V:o≠m:=λe=>by rw[e]at f;exact o1.has f
  have fin:=λa p=>fin b o m a p (j.trans l) (j.none f) G o2 (o1.mono (l.t _)) V;cbv;intro p a d c;cbv;exact fin a p d c
 refine jM (x:=Hn) Dy ip dl (λm u G j o1=>?_);cbv;refine jM (x:=Hn) Dy ip dl (λo b f l o2=>?_);have V:m≠o:=λe=>by rw[<-e]at f;exact o1.has f
 have fin:=λa p=>fin b m o a p (j.trans l) G (j.none f) (o1.mono (l.t _)) o2 V;cbv;intro p a d c;cbv;exact fin a p d c
theorem nU.vS(q:nU h0 h p D){G:Prop}
 (i:∀k kc n c wb a wc,h p=zcL 231 [.slice (zsA n) D.now.length c,.slice (zsA k) D.now.length kc,.slice wb a wc,.zI D.left,.bool D.dead]->
  (∀left dead h',h'=bO h p (.cells #[.slice (zsA n) D.now.length c,.slice (zsA k) D.now.length kc,.slice wb a wc,.zI left,.bool dead] 231 (0,0))->nU h0 h' p { D with left:=left,dead:=dead }/\ep Pn h h')->G):G:=by
 obtain⟨k,kc,n,c,wb,a,wc,g,o1,o2,e1,b,w,d,f,z,m,o,l⟩:=q.out;refine i k kc n c wb a wc g (λleft dead h' e=>⟨?_,by rw[e];exact gU g dl⟩);have lt:∀tys,231∉tys->cX tys h h':=λtys j=>by rw[e];exact cX.set g j
 exact⟨k,kc,n,c,wb,a,wc,zqt e,o1.mono (lt _ dl),o2.mono (lt _ dl),e1,b,w.mono (lt _ dl),d,f,z,m,o,l.bf (bs:=[p]) (iu z) (by rw[e];exact Kp.set io)⟩
theorem dXB(q:nU h0 h p D)(hd:D.dead=false)(hl:0<=D.left/\D.left<2^63)(c:∀h',ep Pn h h'->nU h0 h' p (fh D).2->k (.bool (fh D).1) h'):Ct 294 [.zP p] h k:=by
 obtain⟨A,E⟩:=Ar.ex;refine q.vS (λn kc o s wb w wc g up=>?_);have P:fh D=if D.left>0 then if IntKind.i64.wrap (D.left+ -1)=0 then(true,{ D with left:=0,dead:=true })else(false,{ D with left:=IntKind.i64.wrap (D.left+ -1) })else(false,D):=rfl
 have z:A .aQ .gtr D.left 0=decide (D.left>0):=bF A ..;generalize J:D.left=l at *;generalize D.now.length=nl at *;obtain⟨m,x⟩:∃m,m=A .aX .sub .i64 l 1:=⟨_,rfl⟩;refine kh eXX A Tryz.func294 ?_;cbv;rw[av A];refine cy g ?_;cbv;rw[z];by_cases i:l>0
 .rw[if_pos i]at P;have j:m=l-1:=by rw[x,E.aX];show IntKind.i64.wrap (l-1)=_;rw[IntWalk.i64_in _ ip]
  have Z:IntKind.i64.wrap (l+ -1)=m:=by rw[j,IntWalk.i64_in _ ip];omega
  rw[Z]at P;have B:A .aQ .eql m 0=decide (m=0):=au A ..;rw[kS i];cbv;rw[av A];refine cy g ?_;cbv;rw[av A,<-x];refine jE g (by show 4<=5;decide) (λv e1=>?_);have t:v p=zcL 231 [.slice (zsA o) nl s,.slice (zsA n) nl kc,.slice wb w wc,.zI m,.bool D.dead]:=zqt e1;have X:∀a b,a=bO v p (.cells #[.slice (zsA o) nl s,.slice (zsA n) nl kc,.slice wb w wc,.zI m,.bool b] 231 (0,0))->nU h0 a p { D with left:=m,dead:=b }/\ep Pn h a:=λa b f=>by
   refine up m b a ?_;rw[f,e1,eI]
  cbv;rw[av A];refine cy t ?_;cbv;rw[av A,B];refine jE t (by show 5<=5;decide) (λa f=>?_);obtain⟨r,y⟩:=X a (decide (m=0)) f;have C:a p=zcL 231 [.slice (zsA o) nl s,.slice (zsA n) nl kc,.slice wb w wc,.zI m,.bool (decide (m=0))]:=zqt f;have fin:k (.bool (decide (m=0))) a:=by
   by_cases d:m=0
   .rw[if_pos d]at P;rw[P]at c;rw[kS d]at r |-;rw[d]at r;exact c a y r
   rw[if_neg d]at P;rw[P]at c;rw[kQW d]at r |-;have e:({ D with left:=m,dead:=false }:Dk)={ D with left:=m }:=by rw[<-hd]
   rw[e]at r;exact c a y r
  clear e1 f X up c P;generalize decide (m=0)=u at *;cbv;rw[av A];refine cy C ?_;cbv;exact fin
 rw[if_neg i]at P;rw[P]at c;have:=c h (ep.refl _ _) q;rw[kQW i];clear c up;cbv;rw[av A];refine cy g ?_;cbv;show k (.bool D.dead) h;rw[hd];exact this
theorem QS(q:nU h0 h p D)(n:Int)
 (v:fH D n 0≠0->k (.tuple #[.zN,.zI (fH D n 0)]) h)
 (f:fH D n 0=0->∀h' b c l,l=dF D n->l.length=64->Le h h'->bA 5 cD h h' (.slice b 64 c) l->k (.tuple #[.slice b 64 c,.zI 0]) h'):
 Ct 173 [.zP p,.zI n] h k:=by
 obtain⟨A,u⟩:=Ar.ex;obtain⟨kb,kc,r,Y,wb,wn,wc,g,o1,o2,e1,e2,w,e4,s,z1,z2,z3,l0⟩:=q.out;have C:fH D n 0=if D.dead then 15 else if n<0\/n>=D.now.length\/(0:Int)>64 then 1 else 0:=rfl
 have K:A .aQ .lss n 0=decide (n<0):=aV A ..;have L:A .aQ .geq n (A .nat D.now.length)=decide (n>=D.now.length):=by rw[cF A,u.nat];rfl
 have M:dF D n=(D.now[n.toNat]?).getD []:=rfl;have oR:=o2.sl (n:=D.now.length) rfl;generalize O:D.left=lf at *;generalize qX:D.dead=F at *;generalize sQ:D.now=N at *;generalize ZD:N.length=nl at *;refine kh eKa A Tryz.func173 ?_;cbv;rw[av A];refine cy g ?_;cbv;cases F with
 |true=>have C:fH D n 0=15:=C;rw[C]at v;have:=v dl;clear v f;cbv;exact this
 |false=>
  have C:fH D n 0=if n<0\/n>=nl\/(0:Int)>64 then 1 else 0:=C
  cbv;rw[K];by_cases e:n<0
  .rw[if_pos (.inl e)]at C;rw[C]at v;have:=v dl;rw[kS e];clear v f;cbv;exact this
  rw[kQW e];cbv;rw[av A];refine cy g ?_;cbv;rw[L];by_cases d:n>=nl
  .rw[if_pos (.inr (.inl d))]at C;rw[C]at v;have:=v dl;rw[kS d];clear v f;cbv;exact this
  rw[if_neg (λU=>by rcases U with h|h|h;exact e h;exact d h;exact absurd h dl)]at C;have f:=f C;have d:¬n>=(nl:Int):=d;rw[kQW d];have Q:bg n n.toNat:=⟨ip⟩;obtain⟨x,hx⟩:=cK N n.toNat;rw[hx]at M;have M:dF D n=x:=M;rw[M]at f;have ix:=Q.ix (len:=nl) ip;obtain⟨c,P,R,t⟩:=o2.out;have hR:=R.at hx;have a:x.length=64:=hR.2;have Z:Sl 210 cD h (.slice (some ⟨r,n.toNat*64,none⟩) 64 64) x:=by
   refine⟨_,64,by rw[a],ip,ip,.inr ⟨r,n.toNat*64,_,_,rfl,P,?_,λi y B=>?_⟩⟩
   .have:n.toNat<N.length:=(HH.1 hx).1;have W:=o2.le;have t:c.length=Y*64:=t;show n.toNat*64+x.length*1<=(List.toArray c).toList.length;simp only[List.toArray,a];omega
   have V:i<64:=by have:=(HH.1 B).1;omega
   have m:=congrArg (λl=>l[i]?) hR.1;have J:pN.n=64:=rfl;rw[J]at m;simp only[kZo,kXz,aT,kZf,B]at m;rw[if_pos V]at m;show((c.drop (n.toNat*64+i*1)).take 1)=[.int .u8 (y.toNat:Int)];apply kZq;intro j;rw[kZo,kXz];by_cases z:j<1
   .have:j=0:=ip
    subst this;rw[if_pos z,vi,vy,m];rfl
   rw[if_neg z,kZM (by simp;omega)]
  have I:A .jt (zsA r) n 64=⟨r,n.toNat*64,none⟩:=by rw[u.jt];simp[jt,cQ]
  clear v o1 w;cbv;intro n5 S E s;have o:Le h S:=zqs s E
  clear s;cbv;rw[av A];refine cy (o _ _ g) ?_;cbv;refine⟨⟨rfl,ix⟩,?_⟩;cbv;rw[I];refine oZ (Z.mono (o.t _)) rfl dl (λG=>by cases G) (λHp cap T H nB X o6=>?_);have:=f T _ _ x rfl a (o.trans X) (o6.buf (o.none H) a.symm);clear f;cbv;exact this
end Go.S
