import Derived.Test.YthnbpiejemlbeaaGreatBB
import Derived.Test.YthnbpiejemlbeaaGreatGB
set_option linter.all false
set_option maxRecDepth 100000
set_option maxHeartbeats 8000000
namespace Go.S
open Go.Sx Go.Proofs
variable {a:Addr}{only:Bool}{nm:ByteArray}{d:DB}{fn:Func}{f:FuncId}{key:Int}{B:List jF}{c e1 m n p r:Nat}{b y:Option Addr}{s:St}{k:Value->ad->Prop}{L:Value×Value×Value×Value}{w:World}{h h':ad}
structure Lg where
 D:Dk
 s:Nat
 n:Nat
def rI(s n:Nat):Bs:=cF (s:Int)++cF (n:Int)
def Uw(g:Lg)(l:Bs):Int×Dk:=dw (bJ (cD g.D g.s (cF (l.length:Int)++l)).2 0 (rI (g.s+8+l.length) (g.n+1))).2
def aY(g:Lg)(l:Bs):Int×Lg:=
 if l.length>65536 then(5,g)
 else if(l.length:Int)+8>((g.D.now.length:Int)-1)*64-g.s then(14,g)
 else if(cD g.D g.s (cF (l.length:Int)++l)).1≠0 then((cD g.D g.s (cF (l.length:Int)++l)).1,{ g with D:=(cD g.D g.s (cF (l.length:Int)++l)).2 })
 else if(bJ (cD g.D g.s (cF (l.length:Int)++l)).2 0 (rI (g.s+8+l.length) (g.n+1))).1≠0 then((bJ (cD g.D g.s (cF (l.length:Int)++l)).2 0 (rI (g.s+8+l.length) (g.n+1))).1,{ g with D:=(bJ (cD g.D g.s (cF (l.length:Int)++l)).2 0 (rI (g.s+8+l.length) (g.n+1))).2 })
 else if(Uw g l).1≠0 then((Uw g l).1,{ g with D:=(Uw g l).2 })
 else(0,⟨(Uw g l).2,g.s+8+l.length,g.n+1⟩)
theorem cZG{l:Nat}{s n:Int}(q:ID h l p s n)(a:k (.int .i64 n) h):Ct 251 [.zP l] h k:=by refine cg eXp Tryz.func251 λA b=>?_;cbv;rw[av A];refine Jl (cm q.out rfl) ?_;cbv;exact a
theorem Eh:∀(n:Nat) (D:Dk) (pg:Nat) (b:Bs),b.length<=n->(dI D pg b).2.ws.length<=D.ws.length+b.length:=λn=>by
 induction n with
 |zero=>
  intro D pg b a;have:b=[]:=kh (by omega);rw[dI,dif_pos this];unfold dw;split
  .exact Nat.le_add_right _ _
  split
  .rw[ED];exact Nat.le_add_right _ _
  exact nr _
 |succ n i=>
  intro D pg b a;rw[dI];split
  .unfold dw;split
   .exact Nat.le_add_right _ _
   split
   .rw[ED];exact Nat.le_add_right _ _
   exact nr _
  rename_i S;have m:=jKF.2 S;have c:=Bz D pg (b.take 64);split
  .omega
  have h:=i (bJ D pg (b.take 64)).2 (pg+1) (b.drop 64) (by rw[iz];omega);rw[iz]at h;omega
theorem HF(D:Dk)(s:Nat)(b:Bs):(cD D s b).2.ws.length<=D.ws.length+(b.length+64):=by
 unfold cD;split
 .have:=Eh _ D (1+s / 64) b (kB _);omega
 split
 .exact Nat.le_add_right _ _
 have:=Eh _ D (1+s / 64) ((dp D ((1+s / 64:Nat):Int)).take (s % 64)++b) (kB _);have h:s % 64<64:=kQp _ (by decide);rw[cy,eA]at this;omega
abbrev cJo:List Nat:=[294,94,211,213]
theorem _root_.Go.Sx.dX.sup{ex Z:List Nat}(x:dX ex h h')(s:∀t∈ex,t∈Z):dX Z h h':=λb o a S=>x b o a (λc e fr d m=>S c e fr d (s e m))
theorem RO{j:Nat}{g:Lg}(q:nI h p g.D)(t:ID h j p (g.s:Int) (g.n:Int)){l:Bs}(qb:Sl 5 cj h (.slice b m c) l)(hs:g.s<=2^29)(hn:g.n<=2^29)(hm:m<=2^28)(hw:g.D.ws.length<=2^28)
 (a:∀h',dX cJo h h'->nI h' p (aY g l).2.D->ID h' j p ((aY g l).2.s:Int) ((aY g l).2.n:Int)->k (.int .i64 (aY g l).1) h'):
 Ct 129 [.zP j,.slice b m c] h k:=by
 obtain⟨A,r⟩:=Ar.ex;obtain⟨D,s,n⟩:=g;have q:nI h p D:=q;have t:ID h j p (s:Int) (n:Int):=t;have hs:s<=2^29:=hs;have hn:n<=2^29:=hn;have hw:D.ws.length<=2^28:=hw;have ab:=qb.len;have Yn:=q.max;have mY:A .aN .neq 0 0=false:=by rw[az A];rfl
 have Y:A .nat m=(l.length:Int):=by rw[r.nat,ab];rfl
 have f1:A .aN .gtr (A .nat m) 65536=decide (l.length>65536):=by rw[Y,bC A];exact decide_eq_decide.2 (by omega)
 have w:∀z:Int,-9223372036854775808<=z/\z<=9223372036854775807->IntKind.i64.wrap z=z:=IntWalk.i64_in;have M:∀N,aZ N D.now.length->A .aN .gtr (A .aT .add .i64 (A .nat m) 8) (A .aT .sub .i64 (A .aT .mul .i64 (A .aT .sub .i64 N 1) 64) (s:Int))=decide ((l.length:Int)+8>((D.now.length:Int)-1)*64-s):=λN v=>by
  have e1:A .aT .add .i64 (A .nat m) 8=(l.length:Int)+8:=by rw[Y,r.aT];exact w _ (by omega)
  have i:A .aT .sub .i64 N 1=(D.now.length:Int)-1:=by rw[v.eq,r.aT];exact w _ (by omega)
  have H:A .aT .mul .i64 ((D.now.length:Int)-1) 64=((D.now.length:Int)-1)*64:=by rw[r.aT];exact w _ (by omega)
  have e4:A .aT .sub .i64 (((D.now.length:Int)-1)*64) (s:Int)=((D.now.length:Int)-1)*64-s:=by rw[r.aT];exact w _ (by omega)
  rw[e1,i,H,e4,bC A]
 have J:A .aT .add .i64 (A .aT .add .i64 (s:Int) 8) (A .nat m)=((s+8+l.length:Nat):Int):=by
  have e1:A .aT .add .i64 (s:Int) 8=(s:Int)+8:=by rw[r.aT];exact w _ (by omega)
  rw[e1,Y,r.aT];show IntKind.i64.wrap ((s:Int)+8+(l.length:Int))=_;rw[w _ (by omega)];omega
 have X:A .aT .add .i64 (n:Int) 1=((n+1:Nat):Int):=by rw[r.aT];show IntKind.i64.wrap ((n:Int)+1)=_;rw[w _ (by omega)];omega
 have C:IntKind.i64.wrap ((n:Int)+1)=((n+1:Nat):Int):=by rw[w _ (by omega)];omega
 have P:aY ⟨D,s,n⟩ l=if l.length>65536 then(5,⟨D,s,n⟩)
  else if(l.length:Int)+8>((D.now.length:Int)-1)*64-s then(14,⟨D,s,n⟩)
  else if(cD D s (cF (l.length:Int)++l)).1≠0 then((cD D s (cF (l.length:Int)++l)).1,⟨(cD D s (cF (l.length:Int)++l)).2,s,n⟩)
  else if(bJ (cD D s (cF (l.length:Int)++l)).2 0 (rI (s+8+l.length) (n+1))).1≠0 then((bJ (cD D s (cF (l.length:Int)++l)).2 0 (rI (s+8+l.length) (n+1))).1,⟨(bJ (cD D s (cF (l.length:Int)++l)).2 0 (rI (s+8+l.length) (n+1))).2,s,n⟩)
  else if(dw (bJ (cD D s (cF (l.length:Int)++l)).2 0 (rI (s+8+l.length) (n+1))).2).1≠0 then((dw (bJ (cD D s (cF (l.length:Int)++l)).2 0 (rI (s+8+l.length) (n+1))).2).1,⟨(dw (bJ (cD D s (cF (l.length:Int)++l)).2 0 (rI (s+8+l.length) (n+1))).2).2,s,n⟩)
  else(0,⟨(dw (bJ (cD D s (cF (l.length:Int)++l)).2 0 (rI (s+8+l.length) (n+1))).2).2,s+8+l.length,n+1⟩):=rfl
 have K:=HF D s (cF (l.length:Int)++l);rw[cy,bY]at K;obtain⟨sz,ig⟩:∃sz:Int,sz=(s:Int):=⟨_,rfl⟩;obtain⟨nz,ao⟩:∃nz:Int,nz=(n:Int):=⟨_,rfl⟩;have Q:=t;rw[<-ig]at M J t P;rw[<-ao]at X C t;obtain⟨lz,ar⟩:∃lz:Int,lz=(l.length:Int):=⟨_,rfl⟩;rw[<-ar]at Y P K M;obtain⟨s2,Fu⟩:∃s2:Int,s2=((s+8+l.length:Nat):Int):=⟨_,rfl⟩;rw[<-Fu]at J;obtain⟨e,eU⟩:∃e:Int,e=((n+1:Nat):Int):=⟨_,rfl⟩;rw[<-eU]at X C;have aw:IntKind.i64.wrap (nz+1)=e:=C;have zO:rI (s+8+l.length) (n+1)=cF s2++cF e:=by unfold rI;rw[Fu,eU]
 rw[zO]at P;clear zO;refine fz eJp A Tryz.func129 ?_;cbv;rw[av A];refine cr t.out ?_;cbv;refine aQm q (λN v=>?_);have M:=M N v;cbv;rw[av A];refine Jl (cm t.out rfl) ?_;cbv;rw[f1];by_cases E:l.length>65536
 .rw[if_pos E]at P;rw[P]at a;have:=a h (dX.refl _ _) q Q;rw[ak E];clear a P;cbv;exact this
 rw[if_neg E]at P;rw[bn E];cbv;rw[M];by_cases S:lz+8>((D.now.length:Int)-1)*64-sz
 .rw[if_pos S]at P;rw[P]at a;have:=a h (dX.refl _ _) q Q;rw[ak S];clear a P;cbv;exact this
 rw[if_neg S]at P;rw[bn S];clear M E S;cbv;rw[Y];refine Nc (e1:=5) (l:=[]) Sl.nil (by omega) lz (λh1 b1 m1 E l1 q1=>?_);rw[np]at q1;cbv;intro nS h2 ag i;have l2:Le h1 h2:=by rw[i];exact Le.set ag
 have g2:=(congrFun i nS).trans ae;clear i;have ha:([cF lz,l]:List Bs).flatten=cF lz++l:=by simp
 have YK:(cF lz++l).length<=2^38:=by rw[cy,bY];omega
 cbv;refine Ba (L:=[cF lz,l]) (oN (s:=Dd) rfl g2 (eJ (q1.sl.mono (l2.t _))) (eJ (qb.mono ((l1.trans l2).t _)))) (by rw[ha];exact YK) (λh3 b3 m3 F l3 q3=>?_);rw[ha]at q3;have Nq:=q3.sl.len;rw[cy,bY]at Nq;have ng:=(l1.trans l2).trans l3;have Ng:=t.lt (ng.t _);cbv;refine bJB (q.le ng) ⟨ig⟩ Ng q3.sl (by omega) (by omega) (by omega) (λh4 x4 d4=>?_);have PH:dX dT h h4:=(ng.x _).trans x4;have DH:=Ng.lt (x4.t (by decide));have ax:=qb.mono (PH.t (by decide));clear q1 q3 Ng;generalize cD D s (cF lz++l)=R1 at *;obtain⟨e1,f⟩:=R1;have K:f.ws.length<=D.ws.length+(8+l.length+64):=K;have d4:nI h4 p f:=d4;have f4:A .aN .neq e1 0=decide (e1≠0):=az A ..;by_cases F:e1≠0
 .have P:aY ⟨D,s,n⟩ l=(e1,⟨f,s,n⟩):=by rw[P];exact if_pos F
  rw[P]at a;have:=a h4 (PH.sup (by decide)) d4 (Q.lt (PH.t (by decide)));rw[ak F]at f4;clear a P;cbv;rw[f4];cbv;exact this
 have P:aY ⟨D,s,n⟩ l=if(bJ f 0 (cF s2++cF e)).1≠0 then((bJ f 0 (cF s2++cF e)).1,⟨(bJ f 0 (cF s2++cF e)).2,s,n⟩)
  else if(dw (bJ f 0 (cF s2++cF e)).2).1≠0 then((dw (bJ f 0 (cF s2++cF e)).2).1,⟨(dw (bJ f 0 (cF s2++cF e)).2).2,s,n⟩)
  else(0,⟨(dw (bJ f 0 (cF s2++cF e)).2).2,s+8+l.length,n+1⟩):=by rw[P];exact if_neg F
 rw[bn F]at f4;clear F;cbv;rw[f4];cbv;rw[av A];refine cr DH.out ?_;cbv;rw[J];refine Nc (e1:=5) (l:=[]) Sl.nil (by omega) s2 (λh5 b5 m5 G l5 q5=>?_);rw[np]at q5;have Kg:=q5.sl.len;rw[bY]at Kg;have xf:=DH.lt (l5.t _);cbv;refine cZG xf ?_;cbv;rw[X];refine Nc q5.sl (by omega) e (λh6 b6 m6 c6 l6 q6=>?_);have d6:=d4.le (l5.trans l6);have al:=xf.lt (l6.t _);have aq:=PH.trans ((l5.trans l6).x _);cbv;refine ZU d6 0 q6.sl (by omega) (λh7 x7 d7=>?_);have W:=al.lt (x7.t (by decide));have B:=aq.trans x7;clear q5 q6;generalize bJ f 0 (cF s2++cF e)=R2 at *;obtain⟨i,u⟩:=R2;have d7:nI h7 p u:=d7;have f5:A .aN .neq i 0=decide (i≠0):=az A ..;by_cases T:i≠0
 .have P:aY ⟨D,s,n⟩ l=(i,⟨u,s,n⟩):=by rw[P];exact if_pos T
  rw[P]at a;have:=a h7 (B.sup (by decide)) d7 (Q.lt (B.t (by decide)));rw[ak T]at f5;clear a P;cbv;rw[f5];cbv;exact this
 have P:aY ⟨D,s,n⟩ l=if(dw u).1≠0 then((dw u).1,⟨(dw u).2,s,n⟩)
  else(0,⟨(dw u).2,s+8+l.length,n+1⟩):=by rw[P];exact if_neg T
 rw[bn T]at f5;clear T;cbv;rw[f5];cbv;rw[av A];refine cr W.out ?_;cbv;refine bZk d7 (λh8 x8 d8=>?_);have U:=W.lt (x8.t (by decide));have y:=B.trans x8;generalize dw u=R3 at *;obtain⟨H,D3⟩:=R3;have d8:nI h8 p D3:=d8;have f6:A .aN .neq H 0=decide (H≠0):=az A ..;by_cases G:H≠0
 .have P:aY ⟨D,s,n⟩ l=(H,⟨D3,s,n⟩):=by rw[P];exact if_pos G
  rw[P]at a;have:=a h8 (y.sup (by decide)) d8 (Q.lt (y.t (by decide)));rw[ak G]at f6;clear a P;cbv;rw[f6];cbv;exact this
 have P:aY ⟨D,s,n⟩ l=(0,⟨D3,s+8+l.length,n+1⟩):=by rw[P];exact if_neg G
 rw[P]at a;rw[bn G]at f6;clear P G;have fG:∀h',dX cJo h h'->nI h' p D3->ID h' j p s2 e->k (.int .i64 0) h':=λh' x d l=>a h' x d (by rw[Fu,eU]at l;exact l);cbv;rw[f6];cbv;rw[av A];cbv;rw[J];have R:∀o,o=bL h8 j (.cells #[.zP p,.int .i64 s2,.int .i64 nz] 294 (0,0))->dX [294] h8 o/\ID o j p s2 nz:=λo I=>by
  subst I;exact⟨gN U.out (by decide),⟨ae⟩⟩
 refine IQ U.out rfl s2 (λo I=>?_);obtain⟨x9,V⟩:=R o I;clear R I;have O:∀h',h'=bL o j (.cells #[.zP p,.int .i64 s2,.int .i64 e] 294 (0,0))->dX [294] o h'/\ID h' j p s2 e:=λh' I=>by
  subst I;exact⟨gN V.out (by decide),⟨ae⟩⟩
 cbv;rw[av A];cbv;refine bZf V.out rfl 1 (λiw qF=>?_);rw[aw]at qF |-;obtain⟨Z,an⟩:=O iw qF;clear O qF;have:=fG iw ((y.sup (by decide)).trans ((x9.trans Z).sup (by decide))) (d8.lt ((x9.trans Z).t (by decide))) an;cbv;exact this
def AT(b:Bool):Int:=if b then 1 else 0
theorem bXO(b:Bool)(a:k (.int .i64 (AT b)) h):Ct 309 [.bool b] h k:=by
 refine cg eQo Tryz.func309 λA c=>?_;cbv;cases b with
 |false=>exact a
 |true=>exact a
def vj(s:ByteArray):Bs:=gM s++fW s
theorem sw(s:ByteArray):(vj s).length<=65537:=by unfold vj gM fW;simp only[cy,wS,yk,eA];omega
def kG(c:jF):Bs:=vj c.name++([u8 c.kind]++[u8 (AT c.null)])
theorem Mz(c:jF):(kG c).length<=65539:=by have:=sw c.name;unfold kG;simp only[cy,wS,yk];omega
def uN(s:tE):Bs:=vj s.name++([u8 (s.bB.length:Int)]++((s.bB.map kG).flatten++(cF s.key++[u8 (AT s.only)])))
theorem gKH(q:Sl 202 bH h (.slice b n c) B)(hn:n<=2^16)(R:nm.size<=2^40)(h2:∀x∈B,x.name.size<=2^40)
 (Y:∀h' j n' c',Le h h'->bt 5 cj h h' (.slice j n' c') (uN ⟨nm,B,key,only⟩)->k (.slice j n' c') h'):
 Ct 215 [.agg #[.string nm,.slice b n c,.int .i64 key,.bool only]] h k:=by
 obtain⟨A,T⟩:=Ar.ex;have e:=q.len;obtain⟨kW,gZ⟩:=q.bound;have P:A .nat n=(B.length:Int):=by rw[T.nat,e];rfl
 have Ci:aZ (A .nat n) n:=⟨by rw[T.nat];rfl⟩;obtain⟨a,E⟩:∃a,a=vj nm++[u8 (B.length:Int)]:=⟨_,rfl⟩;have al:a.length<=65538:=by have:=sw nm;rw[E,cy,qA];omega
 have V:uN ⟨nm,B,key,only⟩=(a++(B.map kG).flatten++cF key)++[u8 (AT only)]:=by rw[E];unfold uN;simp
 rw[V]at Y;clear V;have I:([]++(gM nm++fW nm))++[u8 (A .nat n)]=a:=by rw[P,E];rfl
 obtain⟨J,D⟩:∃J:Nat->((Option Addr×Nat×Nat)×Int)->ad->Prop,∀w g h',J w g h'=(∃i:Nat,aZ g.2 i/\w=n-i/\i<=n/\Le h h'/\bt 5 cj h h' (.slice g.1.1 g.1.2.1 g.1.2.2) (a++((B.take i).map kG).flatten)/\(a++((B.take i).map kG).flatten).length<=2^17*(i+1)):=⟨_,λ_ _ _=>rfl⟩;refine fz eXT A Tryz.func215 ?_;cbv;refine Bj (e1:=5) (l:=[]) Sl.nil (by omega) nm R (λR b1 m1 c1 Z F=>?_);have ab:m1<=65537:=by have:=F.sl.len;rw[np]at this;have h9:=sw nm;unfold vj at h9;omega
 cbv;refine pf F.sl (by omega) _ (λUX K m2 N k2 H=>?_);rw[I]at H;have Q:=Z.trans k2;have dL:J n ((K,m2,N),0) UX:=by
  rw[D];refine⟨0,⟨rfl⟩,rfl,by omega,Q,?_,?_⟩
  .have:=H.base Z;simpa using this
  simp;omega
 clear I F H;cbv;refine aX.go (G:=(Option Addr×Nat×Nat)×Int) (λg=>[(3,.v (.slice g.1.1 g.1.2.1 g.1.2.2)),(16,.v (.int .i64 g.2))]) (λ_=>[(1,[.string nm,.slice b n c,.int .i64 key,.bool only])]) (λw g h'=>J w g h') n ((K,m2,N),0) (by constructor<;>cbv) dL ?_
 intro w g y U;rw[D]at U;cbv;obtain⟨⟨gb,gm,gc⟩,z⟩:=g;obtain⟨i,d,hw,hi,o,f,C⟩:=U;have d:aZ z i:=d;have f:bt 5 cj h y (.slice gb gm gc) (a++((B.take i).map kG).flatten):=f;have nq:=f.sl.len;refine ba (λm=>?_) (λm=>?_)
 .have aU:=d.lt m;obtain⟨x,hx⟩:=cB B i;have Ce:=h2 x (cK hx);have X:∀j m' c' h',Le y h'->bt 5 cj y h' (.slice j m' c') ((a++((B.take i).map kG).flatten)++kG x)->J (n-(i+1)) ((j,m',c'),A .aT .add .i64 z 1) h':=λj m' c' h' l' q'=>by
   rw[D];have W:(a++((B.take i).map kG).flatten)++kG x=a++((B.take (i+1)).map kG).flatten:=by rw[qM,hx];simp
   refine⟨i+1,d.succ (A:=A),rfl,by omega,o.trans l',?_,?_⟩
   .rw[<-W];exact q'.base o
   rw[<-W,cy];have:=Mz x;omega
  have uC:n-(i+1)<w:=by omega
  have xU:(a++((B.take i).map kG).flatten).length<=2^34:=by omega
  have e1:∀l:Bs,((l++(gM x.name++fW x.name))++[u8 x.kind])++[u8 (AT x.null)]=l++kG x:=λl=>by unfold kG vj;simp
  have Nl:=sw x.name;unfold vj at Nl;have ix:=d.ix aU;clear m C D;generalize a++((B.take i).map kG).flatten=L at *;cbv;refine⟨⟨q.bp,ix⟩,?_⟩;cbv;refine(q.mono (o.t _)).load hx d.eq (λcs v=>?_);have v:cs=[.string x.name,.int .i64 x.kind,.bool x.null]:=v;subst v;generalize Tb:x.name=xn at *;generalize Ov:x.kind=xk at *;generalize ag:x.null=xu at *;cbv;refine Bj (e1:=0) f.sl (by omega) xn Ce (λh4 b4 m4 c4 p r=>?_);have u:=r.sl.len;rw[cy]at u;cbv;refine pf r.sl (by omega) xk (λS M m5 O s t=>?_);have Kg:=t.sl.len;rw[cy,cy,qA]at Kg;cbv;refine bXO xu ?_;cbv;refine pf t.sl (by omega) _ (λh6 b6 m6 c6 k6 q6=>?_);have iD:=X b6 m6 c6 h6 ((p.trans s).trans k6) (by rw[<-e1];exact q6.base (p.trans s));clear X;cbv;refine⟨n-(i+1),((_,_,_),A .aT .add .i64 z 1),uC,by constructor<;>cbv,iD⟩
 have lJ:=d.ge m;have fC:i=n:=by omega
 subst fC;rw[show B.take i=B by rw[e];exact Bk]at f C;have xU:(a++(B.map kG).flatten).length<=2^34:=by omega
 clear m D C;generalize a++(B.map kG).flatten=L at *;have nq:=f.sl.len;cbv;refine Nc f.sl (by omega) key (λh4 b4 m4 c4 p r=>?_);have u:=r.sl.len;rw[cy,bY]at u;cbv;refine bXO only ?_;cbv;refine pf r.sl (by omega) _ (λS M m5 O s t=>?_);have:=Y S M m5 O ((o.trans p).trans s) (t.base (o.trans p));cbv;exact this
def cC(s:St):Bool×St:=(decide ((aO 1 s).1=1),if(aO 1 s).1>1 then none else(aO 1 s).2)
theorem sY(q:gJ h p s)(a:∀h' x,x=((aO 1 s).1:Int)->Kp [p] h h'->gJ h' p (aO 1 s).2->k (.int .i64 x) h'):
 Ct 142 [.zP p] h k:=eKd q λh' b c=>a h' _ rfl b c
theorem bQl(q:gJ h p s)(a:∀h' x,x=IntKind.i64.wrap ((aO 8 s).1:Int)->Kp [p] h h'->gJ h' p (aO 8 s).2->k (.int .i64 x) h'):
 Ct 258 [.zP p] h k:=bQm q λh' b c=>a h' _ rfl b c
theorem Bi(q:gJ h p s)(a:∀h' x,x=strOf (bm s).1->Kp [p] h h'->gJ h' p (bm s).2->k (.string x) h'):
 Ct 263 [.zP p] h k:=dKi q λh' b c=>a h' _ rfl b c
theorem ZV(q:gJ h p s)(a:∀h',Kp [p] h h'->gJ h' p (cC s).2->k (.bool (cC s).1) h'):
 Ct 337 [.zP p] h k:=by
 have T:cC s=(decide ((aO 1 s).1=1),if(aO 1 s).1>1 then none else(aO 1 s).2):=rfl;refine cg dKQ Tryz.func337 λA m=>?_;cbv;refine sY q (λg x hx d e=>?_);have f:A .aN .gtr x 1=decide ((aO 1 s).1>1):=by rw[bC A];exact decide_eq_decide.2 (by omega)
 have b:A .aN .eql x 1=decide ((aO 1 s).1=1):=by rw[au A];exact decide_eq_decide.2 (by omega)
 clear hx;by_cases c:(aO 1 s).1>1
 .rw[if_pos c]at T;rw[T]at a;rw[ak c]at f;cbv;rw[f];cbv;refine RJ e 10 (λi j l=>?_);have:=a i (d.trans j) l;cbv;rw[b];exact this
 rw[if_neg c]at T;rw[T]at a;rw[bn c]at f;have:=a g d e;cbv;rw[f];cbv;rw[b];exact this
def xX(s:St):jF×St:=(⟨strOf (bm s).1,((aO 1 (bm s).2).1:Int),(cC (aO 1 (bm s).2).2).1⟩,(cC (aO 1 (bm s).2).2).2)
def fP:Nat->St->List jF×St
 |0,s=>([],s)
 |n+1,s=>((xX s).1::(fP n (xX s).2).1,(fP n (xX s).2).2)
def lj(nm:ByteArray)(c:List jF×St):Option tE:=
 if(cC (aO 8 c.2).2).2=some []/\eE ⟨nm,c.1,IntKind.i64.wrap ((aO 8 c.2).1:Int),(cC (aO 8 c.2).2).1⟩=0 then
  some ⟨nm,c.1,IntKind.i64.wrap ((aO 8 c.2).1:Int),(cC (aO 8 c.2).2).1⟩else none
def ei(b:Bs):Option tE:=
 if(aO 1 (bm (some b)).2).1>6 then lj (strOf (bm (some b)).1) (fP 0 none)
 else lj (strOf (bm (some b)).1) (fP (aO 1 (bm (some b)).2).1 (aO 1 (bm (some b)).2).2)
theorem gJ.mt(q:gJ h p s)(l:cO [411,5] h h'):gJ h' p s:=by obtain⟨r,a,b⟩:=q.out;obtain⟨bb,n,c,d,g,sl,hd⟩:=a.out;exact⟨r,⟨bb,n,c,d,l _ _ _ _ (by decide) g,sl.mono (l.sub),hd⟩,b⟩
theorem cZx{l:Bs}(q:Sl e1 cj h (.slice b m c) l)
 (fM:ei l=none->∀h' (e:Int),Le h h'->e≠0->k (.tuple #[.agg #[.string ⟨#[]⟩,.slice none 0 0,.int .i64 0,.bool false],.int .i64 e]) h')
 (fG:∀s h' b n c,ei l=some s->Le h h'->Sl 202 bH h' (.slice b n c) s.bB->k (.tuple #[.agg #[.string s.name,.slice b n c,.int .i64 s.key,.bool s.only],.int .i64 0]) h'):
 Ct 262 [.slice b m c] h k:=by
 obtain⟨A,hA⟩:=Ar.ex;have E:FV 4 (aO 1 (bm (some l)).2).2=none:=rfl;have P:ei l=if(aO 1 (bm (some l)).2).1>6 then lj (strOf (bm (some l)).1) (fP 0 none)
  else lj (strOf (bm (some l)).1) (fP (aO 1 (bm (some l)).2).1 (aO 1 (bm (some l)).2).2):=rfl
 refine Cq A [false,false,false,false,true] (aj eXf.aw eXf.bq) Tryz.func262 rfl (by kernel_rfl) ?_;cbv;refine UE q (λo p B l1 q1=>?_);cbv;refine Bi q1 (λh2 r qE k2 q2=>?_);have l2:Le h h2:=l1.aV (bs:=[p]) (by simpa using B) k2;rw[<-qE]at P;generalize bm (some l)=U at *;obtain⟨nm,s1⟩:=U;have q2:gJ h2 p s1:=q2;cbv;refine sY q2 (λh3 nz K k3 q3=>?_);have l3:Le h h3:=l2.aV (bs:=[p]) (by simpa using B) k3;have P:ei l=if(aO 1 s1).1>6 then lj r (fP 0 none)else lj r (fP (aO 1 s1).1 (aO 1 s1).2):=P
 have E:FV 4 (aO 1 s1).2=none:=E;generalize aO 1 s1=R2 at *;obtain⟨S,s2⟩:=R2;have q3:gJ h3 p s2:=q3;have K:nz=(S:Int):=K;have f1:A .aN .gtr nz 6=decide (S>6):=by rw[bC A];exact decide_eq_decide.2 (by omega)
 have P:ei l=if S>6 then lj r (fP 0 none)else lj r (fP S s2):=P
 obtain⟨C,N⟩:∃C:Int->ad->Prop,∀z o,C z o=(∃a y,aZ z a/\a<=6/\Le h o/\gJ o p y/\ei l=lj r (fP a y)):=⟨_,λ_ _=>rfl⟩;clear qE;cbv;refine ld.go (G:=Int) (λz=>[(6,.v (.int .i64 z))]) (λ_=>[(2,[.string ⟨#[]⟩,.slice none 0 0,.int .i64 0,.bool false]),(5,[.string r,.slice none 0 0,.int .i64 0,.bool false])]) C ?_ ?_
 .cbv;rw[f1];by_cases j:S>6
  .rw[if_pos j]at P;have hC:∀h',Kp [p] h3 h'->gJ h' p none->C 0 h':=λh' k' q'=>by
    rw[N];exact⟨0,none,⟨rfl⟩,by omega,l3.aV (bs:=[p]) (by simpa using B) k',q',P⟩
   rw[ak j];clear N P f1 fM fG;cbv;refine RJ q3 4 (λh4 k4 q4=>?_);have hC:=hC h4 k4 q4;cbv;refine⟨0,by constructor<;>cbv,hC⟩
  rw[if_neg j]at P;have hC:C nz h3:=by rw[N];exact⟨S,s2,⟨K⟩,by omega,l3,q3,P⟩
  rw[bn j];clear N P f1 fM fG;cbv;refine⟨nz,by constructor<;>cbv,hC⟩
 intro z h4 j;rw[N]at j;obtain⟨a,y,ab,QJ,l4,q4,P⟩:=j;clear N f1 E q1 q2 q3 k2 k3 l1 l2 l3;obtain⟨J,Y⟩:∃J:Nat->((Option Addr×Nat×Nat)×Int)->ad->Prop,∀w g h',J w g h'=(∃i si d,aZ g.2 i/\w=a-i/\i<=a/\Le h h'/\gJ h' p si/\bt 202 bH h h' (.slice g.1.1 g.1.2.1 g.1.2.2) d/\d.length=i/\d++(fP (a-i) si).1=(fP a y).1/\(fP (a-i) si).2=(fP a y).2):=⟨_,λ_ _ _=>rfl⟩;have dL:J a ((none,0,0),0) h4:=by rw[Y];exact⟨0,y,[],⟨rfl⟩,rfl,by omega,l4,q4,bt.nil,rfl,rfl,rfl⟩
 cbv;refine aX.go (G:=(Option Addr×Nat×Nat)×Int) (λg=>[(20,.v (.int .i64 g.2))]) (λg=>[(2,[.string ⟨#[]⟩,.slice none 0 0,.int .i64 0,.bool false]),(5,[.string r,.slice g.1.1 g.1.2.1 g.1.2.2,.int .i64 0,.bool false])]) (λw g h'=>J w g h') a ((none,0,0),0) (by constructor<;>cbv) dL ?_
 .intro w g h5 hI;rw[Y]at hI;cbv;obtain⟨⟨gb,O,gc⟩,T⟩:=g;obtain⟨i,si,d,gu,hw,hi,l5,q5,W,xT,I,H⟩:=hI;have gu:aZ T i:=gu;have W:bt 202 bH h h5 (.slice gb O gc) d:=W;have nq:=W.sl.len;have f2:A .aN .lss T z=decide (i<a):=by rw[aR A,gu.eq,ab.eq];exact decide_eq_decide.2 (by omega)
  rw[f2];by_cases j:i<a
  .have V:fP (a-i) si=((xX si).1::(fP (a-(i+1)) (xX si).2).1,(fP (a-(i+1)) (xX si).2).2):=by
    have:a-i=(a-(i+1))+1:=by omega
    rw[this];rfl
   rw[V]at I H;have X:∀h' f m' c',m'=O+1->Le h h'->gJ h' p (xX si).2->bt 202 bH h h' (.slice f m' c') (d++[(xX si).1])->J (a-(i+1)) ((f,m',c'),A .aT .add .i64 T 1) h':=λh' f m' c' e l' q' f=>by
    rw[Y];refine⟨i+1,_,_,gu.succ (A:=A),rfl,by omega,l',q',f,?_,?_,H⟩
    .rw[cy,xT];rfl
    rw[<-I];simp
   have aU:a-(i+1)<w:=by omega
   rw[ak j];have Z:xX si=(⟨strOf (bm si).1,((aO 1 (bm si).2).1:Int),(cC (aO 1 (bm si).2).2).1⟩,(cC (aO 1 (bm si).2).2).2):=rfl;rw[Z]at X;clear Y dL V Z I H f2 fM fG P j;cbv;refine Bi q5 (λQ nx gG k6 L=>?_);have t6:cO [202] h5 Q:=q5.lt k6 (by decide);have l6:Le h Q:=l5.aV (bs:=[p]) (by simpa using B) k6;rw[<-gG]at X;generalize bm si=U at *;obtain⟨ao,s3⟩:=U;have L:gJ Q p s3:=L;cbv;refine sY L (λu kx pd k7 x=>?_);have t7:cO [202] Q u:=L.lt k7 (by decide);have l7:Le h u:=l6.aV (bs:=[p]) (by simpa using B) k7;have X:∀h' f m' c',m'=O+1->Le h h'->gJ h' p (cC (aO 1 s3).2).2->bt 202 bH h h' (.slice f m' c') (d++[⟨nx,((aO 1 s3).1:Int),(cC (aO 1 s3).2).1⟩])->J (a-(i+1)) ((f,m',c'),A .aT .add .i64 T 1) h':=X;have pd:kx=((aO 1 s3).1:Int):=pd;rw[<-pd]at X;generalize aO 1 s3=R2 at *;obtain⟨nk,s4⟩:=R2;have x:gJ u p s4:=x;cbv;refine ZV x (λt k8 M=>?_);have t8:cO [202] u t:=x.lt k8 (by decide);have l8:Le h t:=l7.aV (bs:=[p]) (by simpa using B) k8;have X:∀h' f m' c',m'=O+1->Le h h'->gJ h' p (cC s4).2->bt 202 bH h h' (.slice f m' c') (d++[⟨nx,kx,(cC s4).1⟩])->J (a-(i+1)) ((f,m',c'),A .aT .add .i64 T 1) h':=X;generalize cC s4=R3 at *;obtain⟨tx,s5⟩:=R3;have M:gJ t p s5:=M;have b8:=W.mono ((t6.trans t7).trans t8);cbv;intro n9 R nj e9;have D:Le t R:=by rw[e9];exact Le.set nj
   have g9:=(congrFun e9 n9).trans ae;have q9:Sl 202 bH R (.slice (zsA n9) 1 1) [⟨nx,kx,tx⟩]:=bf (s:=bH) g9 rfl;clear e9;cbv;refine(b8.mono (D.t _)).append q9 (by decide) rfl (by decide) (by omega) (l8.trans D) (λm' f c' iw GS gB al an Ed=>?_);have iD:=X iw f m' c' GS gB ((M.le D).mt (al _ (by decide))) Ed;clear X;cbv;refine⟨a-(i+1),((f,m',c'),A .aT .add .i64 T 1),aU,by constructor<;>cbv,iD⟩
  have Tq:a-i=0:=by omega
  rw[Tq]at I H;have I:d=(fP a y).1:=by rw[<-I];simp[fP]
  have H:si=(fP a y).2:=H;have V:fP a y=(d,si):=by rw[I,H]
  rw[V]at P;rw[bn j];clear Y dL V I H f2 j;cbv;refine(Is W.sl).mono (λv Q hR=>?_);obtain⟨l6,b6,c6,rfl,s6⟩:=hR;have L:=q5.le l6;have P:ei l=if(cC (aO 8 si).2).2=some []/\eE ⟨r,d,IntKind.i64.wrap ((aO 8 si).1:Int),(cC (aO 8 si).2).1⟩=0 then
 some ⟨r,d,IntKind.i64.wrap ((aO 8 si).1:Int),(cC (aO 8 si).2).1⟩else none:=P
  cbv;refine bQl L (λu ky Ys k7 x=>?_);have t7:cO [202] Q u:=L.lt k7 (by decide);have l7:Le h u:=(l5.trans l6).aV (bs:=[p]) (by simpa using B) k7;rw[<-Ys]at P;generalize aO 8 si=U at *;obtain⟨kn,s7⟩:=U;have x:gJ u p s7:=x;cbv;refine ZV x (λt k8 M=>?_);have t8:cO [202] u t:=x.lt k8 (by decide);have l8:Le h t:=l7.aV (bs:=[p]) (by simpa using B) k8;have s8:Sl 202 bH t (.slice b6 O c6) d:=s6.sl.mono (t7.trans t8);have P:ei l=if(cC s7).2=some []/\eE ⟨r,d,ky,(cC s7).1⟩=0 then some ⟨r,d,ky,(cC s7).1⟩else none:=P
  generalize cC s7=R3 at *;obtain⟨tx,s9⟩:=R3;have M:gJ t p s9:=M;have P:ei l=if s9=some []/\eE ⟨r,d,ky,tx⟩=0 then some ⟨r,d,ky,tx⟩else none:=P
  cbv;refine Nd M (λex F=>?_);have g1:A .aN .eql ex 0=decide (ex=0):=au A ..;have g2:A .aN .neq ex 0=decide (ex≠0):=az A ..;by_cases h0:ex=0
  .have R:=F.1 h0;rw[ak h0]at g1;clear g2 F;cbv;rw[g1];cbv;refine(DY s8).mono (λv iw hR=>?_);obtain⟨gB,ez,rfl,ag⟩:=hR;rw[<-ag]at P;have g3:A .aN .neq ez 0=decide (ez≠0):=az A ..;by_cases o:ez=0
   .rw[if_pos ⟨R,o⟩]at P;have:=fG _ iw b6 O c6 P (l8.trans gB) (s8.mono (gB.t _));have g4:decide (ez≠0)=false:=bn (λg=>g o);rw[g4]at g3;cbv;rw[g3];cbv;exact this
   rw[if_neg (λg=>o g.2)]at P;have:=fM P iw ez (l8.trans gB) o;rw[ak o]at g3;cbv;rw[g3];cbv;exact this
  have R:¬s9=some []:=λg=>h0 (F.2 g);rw[if_neg (λg=>R g.1)]at P;have:=fM P t ex l8 h0;rw[bn h0]at g1;rw[ak h0]at g2;cbv;rw[g1];cbv;rw[g2];cbv;exact this
section
variable {P:Program}
theorem SE(o:jr P f fn)(e:Extern.find fn=some (Extern.Atomic.loadT .ptr)){x:Option Addr}(h:w.cell? a=some (.pointer x)):
 (callFunc f #[.pointer (some a)]).run P w=.ok (.value (.pointer x)) w:=by
 rw[run_callFunc_extern o.hf o.vY o.hb o.hn e];change (Sem.run P (do Extern.Atomic.read .ptr (<-asAddr (.pointer (some a)))) w).andThen _=_;simp[Extern.Atomic.read,asAddr,h,Result.andThen]
theorem NK(o:jr P f fn)(e:Extern.find fn=some Extern.Atomic.storeT){u:Value}(h:w.cell? a=some u)(z:w.frozen? a=false):
 (callFunc f #[.pointer (some a),.pointer y]).run P w=.ok (.value (.tuple #[])) (w.setCell a (.pointer y)):=by
 rw[run_callFunc_extern o.hf o.vY o.hb o.hn e];change (Sem.run P (do
  store (<-asAddr (.pointer (some a))) (.pointer y) .atomic
  pure Extern.Atomic.none_) w).andThen _=_
 simp[asAddr,h,z,run_store P w a (.pointer y) .atomic rfl,Result.andThen,Extern.Atomic.none_]
theorem TU(o:jr P f fn)(e:Extern.find fn=some (Extern.Atomic.loadT .ptr)){x:Option Addr}(c:oh h a (.pointer x))(d:k (.pointer x) h):
 fw (λ_=>P) (λ_=>Cs f [.pointer (some a)]) h k:=
 fw.ext λw b=>⟨_,w,h,SE o e (c.cell b).1,d,bT.refl b⟩
theorem Pg(o:jr P f fn)(j:Extern.find fn=some Extern.Atomic.storeT){v:Value}(b:oh h a v)
 (l:∀c e h',h a.block=some (.cells c e (0,0))->h'=bL h a.block (.cells (c.setIfInBounds a.off (.pointer y)) e (0,0))->k (.tuple #[]) h'):
 fw (λ_=>P) (λ_=>Cs f [.pointer (some a),.pointer y]) h k:=
 fw.ext λw d=>by
  obtain⟨h',g,i⟩:=b.set (.pointer y) (k:=k (.tuple #[])) l d;exact⟨_,_,h',NK o j (b.cell d).1 (b.cell d).2,g,i⟩
theorem aXI{s d t:TypeId}(f:P.underlying s=some (.pointer t))(hd:P.underlying d=some .unsafePointer)(g:(P.info? t).map (λi=>decide (i.size=0))=some false){v:Value}(c:oh h a v)(e:k (.pointer (some a)) h):
 fw (λ_=>P) (λ_=>Go.convert s d (.pointer (some a))) h k:=
 ⟨λw b=>⟨_,w,h,run_convert_to_unsafe f hd g (c.cell b).1,e,bT.refl b⟩⟩
theorem Oe{u:Nat}(h:P.cellsOf u≠0)(n:1<=c):liesAt P P.depth u c 0 u 1=true:=by have hd:P.depth=(2*(P.types.size+Made.depth)+1)+1:=rfl;rw[hd];simp only[liesAt,kQL];left;rw[hd];simp[rowAt,h,n,sameLayout]
theorem aXJ{s d u z:Nat}(m:P.underlying s=some .unsafePointer)(hd:P.underlying d=some (.pointer u))(i:P.cellsOf u=z)(n:0<z){b:Nat}{c:Array Value}{fr:Nat×Nat}(g:h b=some (.cells c u fr))(j:c.size=z)(l:k (.zP b) h):
 fw (λ_=>P) (λ_=>Go.convert s d (.zP b)) h k:=by
 refine⟨λw e=>⟨.zP b,w,h,?_,l,bT.refl e⟩⟩;have f:=e _ _ g;have K:w.shape? b=some (u,c.size):=by unfold World.shape?;rw[f]
 have Z:liesAt P P.depth u (c.size / P.cellsOf u) 0 u 1=true:=Oe (by omega) (by rw[i,j,Nat.div_self n];exact kB 1);obtain⟨t,O,J⟩:∃t,P.info? u=some t/\t.size=z:=by
  unfold Program.cellsOf at i;cases a:P.info? u with
  |none=>rw[a]at i;simp at i;omega
  |some t=>rw[a]at i;exact⟨t,rfl,by simpa using i⟩
 simp[convert,Conv.unsafePointer,Conv.seenAt,viewAt,variablesAt,sizeOf,typeInfo,run_underlying m,run_underlying hd,O,J,K,Z,Result.andThen]
end
theorem Ky:Tryz.prog.underlying 154=some .unsafePointer:=by kernel_rfl
theorem KM:Tryz.prog.underlying 151=some (.pointer 150):=by kernel_rfl
theorem Wa:Tryz.prog.cellsOf 150=8:=by kernel_rfl
theorem dJF:jr Tryz.prog 109 Tryz.f109:=⟨Tryz.func109,by kernel_rfl,by kernel_rfl,by kernel_rfl⟩
theorem dJE:jr Tryz.prog 120 Tryz.f120:=⟨Tryz.func120,by kernel_rfl,by kernel_rfl,by kernel_rfl⟩
theorem yJ{b o x:Nat}(q:oh h ⟨b,o,none⟩ (.zP x)){c:List Value}(g:h x=zcL 150 c)(a:c.length=8)(d:k (.zP x) h):Ct 43 [.pointer (some ⟨b,o,none⟩)] h k:=by refine cg hKi Tryz.func43 λA e=>?_;cbv;rw[av A];refine TU dJF (by kernel_rfl) q ?_;cbv;refine aXJ Ky KM Wa (by decide) g a ?_;cbv;exact d
theorem zE{b o ty:Nat}{x:Value}{c:List Value}(g:h b=zcL ty c)(hx:c[o]? =some x){y:Nat}{v:Value}(q:oh h ⟨y,0,none⟩ v)(f:∀h',h'=bL h b (.cells (c.set o (.zP y)).toArray ty (0,0))->k (.tuple #[]) h'):Ct 49 [.pointer (some ⟨b,o,none⟩),.zP y] h k:=by refine cg hKe Tryz.func49 λA i=>?_;cbv;rw[av A];refine aXI KM Ky (by kernel_rfl) q ?_;cbv;refine Pg dJE (by kernel_rfl) (cm g hx) (λc' e a e1 d=>?_);have u:Up h b o (.zP y) a:=⟨c',e,e1,d⟩;have:=f a (u.exp g);cbv;exact this
theorem EI(l:Bs):(strOf l).size=l.length:=by unfold strOf;show(Array.size _)=_;simp
def fv(s:tE):Bs:=[u8 1]++vj (strOf (uN s))
def fo(nm:ByteArray):Bs:=[u8 2]++vj nm
theorem bQu(nm:ByteArray)(n:nm.size<=2^40)(c:∀h' b n' c',Le h h'->bt 5 cj h h' (.slice b n' c') (fo nm)->k (.slice b n' c') h'):
 Ct 170 [.string nm] h k:=by
 have D:fo nm=([]++[u8 2])++(gM nm++fW nm):=rfl;rw[D]at c;clear D;refine cg eZH Tryz.func170 λA s=>?_;cbv;refine pf (l:=[]) Sl.nil (by omega) 2 (λr o t p d q=>?_);have a:=q.sl.len;rw[np,qA]at a;cbv;refine Bj (e1:=0) q.sl (by omega) nm n (λg e m f i j=>?_);have:=c g e m f (d.trans i) (j.base d);cbv;exact this
theorem cZp(q:Sl 202 bH h (.slice b n c) B)(t:n<=2^16)(p:nm.size<=2^40)(r:∀x∈B,x.name.size<=2^40)
 (i:∀h' g n' c',Le h h'->bt 5 cj h h' (.slice g n' c') (fv ⟨nm,B,key,only⟩)->k (.slice g n' c') h'):
 Ct 94 [.agg #[.string nm,.slice b n c,.int .i64 key,.bool only]] h k:=by
 have D:fv ⟨nm,B,key,only⟩=([]++[u8 1])++(gM (strOf (uN ⟨nm,B,key,only⟩))++fW (strOf (uN ⟨nm,B,key,only⟩))):=rfl;rw[D]at i;clear D;refine cg hJu Tryz.func94 λA H=>?_;cbv;refine pf (l:=[]) Sl.nil (by omega) 1 (λF y J C d j=>?_);have a:=j.sl.len;rw[np,qA]at a;cbv;refine gKH (q.mono (d.t _)) t p r (λG z K E e f=>?_);have I:=EI (uN ⟨nm,B,key,only⟩);generalize uN ⟨nm,B,key,only⟩=S at *;have N:=f.sl.len;have Q:=f.sl.bound;cbv;refine rh f.sl ?_;cbv;refine Bj (e1:=0) (j.sl.mono (e.t _)) (by omega) (strOf S) (by omega) (λs m v o u w=>?_);have:=i s m v o ((d.trans e).trans u) (w.base (d.trans e));cbv;exact this
structure pC(h:ad)(r p:Nat)(bad:Bool):Prop where
 out:∃d,h r=zcL 299 [.zP p,.int .u32 d,.int .i32 0,.int .u32 0,.bool bad]/\((bad=false/\d=0)\/(bad=true/\d=1))
theorem pC.lt{b:Bool}(q:pC h r p b)(l:cO [299] h h'):pC h' r p b:=by obtain⟨d,g,hd⟩:=q.out;exact⟨d,l _ _ _ _ (by decide) g,hd⟩
theorem pC.le{b:Bool}(q:pC h r p b)(l:Le h h'):pC h' r p b:=q.lt (l.t _)
theorem dQM{b:Nat}{t:Nat}{s1 s2 s3 s y:Value}(g:h b=some (.cells #[.zP c] t (0,0)))
 (a:h c=zcL 299 [s1,s2,s3,s,y])  (e:k (.tuple #[]) (bL h c (.cells #[s1,s2,s3,s,.bool true] 299 (0,0)))):
 Ct 338 [.zP b] h k:=by
 refine cg dKP Tryz.func338 λA f=>?_;cbv;refine cr g ?_;cbv;rw[av A];refine ju a (by simp) (λh' d=>?_);subst d;cbv;exact e
theorem pa{b:Bool}(q:pC h r p b)(s:Bool)(c:∀h',Kp [r] h h'->pC h' r p (b|| !s)->k (.tuple #[]) h'):
 Ct 264 [.zP r,.bool s] h k:=by
 obtain⟨d,g,hd⟩:=q.out;refine cg eXd Tryz.func264 λA o=>?_;cbv;intro i a z e1;have l:Le h a:=by rw[e1];exact Le.set z
 have j:a i=some (.cells #[.zP r] 295 (0,0)):=by rw[e1];exact ae
 have m:=l _ _ g;have t:i≠r:=λe=>by rw[e,g]at z;cases z
 clear e1;cbv;rw[o.not];cases s with
 |true=>have:=c a (l.kp _) (by rw[show(b|| !true)=b from by simp];exact q.le l);cbv;exact this
 |false=>
  rw[show(b|| !false)=true from by simp]at c;cbv;refine cr j ?_;cbv;rw[av A];rcases hd with⟨he,rfl⟩|⟨he,rfl⟩
  .refine cKh (f:=338) (fl:=[]) (cl:=[.zP i]) m rfl rfl (λn u=>?_);have X:n i=some (.cells #[.zP r] 295 (0,0)):=by rw[u,ck t];exact j
   have K:=(congrFun u r).trans ae;refine dQM X K ⟨rfl,_,ae,rfl,rfl,?_⟩;rw[u,ek,ek];have kp:Kp [r] a (bL a r (.cells #[.zP p,.int .u32 1,.int .i32 0,.int .u32 0,.bool true] 299 (0,0))):=Kp.set (by simp);have:=c _ ((l.kp _).trans kp) ⟨1,ae,.inr ⟨rfl,rfl⟩⟩;cbv;exact this
  refine(dJT (cm m rfl)).mono (λv w hR=>?_);obtain⟨rfl,rfl⟩:=hR;cbv;exact c _ (l.kp _) (by rw[<-he];exact q.le l)
theorem pC.lk{b:Bool}(q:pC h r p b)(k:Kp [r] h h'){tys:List Nat}(e:299∉tys):cO tys h h':=by obtain⟨d,g,-⟩:=q.out;exact Fk k g e
abbrev yG:List Nat:=[61,202,46,45,79,161,183,253]
theorem fE.ls{v:Value}(q:fE h v d)(l:cO yG h h'):fE h' v d:=by obtain⟨_,_,_,_,_,_,_,_,_,_,_,_,w,rfl,a,b,c,e,f⟩:=q.out;exact⟨_,_,_,_,_,_,_,_,_,_,_,_,w,rfl,a.mono (l.sub),b.mono (l.sub),c.mono (l.sub),e.mono (l.sub),f⟩
structure xZ(h:ad)(x:Nat)(d:DB)(L:Value×Value×Value×Value):Prop where
 out:∃b1 n1 c1 b2 n2 c2 b3 n3 c3 b4 n4 c4,h x=zcL 150 [.slice b1 n1 c1,.slice b2 n2 c2,.slice b3 n3 c3,.slice b4 n4 c4,L.1,L.2.1,L.2.2.1,L.2.2.2]/\
  fE h (.agg #[.slice b1 n1 c1,.slice b2 n2 c2,.slice b3 n3 c3,.slice b4 n4 c4]) d
theorem xZ.lt{x:Nat}(q:xZ h x d L)(l:cO (150::yG) h h'):xZ h' x d L:=by obtain⟨b,n,f,a,m,i,c,o,j,e,p,k,g,r⟩:=q.out;exact⟨b,n,f,a,m,i,c,o,j,e,p,k,l _ _ _ _ (by decide) g,r.ls (l.sub)⟩
theorem xZ.le{x:Nat}(q:xZ h x d L)(l:Le h h'):xZ h' x d L:=q.lt (l.t _)
theorem _root_.Go.Sx.Kp.up{bs x:List Nat}(k:Kp bs h h')(s:∀b∈bs,b∈x):Kp x h h':=λb o a n=>k b o a (λm=>n (s b m))
def Vj:tE:=⟨⟨#[]⟩,[],0,false⟩
def ou(d:DB)(s:St):DB×Bool×St:=match ei (bm s).1 with
 |none=>((cf d Vj).1,true,(bm s).2)
 |some x=>((cf d x).1,decide ((cf d x).2≠0),(bm s).2)
theorem BG(s:St):(bm s).1.length<65536:=by have h:=sy (aO 2 s).1 (aO 2 s).2;have a:=xi 2 s;unfold bm;omega
theorem Af(l:Bs):kJ (strOf l)=l:=by unfold kJ strOf;simp
theorem aQk{l:Bs}(q:Sl e1 cj h (.slice b m c) l)
 (a:∀h' s b n c (e:Int),Le h h'->Sl 202 bH h' (.slice b n c) s.bB->(ei l=none/\s=Vj/\e≠0\/ei l=some s/\e=0)->k (.tuple #[.agg #[.string s.name,.slice b n c,.int .i64 s.key,.bool s.only],.int .i64 e]) h'):
 Ct 262 [.slice b m c] h k:=
 cZx q (λp h' e l d=>a h' Vj none 0 0 e l Sl.nil (.inl ⟨p,rfl,d⟩)) (λs h' b n c p l q=>a h' s b n c 0 l q (.inr ⟨p,rfl⟩))
theorem cZn{x:Nat}{t:St}{b:Bool}(qx:xZ h x d L)(qr:pC h r p b)(v:gJ h p t)(sm:Small d)
 (n:∀h',Kp [x,r,p] h h'->xZ h' x (ou d t).1 L->pC h' r p (b||(ou d t).2.1)->gJ h' p (ou d t).2.2->k (.tuple #[]) h'):
 Ct 143 [.zP x,.zP r] h k:=by
 obtain⟨A,hA⟩:=Ar.ex;obtain⟨dr,gr,Ib⟩:=qr.out;have T:ou d t=match ei (bm t).1 with
  |none=>((cf d Vj).1,true,(bm t).2)
  |some x=>((cf d x).1,decide ((cf d x).2≠0),(bm t).2):=rfl
 have U:(strOf (bm t).1).size<=2^40:=by rw[EI];have:=BG t;omega
 have mY:A .aN .eql 0 0=true:=by rw[au A];rfl
 refine fz aKS A Tryz.func143 ?_;cbv;rw[av A];refine cr gr ?_;cbv;refine Bi v (λR nx G q u=>?_);have x1:Kp [x,r,p] h R:=q.up (by simp);have m:=qx.lt (v.lt q (by decide));have EV:=qr.lt (v.lt q (by decide));rw[<-G]at U;have V:kJ nx=(bm t).1:=by rw[G,Af]
 rw[<-V]at T;generalize bm t=R1 at *;obtain⟨tx,s1⟩:=R1;have u:gJ R p s1:=u;clear G V;cbv;refine wY U (λn2 c2 m2 h2 zN eU l q2=>?_);cbv;refine aQk q2 (λh3 s sb sn sc e g q3 X=>?_);have T:ou d t=((cf d s).1,(!decide (e=0))||decide ((cf d s).2≠0),s1):=by
  rcases X with⟨o,rfl,he⟩|⟨o,he⟩
  .rw[o]at T;rw[bn he];exact T
  rw[o]at T;rw[ak he];exact T
 clear X;have Ja:=m.le (l.trans g);have j:=EV.le (l.trans g);have NT:=u.le (l.trans g);have x3:=x1.trans ((l.trans g).kp _);have ge:A .aN .eql e 0=decide (e=0):=au A ..;generalize decide (e=0)=t1 at *;obtain⟨nm,N,key,only⟩:=s;cbv;rw[ge];refine pa j t1 (λh4 f pQ=>?_);have x4:=x3.trans (f.up (by simp));have tg:=Ja.lt (j.lk f (by decide));have K:=NT.mt (j.lk f (by decide));have q4:=q3.mono (j.lk f (by decide));obtain⟨b1,n1,c1,b2,nS,gv,b3,n3,c3,b4,n4,c4,tC,Z⟩:=tg.out;cbv;rw[av A];refine cr tC ?_;cbv;refine Cx Z q4 sm (D:=cf d ⟨nm,N,key,only⟩) rfl (λh5 P vR O Q H I Y qJ W B E uV i M=>?_);generalize cf d ⟨nm,N,key,only⟩=C at *;obtain⟨z,c⟩:=C;have T:ou d t=(z,!t1||decide (c≠0),s1):=T;have fe:A .aN .eql c 0=decide (c=0):=au A ..;have zR:((b|| !t1)|| !decide (c=0))=(b||(!t1||decide (c≠0))):=by simp[Bool.or_assoc]
 rw[T]at n;clear T;have zI:=pQ.le i;have x5:=x4.trans (i.kp _);have Ii:=i _ _ tC;have M:fE h5 (.agg #[.slice P vR O,.slice Q H I,.slice Y qJ W,.slice B E uV]) z:=M;cbv;rw[fe];refine pa zI (decide (c=0)) (λS k6 xL=>?_);rw[zR]at xL;have x6:=x5.trans (k6.up (by simp));have w:=zI.lk k6 (tys:=150::411::5::yG) (by decide);have F:=w _ _ _ _ (by decide) Ii;have J:=(K.le i).mt (w.sub);have WT:=M.ls (w.sub);have fin:∀h',h'=bL S x (.cells #[.slice P vR O,.slice Q H I,.slice Y qJ W,.slice B E uV,L.1,L.2.1,L.2.2.1,L.2.2.2] 150 (0,0))->k (.tuple #[]) h':=λh' a=>by
  have y:dX [150] S h':=by rw[a];exact gN F (by decide)
  exact n h' (x6.trans (by rw[a];exact Kp.set (by simp))) ⟨_,_,_,_,_,_,_,_,_,_,_,_,by rw[a];exact ae,WT.ls (y.t (by decide))⟩ (xL.lt (y.t (by decide))) (J.mt (y.t (by decide)))
 clear n zR;cbv;rw[av A];refine ju F (by simp) (λh' a=>?_);have:=fin h' a;cbv;exact this
def kE(d:DB)(s:St):DB×Bool×St:=((eD d (strOf (bm s).1)).1,decide ((eD d (strOf (bm s).1)).2≠0),(bm s).2)
theorem eJY{x:Nat}{b:Bool}(qx:xZ h x d L)(R:pC h r p b)(P:gJ h p s)
 (e:∀h',Kp [x,r,p] h h'->xZ h' x (kE d s).1 L->pC h' r p (b||(kE d s).2.1)->gJ h' p (kE d s).2.2->k (.tuple #[]) h'):
 Ct 144 [.zP x,.zP r] h k:=by
 obtain⟨dr,gr,Ib⟩:=R.out;obtain⟨b1,n1,c1,b2,nS,gv,b3,n3,c3,b4,n4,c4,J,f⟩:=qx.out;have T:kE d s=((eD d (strOf (bm s).1)).1,decide ((eD d (strOf (bm s).1)).2≠0),(bm s).2):=rfl;refine cg aKR Tryz.func144 λA hA=>?_;cbv;rw[av A];refine cr J ?_;cbv;rw[av A];refine cr gr ?_;cbv;refine Bi P (λw n u K q=>?_);have x4:Kp [x,r,p] h w:=K.up (by simp);have t:=P.lt K (tys:=150::299::yG) (by decide);have S:=t _ _ _ _ (by decide) J;have Z:=f.ls (t.sub);have pQ:=R.lt (t.sub);rw[<-u]at T;generalize bm s=R1 at *;obtain⟨tx,s1⟩:=R1;have q:gJ w p s1:=q;clear u;cbv;refine cr S ?_;cbv;refine⟨⟨_,rfl,rfl⟩,?_⟩;cbv;refine Rb Z n (D:=eD d n) rfl (λh5 E U H Q o G I O z B m V l M=>?_);generalize eD d n=C at *;obtain⟨j,c⟩:=C;have T:kE d s=(j,decide (c≠0),s1):=T;have fe:A .aN .eql c 0=decide (c=0):=au A ..;have Y:(b|| !decide (c=0))=(b||decide (c≠0)):=by simp
 rw[T]at e;clear T;have X:=pQ.le l;have x5:=x4.trans (l.kp _);have Ii:=l _ _ S;have M:fE h5 (.agg #[.slice E U H,.slice Q o G,.slice I O z,.slice B m V]) j:=M;cbv;rw[fe];refine pa X (decide (c=0)) (λy N W=>?_);rw[Y]at W;have x6:=x5.trans (N.up (by simp));have g:=X.lk N (tys:=150::411::5::yG) (by decide);have F:=g _ _ _ _ (by decide) Ii;have v:=(q.le l).mt (g.sub);have WT:=M.ls (g.sub);have fin:∀h',h'=bL y x (.cells #[.slice E U H,.slice Q o G,.slice I O z,.slice B m V,L.1,L.2.1,L.2.2.1,L.2.2.2] 150 (0,0))->k (.tuple #[]) h':=λh' a=>by
  have i:dX [150] y h':=by rw[a];exact gN F (by decide)
  exact e h' (x6.trans (by rw[a];exact Kp.set (by simp))) ⟨_,_,_,_,_,_,_,_,_,_,_,_,by rw[a];exact ae,WT.ls (i.t (by decide))⟩ (W.lt (i.t (by decide))) (v.mt (i.t (by decide)))
 clear e Y;cbv;rw[av A];refine ju F (by simp) (λh' a=>?_);have:=fin h' a;cbv;exact this
def tO(d:DB)(l:Bs):DB×Bool:=
 if(aO 1 (some l)).1=1 then((ou d (aO 1 (some l)).2).1,!(ou d (aO 1 (some l)).2).2.1&&decide ((ou d (aO 1 (some l)).2).2.2=some []))
 else((kE d (aO 1 (some l)).2).1,!(kE d (aO 1 (some l)).2).2.1&&decide ((kE d (aO 1 (some l)).2).2.2=some []))
theorem jXZ{x:Nat}(qx:xZ h x d L){l:Bs}(q:Sl e1 cj h (.slice b m c) l)(sm:Small d)(g:(aO 1 (some l)).1=1\/(aO 1 (some l)).1=2)
 (f:∀h',Kp [x] h h'->xZ h' x (tO d l).1 L->k (.bool (tO d l).2) h'):
 Ct 64 [.zP x,.slice b m c] h k:=by
 obtain⟨A,P⟩:=Ar.ex;have hR:tO d l=if(aO 1 (some l)).1=1 then((ou d (aO 1 (some l)).2).1,!(ou d (aO 1 (some l)).2).2.1&&decide ((ou d (aO 1 (some l)).2).2.2=some []))
  else((kE d (aO 1 (some l)).2).1,!(kE d (aO 1 (some l)).2).2.1&&decide ((kE d (aO 1 (some l)).2).2.2=some [])):=rfl
 obtain⟨_,_,_,_,_,_,_,_,_,_,_,_,gx,-⟩:=qx.out;have E:A .aN .eql 1 1=true:=by rw[au A];rfl
 have F:A .aN .eql 2 1=false:=by rw[au A];rfl
 have G:A .aN .eql 2 2=true:=by rw[au A];rfl
 refine fz fXa A Tryz.func64 ?_;cbv;refine UE q (λh1 p T X q1=>?_);cbv;intro r H U B;have Y:Le h1 H:=by rw[B];exact Le.set U
 have O:H r=zcL 299 [.zP p,.int .u32 0,.int .i32 0,.int .u32 0,.bool false]:=(congrFun B r).trans ae;have BR:pC H r p false:=⟨0,O,.inl ⟨rfl,rfl⟩⟩;have q2:=q1.le Y;have fa:=X.trans Y;have tu:=X.none U;clear B;cbv;rw[av A];refine cr O ?_;cbv;refine sY q2 (λI W n V z=>?_);have Z:Le h I:=fa.aV (bs:=[p]) (by simpa using T) V;have th:=BR.lt (q2.lt V (by decide));have M:=qx.le Z;generalize aO 1 (some l)=R1 at *;obtain⟨nk,s1⟩:=R1;have z:gJ I p s1:=z;have N:∀h',Kp [x,r,p] I h'->Kp [x] h h':=λh' k'=>by
  intro b0 o v S;refine k' b0 o (Z _ _ v) (λR=>?_);simp only[xl,kQx,or_false]at R S;rcases R with rfl|rfl|rfl
  .exact S rfl
  .rw[tu]at v;cases v
  rw[T]at v;cases v
 rcases g with g|g
 .have g:nk=1:=g;subst g;have n:W=1:=n;subst n;have hR:tO d l=((ou d s1).1,!(ou d s1).2.1&&decide ((ou d s1).2.2=some [])):=hR;rw[hR]at f;clear hR;cbv;rw[E];cbv;refine cZn M th z sm (λa K i Q j=>?_);have w:=N a K;generalize ou d s1=C at *;obtain⟨D,u,s⟩:=C;have j:gJ a p s:=j;have Q:pC a r p u:=by simpa using Q
  have i:xZ a x D L:=i;obtain⟨d4,y,-⟩:=Q.out;cbv;rw[av A];refine cr y ?_;cbv;rw[P.not];cases u with
  |true=>have:=f a w i;cbv;exact this
  |false=>
   cbv;rw[av A];refine cr y ?_;cbv;refine Nd j (λe J=>?_);have ge:A .aN .eql e 0=decide (s=some []):=by rw[au A];exact decide_eq_decide.2 J
   have f:k (.bool (decide (s=some []))) a:=f a w i;cbv;rw[ge];generalize decide (s=some [])=t at *;cbv;exact f
 have g:nk=2:=g;subst g;have n:W=2:=n;subst n;have hR:tO d l=((kE d s1).1,!(kE d s1).2.1&&decide ((kE d s1).2.2=some [])):=hR;rw[hR]at f;clear hR;cbv;rw[F];cbv;rw[G];cbv;refine eJY M th z (λa K i Q j=>?_);have w:=N a K;generalize kE d s1=C at *;obtain⟨D,u,s⟩:=C;have j:gJ a p s:=j;have Q:pC a r p u:=by simpa using Q
 have i:xZ a x D L:=i;obtain⟨d4,y,-⟩:=Q.out;cbv;rw[av A];refine cr y ?_;cbv;rw[P.not];cases u with
 |true=>have:=f a w i;cbv;exact this
 |false=>
  cbv;rw[av A];refine cr y ?_;cbv;refine Nd j (λe J=>?_);have ge:A .aN .eql e 0=decide (s=some []):=by rw[au A];exact decide_eq_decide.2 J
  have f:k (.bool (decide (s=some []))) a:=f a w i;cbv;rw[ge];generalize decide (s=some [])=t at *;cbv;exact f
def dz:DB:=⟨[],[],[],[]⟩
abbrev L0:Value×Value×Value×Value:=(.int .i64 0,.slice none 0 0,.slice none 0 0,.slice none 0 0)
def mK:DB->List Bs->Option DB
 |d,[]=>some d
 |d,l::r=>if(tO d l).2 then mK (tO d l).1 r else none
theorem HD(l:Bs):∀(r:List Bs) (d:DB),mK d (r++[l])=(mK d r).bind λa=>if(tO a l).2 then some (tO a l).1 else none:=λr=>by
 induction r with
 |nil=>intro d;simp only[np,mK,Option.bind_some]
 |cons y r i=>
  intro d;simp only[kXj,mK];split
  .exact i _
  rfl
theorem NU:∀(i:Nat) (r:List Bs) (d:DB),mK d (r.take i)=none->mK d r=none:=λi=>by
 induction i with
 |zero=>intro r d h;rw[List.take_zero]at h;cases h
 |succ i a=>
  intro r d h;cases r with
  |nil=>cases h
  |cons y r=>
   simp only[List.take_succ_cons,mK]at h |-;split
   .rename_i c;rw[if_pos c]at h;exact a _ _ h
   rfl
structure cZq(h:ad)(s g x:Nat):Prop where
 out:h s=zcL 158 [.zP g,.zP x]
theorem eJO{D:Dk}(q:nI h p D)(hP:1<=D.now.length)(qN:∀l∈(gA D).1.eO,(aO 1 (some l)).1=1\/(aO 1 (some l)).1=2)
 (hS:∀i a,mK dz ((gA D).1.eO.take i)=some a->Small a) 
 (M:((gA D).2≠0\/(gA D).1.bad=true\/mK dz (gA D).1.eO=none)->∀h' (e:Int),dX Qu h h'->e≠0->k (.tuple #[.pointer none,.int .i64 e]) h')
 (B:∀h' s g x d,(gA D).2=0->(gA D).1.bad=false->mK dz (gA D).1.eO=some d->dX Qu h h'->cZq h' s g x->ID h' g p (gA D).1.size (gA D).1.count->xZ h' x d L0->k (.tuple #[.zP s,.int .i64 0]) h'):
 Ct 19 [.zP p] h k:=by
 obtain⟨A,hA⟩:=Ar.ex;have mY:A .aN .neq 0 0=false:=by rw[az A];rfl
 refine fz cKt A Tryz.func19 ?_;cbv;refine aQo q hP (λh1 e N he j=>?_) (λh1 g b m c h0 S N ql L=>?_)
 .have bS:e≠0:=by
   rw[he];split
   .assumption
   decide
  have:=M (by rcases j with j|j;exact .inl j;exact .inr (.inl j)) h1 e N bS;have fe:A .aN .neq e 0=true:=by rw[az A];exact ak bS
  clear M B he j;cbv;rw[fe];cbv;exact this
 generalize (gA D).1.eO=O at *;generalize (gA D).1.size=sz at *;generalize (gA D).1.count=cn at *;have ab:=L.len;obtain⟨an,al⟩:=L.bound;cbv;rw[mY];cbv;intro x r hx T;have K:Le h1 r:=by rw[T];exact Le.set hx
 have V:r x=zcL 150 [.slice none 0 0,.slice none 0 0,.slice none 0 0,.slice none 0 0,.int .i64 0,.slice none 0 0,.slice none 0 0,.slice none 0 0]:=(congrFun T x).trans ae;have qx:xZ r x dz L0:=⟨_,_,_,_,_,_,_,_,_,_,_,_,V,⟨_,_,_,_,_,_,_,_,_,_,_,_,[],rfl,Sl.nil,Sl.nil,Sl.nil,Sl.nil,rfl⟩⟩;clear T;obtain⟨J,n⟩:∃J:Nat->Int->ad->Prop,∀w z h',J w z h'=(∃i a,aZ z i/\w=m-i/\i<=m/\Kp [x] r h'/\xZ h' x a L0/\mK dz (O.take i)=some a):=⟨_,λ_ _ _=>rfl⟩;have R:J m 0 r:=by rw[n];exact⟨0,dz,⟨rfl⟩,rfl,by omega,Kp.refl _ _,qx,rfl⟩
 cbv;refine aX.go (G:=Int) (λz=>[(27,.v (.int .i64 z))]) (λ_=>[]) (λw z h'=>J w z h') m 0 (by constructor<;>cbv) R ?_
 intro w z C hI;rw[n]at hI;cbv;obtain⟨i,a,H,hw,hi,I,q3,F⟩:=hI;have x3:dX Qu h C:=N.trans ((K.aV (bs:=[x]) (by simpa using hx) I).x _);have fl:A .aN .lss z (A .nat m)=decide (i<m):=by rw[aR A,H.eq,hA.nat];exact decide_eq_decide.2 (by show(i:Int)<(m:Int)↔_;omega)
 rw[fl];by_cases hc:i<m
 .obtain⟨l,hl⟩:=cB O i;have W:=qN l (cK hl);have sm:=hS i a F;have ix:=H.ix hc;have NT:=L.mono ((K.t _).trans (Fk I V (by decide)));have X:mK dz (O.take (i+1))=if(tO a l).2 then some (tO a l).1 else none:=by rw[qM,hl];show mK dz (O.take i++[l])=_;rw[HD,F];rfl
  have aU:m-(i+1)<w:=by omega
  have ll:=H.succ (A:=A);rw[ak hc];clear fl R;cbv;refine⟨⟨L.bp,ix⟩,?_⟩;cbv;refine NT.load hl H.eq (λcs ar=>?_);obtain⟨v,rfl,qv⟩:=ar;obtain⟨vb,vm,vc,rfl⟩:∃vb vm vc,v=.slice vb vm vc:=by obtain⟨b',cap,e1,-⟩:=qv.out;exact⟨_,_,_,e1⟩
  cbv;refine jXZ q3 qv sm W (λf k4 q4=>?_);have Q:=I.trans k4;have P:(tO a l).2=true->J (m-(i+1)) (A .aT .add .i64 z 1) f:=λht=>by
   rw[n];exact⟨i+1,_,ll,rfl,by omega,Q,q4,by rw[X,if_pos ht]⟩
  have o:(tO a l).2=false->k (.tuple #[.pointer none,.int .i64 10]) f:=λht=>
   M (.inr (.inr (NU (i+1) _ _ (by rw[X,ht];rfl)))) f 10 (N.trans ((K.aV (bs:=[x]) (by simpa using hx) Q).x _)) (by decide)
  clear n M B X hS qN q4;generalize (tO a l).2=t at *;cbv;rw[hA.not];cases t with
  |true=>
   have:=P rfl;clear P o;cbv;refine⟨m-(i+1),A .aT .add .i64 z 1,aU,by constructor<;>cbv,this⟩
  |false=>have:=o rfl;clear P o;cbv;exact this
 have Tq:i=m:=by omega
 have tq:O.take i=O:=ie (by omega);rw[tq]at F;rw[bn hc];have Z:∃u,u.length=8/\C x=zcL 150 u:=by obtain⟨_,_,_,_,_,_,_,_,_,_,_,_,Y,-⟩:=q3.out;exact⟨_,rfl,Y⟩
 obtain⟨u,ag,Y⟩:=Z;clear fl n R M;cbv;intro s f hs y;have l4:Le C f:=by rw[y];exact Le.set hs
 have g4:f s=zcL 158 [.zP g,.pointer none]:=(congrFun y s).trans ae;have hq:∀h',h'=bL f s (.cells #[.zP g,.zP x] 158 (0,0))->k (.tuple #[.zP s,.int .i64 0]) h':=λh' E=>by
  have U:Le C h':=by rw[E,y,ek];exact Le.set hs
  exact B h' s g x a h0 S F (x3.trans (U.x _)) ⟨by rw[E];exact ae⟩ ((ql.lt ((K.t _).trans (Fk I V (by decide)))).lt (U.t _)) (q3.le U)
 have tC:=l4 _ _ Y;clear y B;cbv;rw[av A];refine zE g4 rfl (cm (x:=u[0]) tC (zG _)) (λh' E=>?_);have:=hq h' E;cbv;exact this
theorem bZe{d i b s g x:Nat}{e:Int}{t:List Value}(ge:h d=some (.cells #[.int .i64 e] 33 (0,0)))(j:h i=some (.cells #[.zP s] 38 (0,0)))(q:cZq h s g x)
 (l:h b=zcL 150 t) (p:t.length=8)  (M:e≠0->k (.tuple #[]) h)
 (f:e=0->∀h',h'=bL h s (.cells #[.zP g,.zP b] 158 (0,0))->k (.tuple #[]) h'):
 fXj 128 [.zP d,.zP i,.zP b] h k:=by
 obtain⟨A,n⟩:=Ar.ex;have a:A .aN .eql e 0=decide (e=0):=au A ..;refine xB A (aj eJq.aw eJq.bq) Tryz.func128 rfl (by kernel_rfl) ?_;cbv;refine cr ge ?_;cbv;rw[a];by_cases c:e=0
 .have:=f c;rw[ak c];clear M f a;cbv;refine cr j ?_;cbv;rw[av A];refine zE q.out rfl (cm (x:=t[0]) l (zG _)) (λh' m=>?_);have:=this h' m;cbv;exact this
 have:=M c;rw[bn c];clear M f a;cbv;exact this
structure Da(h:ad)(s p:Nat)(G:Lg)(d:DB)(L:Value×Value×Value×Value):Prop where
 out:∃g x,cZq h s g x/\ID h g p (G.s:Int) (G.n:Int)/\nI h p G.D/\xZ h x d L
abbrev IK:List Nat:=158::cJo
theorem dKf{s:Nat}{G:Lg}{d':DB}(q:Da h s p G d L){l:Bs}(qb:Sl 5 cj h (.slice b m c) l)(hs:G.s<=2^29)(hn:G.n<=2^29)(hm:m<=2^28)(hw:G.D.ws.length<=2^28)
 {C D E F:Option Addr} {O H P I Q K S M:Nat} (qd:fE h (.agg #[.slice C O H,.slice D P I,.slice E Q K,.slice F S M]) d') 
 (hk:∀h',dX IK h h'->Da h' s p (aY G l).2 (if(aY G l).1=0 then d' else d) L->k (.int .i64 (aY G l).1) h'):
 Ct 52 [.zP s,.slice b m c,.agg #[.slice C O H,.slice D P I,.slice E Q K,.slice F S M,L.1,L.2.1,L.2.2.1,L.2.2.2]] h k:=by
 obtain⟨A,hA⟩:=Ar.ex;obtain⟨g,x,qs,ql,qk,qx⟩:=q.out;obtain⟨v5,v6,v7,v8⟩:=L;refine nY A (aj fXc.aw fXc.bq) Tryz.func52 rfl (by kernel_rfl) ?_;cbv;intro sc h1 ab e1;have l1:Le h h1:=by rw[e1];exact Le.set ab
 have g1:h1 sc=zcL 38 [.zP s]:=(congrFun e1 sc).trans ae;cbv;intro z h2 ni e2;have l2:Le h1 h2:=by rw[e2];exact Le.set ni
 have g2:h2 z=zcL 150 [.slice C O H,.slice D P I,.slice E Q K,.slice F S M,v5,v6,v7,v8]:=(congrFun e2 z).trans ae;cbv;intro i h3 Z e3;have l3:Le h2 h3:=by rw[e3];exact Le.set Z
 have g3:h3 i=zcL 33 [.int .i64 0]:=(congrFun e3 i).trans ae;have y:=(l1.trans l2).trans l3;clear e1 e2 e3;have w:=l3 _ _ (l2 _ _ g1);have T:=l3 _ _ g2;have n:=y _ _ qs.out;have V:=qk.le y;have Ng:=ql.lt (y.t _);have Ja:=qx.le y;cbv;refine cr w ?_;cbv;rw[av A];refine cr n ?_;cbv;refine RO V Ng (qb.mono (y.t _)) hs hn hm hw (λN x4 UJ DH=>?_);generalize aY G l=R at *;obtain⟨e,j⟩:=R;have UJ:nI N p j.D:=UJ;have DH:ID N g p (j.s:Int) (j.n:Int):=DH;have hk:∀h',dX IK h h'->Da h' s p j (if e=0 then d' else d) (v5,v6,v7,v8)->k (.int .i64 e) h':=hk;have ne:∀ {bl:Nat} {cs:Array Value} {t:Nat} {fr:Nat×Nat},h3 bl=some (.cells cs t fr)->t∉cJo->N bl=some (.cells cs t fr):=λY ht=>x4 _ _ Y (λ_ _ _ he=>by cases he;exact ht);have W:=ne g3 (by decide);have v:=ne w (by decide);have u:=ne T (by decide);have X:=ne n (by decide);have tg:=Ja.lt (x4.t (by decide));have PH:dX IK h N:=(y.x _).trans (x4.sup (by decide));have aq:sc≠i:=λe=>by rw[e,W]at v;cases v
 have ao:z≠i:=λe=>by rw[e,W]at u;cases u
 have U:s≠i:=λe=>by rw[e,W]at X;cases X
 have ag:h i=none:=(l1.trans l2).none Z;have t4:=(qd.mono (y)).ls (x4.t (by decide));have fin:∀a,a=bL N i (.cells #[.int .i64 e] 33 (0,0))->dX IK h a/\nI a p j.D/\ID a g p (j.s:Int) (j.n:Int)/\xZ a x d (v5,v6,v7,v8)/\fE a (.agg #[.slice C O H,.slice D P I,.slice E Q K,.slice F S M]) d'/\
  a i=some (.cells #[.int .i64 e] 33 (0,0))/\a sc=some (.cells #[.zP s] 38 (0,0))/\a z=zcL 150 [.slice C O H,.slice D P I,.slice E Q K,.slice F S M,v5,v6,v7,v8]/\cZq a s g x:=λa f=>by
  have B:dX [33] N a:=by rw[f];exact gN W (by decide)
  refine⟨?_,UJ.lt (B.t (by decide)),DH.lt (B.t (by decide)),tg.lt (B.t (by decide)),t4.ls (B.t (by decide)),by rw[f];exact ae,by rw[f,ck aq];exact v,by rw[f,ck ao];exact u,⟨by rw[f,ck U];exact X⟩⟩;intro b0 o Y bS;rw[f,ck (λe=>by rw[e,ag]at Y;cases Y)];exact PH b0 o Y bS
 clear V Ng Ja UJ DH tg g3 w T n t4 x4;cbv;refine ju W (by simp) (λa f=>?_);obtain⟨B,CL,xf,an,xM,r,al,J,Qi⟩:=fin a f;clear fin f;cbv;refine bZe r al Qi J rfl (λbS=>?_) (λh0 h6 f=>?_)
 .have:=hk a B ⟨g,x,Qi,xf,CL,by rw[if_neg bS];exact an⟩;cbv;refine cr r ?_;cbv;exact this
 have x6:dX [158] a h6:=by rw[f];exact gN Qi.out (by decide)
 have ar:h6 i=some (.cells #[.int .i64 e] 33 (0,0)):=by rw[f,ck (Ne.symm U)];exact r
 have ax:z≠s:=λe=>by rw[e,Qi.out]at J;cases J
 have aw:h6 z=zcL 150 [.slice C O H,.slice D P I,.slice E Q K,.slice F S M,v5,v6,v7,v8]:=by rw[f,ck ax];exact J
 have:=hk h6 (B.trans (x6.sup (by decide))) ⟨g,z,⟨by rw[f];exact ae⟩,xf.lt (x6.t (by decide)),CL.lt (x6.t (by decide)),by rw[if_pos h0];exact⟨_,_,_,_,_,_,_,_,_,_,_,_,aw,xM.ls (x6.t (by decide))⟩⟩;cbv;refine cr ar ?_;cbv;exact this
end Go.S
