import Derived.Test.YthnbpiejemlbeaaGreatBB
import Derived.Test.YthnbpiejemlbeaaGreatGB
set_option linter.all false
set_option maxRecDepth 100000
set_option maxHeartbeats 8000000
namespace Go.S
open Go.Sx Go.Proofs
variable {a:Addr}{only:Bool}{nm:ByteArray}{d:DB}{fn:Func}{f:FuncId}{key:Int}{cols:List jR}{c e1 m n p r:Nat}{b y:Option Addr}{s:St}{k:Value->ad->Prop}{L:Value×Value×Value×Value}{w:World}{h h':ad}
structure Lg where
 D:Dk
 s:Nat
 n:Nat
def sB(s n:Nat):Bs:=cP (s:Int)++cP (n:Int)
def HV(g:Lg)(l:Bs):Int×Dk:=dD (bN (cO g.D g.s (cP (l.length:Int)++l)).2 0 (sB (g.s+8+l.length) (g.n+1))).2
def aY(g:Lg)(l:Bs):Int×Lg:=
 if l.length>65536 then(5,g)
 else if(l.length:Int)+8>((g.D.now.length:Int)-1)*64-g.s then(14,g)
 else if(cO g.D g.s (cP (l.length:Int)++l)).1≠0 then((cO g.D g.s (cP (l.length:Int)++l)).1,{ g with D:=(cO g.D g.s (cP (l.length:Int)++l)).2 })
 else if(bN (cO g.D g.s (cP (l.length:Int)++l)).2 0 (sB (g.s+8+l.length) (g.n+1))).1≠0 then((bN (cO g.D g.s (cP (l.length:Int)++l)).2 0 (sB (g.s+8+l.length) (g.n+1))).1,{ g with D:=(bN (cO g.D g.s (cP (l.length:Int)++l)).2 0 (sB (g.s+8+l.length) (g.n+1))).2 })
 else if(HV g l).1≠0 then((HV g l).1,{ g with D:=(HV g l).2 })
 else(0,⟨(HV g l).2,g.s+8+l.length,g.n+1⟩)
theorem cKl{l:Nat}{s n:Int}(q:Jw h l p s n)(a:k (.zI n) h):Ct 251 [.zP l] h k:=by refine cB eZL Tryz.func251 λA b=>?_;cbv;rw[av A];refine Kf (cJ q.out rfl) ?_;cbv;exact a
theorem EV:∀(n:Nat) (D:Dk) (pg:Nat) (b:Bs),b.length<=n->(dN D pg b).2.ws.length<=D.ws.length+b.length:=λn=>by
 induction n with
 |zero=>
  grind [dN,dD,Fs]
 |succ n i=>
  grind [dN,dD,Fs,Ce,bN]
theorem ID(D:Dk)(s:Nat)(b:Bs):(cO D s b).2.ws.length<=D.ws.length+(b.length+64):=by
 unfold cO;split
 .have:=EV _ D (1+s / 64) b (qA _);omega
 split
 .exact Nat.le_add_right _ _
 have:=EV _ D (1+s / 64) ((dF D ((1+s / 64:Nat):Int)).take (s % 64)++b) (qA _)
 grind
abbrev cKP:List Nat:=[294,94,211,213]
theorem _root_.Go.Sx.ep.sup{ex K:List Nat}(x:ep ex h h')(s:∀t∈ex,t∈K):ep K h h':=λb o a V=>x b o a (λc e fr d m=>V c e fr d (s e m))
theorem TE{j:Nat}{g:Lg}(q:oa h p g.D)(t:Jw h j p (g.s:Int) (g.n:Int)){l:Bs}(qb:Sl 5 cD h (.slice b m c) l)(hs:g.s<=2^29)(hn:g.n<=2^29)(hm:m<=2^28)(hw:g.D.ws.length<=2^28)
 (a:∀h',ep cKP h h'->oa h' p (aY g l).2.D->Jw h' j p ((aY g l).2.s:Int) ((aY g l).2.n:Int)->k (.zI (aY g l).1) h'):
 Ct 129 [.zP j,.slice b m c] h k:=by
 obtain⟨A,r⟩:=Ar.ex;obtain⟨D,s,n⟩:=g;have q:oa h p D:=q;have t:Jw h j p (s:Int) (n:Int):=t;have hs:s<=2^29:=hs;have hn:n<=2^29:=hn;have hw:D.ws.length<=2^28:=hw;have U:=qb.len;have ZL:=q.max;have mW:A .aQ .neq 0 0=false:=by rw[aJ A];rfl
 have M:A .nat m=(l.length:Int):=by rw[r.nat,U];rfl
 have f1:A .aQ .gtr (A .nat m) 65536=decide (l.length>65536):=by rw[M,bF A];grind
 have w:∀z:Int,-9223372036854775808<=z/\z<=9223372036854775807->IntKind.i64.wrap z=z:=IntWalk.i64_in;have C:∀E,bg E D.now.length->A .aQ .gtr (A .aX .add .i64 (A .nat m) 8) (A .aX .sub .i64 (A .aX .mul .i64 (A .aX .sub .i64 E 1) 64) (s:Int))=decide ((l.length:Int)+8>((D.now.length:Int)-1)*64-s):=λE Z=>by
  have e1:A .aX .add .i64 (A .nat m) 8=(l.length:Int)+8:=by rw[M,r.aX];exact w _ ip
  have i:A .aX .sub .i64 E 1=(D.now.length:Int)-1:=by rw[Z.eq,r.aX];exact w _ ip
  have y:A .aX .mul .i64 ((D.now.length:Int)-1) 64=((D.now.length:Int)-1)*64:=by rw[r.aX];exact w _ ip
  have e4:A .aX .sub .i64 (((D.now.length:Int)-1)*64) (s:Int)=((D.now.length:Int)-1)*64-s:=by rw[r.aX];exact w _ ip
  rw[e1,i,y,e4,bF A]
 have K:A .aX .add .i64 (A .aX .add .i64 (s:Int) 8) (A .nat m)=((s+8+l.length:Nat):Int):=by
  have e1:A .aX .add .i64 (s:Int) 8=(s:Int)+8:=by rw[r.aX];exact w _ ip
  rw[e1,M,r.aX];show IntKind.i64.wrap ((s:Int)+8+(l.length:Int))=_
  grind
 have J:A .aX .add .i64 (n:Int) 1=((n+1:Nat):Int):=by
  rw[r.aX];show IntKind.i64.wrap ((n:Int)+1)=_
  grind
 have Q:IntKind.i64.wrap ((n:Int)+1)=((n+1:Nat):Int):=gg
 have P:aY ⟨D,s,n⟩ l=if l.length>65536 then(5,⟨D,s,n⟩)
  else if(l.length:Int)+8>((D.now.length:Int)-1)*64-s then(14,⟨D,s,n⟩)
  else if(cO D s (cP (l.length:Int)++l)).1≠0 then((cO D s (cP (l.length:Int)++l)).1,⟨(cO D s (cP (l.length:Int)++l)).2,s,n⟩)
  else if(bN (cO D s (cP (l.length:Int)++l)).2 0 (sB (s+8+l.length) (n+1))).1≠0 then((bN (cO D s (cP (l.length:Int)++l)).2 0 (sB (s+8+l.length) (n+1))).1,⟨(bN (cO D s (cP (l.length:Int)++l)).2 0 (sB (s+8+l.length) (n+1))).2,s,n⟩)
  else if(dD (bN (cO D s (cP (l.length:Int)++l)).2 0 (sB (s+8+l.length) (n+1))).2).1≠0 then((dD (bN (cO D s (cP (l.length:Int)++l)).2 0 (sB (s+8+l.length) (n+1))).2).1,⟨(dD (bN (cO D s (cP (l.length:Int)++l)).2 0 (sB (s+8+l.length) (n+1))).2).2,s,n⟩)
  else(0,⟨(dD (bN (cO D s (cP (l.length:Int)++l)).2 0 (sB (s+8+l.length) (n+1))).2).2,s+8+l.length,n+1⟩):=rfl
 have X:=ID D s (cP (l.length:Int)++l);rw[kXy,ck]at X;obtain⟨sz,iA⟩:∃sz:Int,sz=(s:Int):=⟨_,rfl⟩;obtain⟨W,al⟩:∃W:Int,W=(n:Int):=⟨_,rfl⟩;have R:=t;rw[<-iA]at C K t P;rw[<-al]at J Q t;obtain⟨lz,an⟩:∃lz:Int,lz=(l.length:Int):=⟨_,rfl⟩;rw[<-an]at M P X C;obtain⟨s2,Eb⟩:∃s2:Int,s2=((s+8+l.length:Nat):Int):=⟨_,rfl⟩;rw[<-Eb]at K;obtain⟨e,fA⟩:∃e:Int,e=((n+1:Nat):Int):=⟨_,rfl⟩;rw[<-fA]at J Q;have aq:IntKind.i64.wrap (W+1)=e:=Q;have Aq:sB (s+8+l.length) (n+1)=cP s2++cP e:=by unfold sB;rw[Eb,fA]
 rw[Aq]at P;clear Aq;refine kh eKL A Tryz.func129 ?_;cbv;rw[av A];refine cy t.out ?_;cbv;refine aXL q (λE Z=>?_);have C:=C E Z;cbv;rw[av A];refine Kf (cJ t.out rfl) ?_;cbv;rw[f1];by_cases v:l.length>65536
 .rw[if_pos v]at P;rw[P]at a;have:=a h (ep.refl _ _) q R;rw[kS v];clear a P;cbv;exact this
 rw[if_neg v]at P;rw[kQW v];cbv;rw[C];by_cases H:lz+8>((D.now.length:Int)-1)*64-sz
 .rw[if_pos H]at P;rw[P]at a;have:=a h (ep.refl _ _) q R;rw[kS H];clear a P;cbv;exact this
 rw[if_neg H]at P;rw[kQW H];clear C v H;cbv;rw[M];refine Oq (e1:=5) (l:=[]) Sl.nil ip lz (λh1 b1 m1 v l1 q1=>?_);rw[kZA]at q1;cbv;intro me h2 ab i;have l2:Le h1 h2:=zqs i ab
 have g2:=zqt i;clear i;have ha:([cP lz,l]:List Bs).flatten=cP lz++l:=io
 have ar:(cP lz++l).length<=2^38:=by rw[kXy,ck];omega
 cbv;refine BH (L:=[cP lz,l]) (pf (s:=DS) rfl g2 (eU (q1.sl.mono (l2.t _))) (eU (qb.mono ((l1.trans l2).t _)))) gg (λh3 b3 m3 c3 l3 q3=>?_);rw[ha]at q3;have OM:=q3.sl.len;rw[kXy,ck]at OM;have nN:=(l1.trans l2).trans l3;have Ow:=t.lt (nN.t _);cbv;refine cQd (q.le nN) ⟨iA⟩ Ow q3.sl ip ip ip (λh4 x4 d4=>?_);have Rd:ep dT h h4:=(nN.x _).trans x4;have Eu:=Ow.lt (x4.t dl);have aw:=qb.mono (Rd.t dl);clear q1 q3 Ow;generalize cO D s (cP lz++l)=R1 at *;obtain⟨e1,f⟩:=R1;have X:f.ws.length<=D.ws.length+(8+l.length+64):=X;have d4:oa h4 p f:=d4;have f4:A .aQ .neq e1 0=decide (e1≠0):=aJ A ..;by_cases c3:e1≠0
 .have P:aY ⟨D,s,n⟩ l=(e1,⟨f,s,n⟩):=gg
  rw[P]at a;have:=a h4 (Rd.sup dl) d4 (R.lt (Rd.t dl));rw[kS c3]at f4;clear a P;cbv;rw[f4];cbv;exact this
 have P:aY ⟨D,s,n⟩ l=if(bN f 0 (cP s2++cP e)).1≠0 then((bN f 0 (cP s2++cP e)).1,⟨(bN f 0 (cP s2++cP e)).2,s,n⟩)
  else if(dD (bN f 0 (cP s2++cP e)).2).1≠0 then((dD (bN f 0 (cP s2++cP e)).2).1,⟨(dD (bN f 0 (cP s2++cP e)).2).2,s,n⟩)
  else(0,⟨(dD (bN f 0 (cP s2++cP e)).2).2,s+8+l.length,n+1⟩):=gg
 rw[kQW c3]at f4;clear c3;cbv;rw[f4];cbv;rw[av A];refine cy Eu.out ?_;cbv;rw[K];refine Oq (e1:=5) (l:=[]) Sl.nil ip s2 (λh5 b5 m5 c5 l5 q5=>?_);rw[kZA]at q5;have Lf:=q5.sl.len;rw[ck]at Lf;have xT:=Eu.lt (l5.t _);cbv;refine cKl xT ?_;cbv;rw[J];refine Oq q5.sl ip e (λh6 b6 m6 c6 l6 q6=>?_);have d6:=d4.le (l5.trans l6);have ag:=xT.lt (l6.t _);have ao:=Rd.trans ((l5.trans l6).x _);cbv;refine aXt d6 0 q6.sl ip (λh7 x7 d7=>?_);have O:=ag.lt (x7.t dl);have T:=ao.trans x7;clear q5 q6;generalize bN f 0 (cP s2++cP e)=R2 at *;obtain⟨i,u⟩:=R2;have d7:oa h7 p u:=d7;have f5:A .aQ .neq i 0=decide (i≠0):=aJ A ..;by_cases c4:i≠0
 .have P:aY ⟨D,s,n⟩ l=(i,⟨u,s,n⟩):=gg
  rw[P]at a;have:=a h7 (T.sup dl) d7 (R.lt (T.t dl));rw[kS c4]at f5;clear a P;cbv;rw[f5];cbv;exact this
 have P:aY ⟨D,s,n⟩ l=if(dD u).1≠0 then((dD u).1,⟨(dD u).2,s,n⟩)
  else(0,⟨(dD u).2,s+8+l.length,n+1⟩):=gg
 rw[kQW c4]at f5;clear c4;cbv;rw[f5];cbv;rw[av A];refine cy O.out ?_;cbv;refine bJG d7 (λh8 x8 d8=>?_);have I:=O.lt (x8.t dl);have S:=T.trans x8;generalize dD u=R3 at *;obtain⟨y,Y⟩:=R3;have d8:oa h8 p Y:=d8;have f6:A .aQ .neq y 0=decide (y≠0):=aJ A ..;by_cases c5:y≠0
 .have P:aY ⟨D,s,n⟩ l=(y,⟨Y,s,n⟩):=gg
  rw[P]at a;have:=a h8 (S.sup dl) d8 (R.lt (S.t dl));rw[kS c5]at f6;clear a P;cbv;rw[f6];cbv;exact this
 have P:aY ⟨D,s,n⟩ l=(0,⟨Y,s+8+l.length,n+1⟩):=gg
 rw[P]at a;rw[kQW c5]at f6;clear P c5;have fS:∀h',ep cKP h h'->oa h' p Y->Jw h' j p s2 e->k (.zI 0) h':=λh' x d l=>a h' x d gg;cbv;rw[f6];cbv;rw[av A];cbv;rw[K];have G:∀o,o=bO h8 j (.cells #[.zP p,.zI s2,.zI W] 294 (0,0))->ep [294] h8 o/\Jw o j p s2 W:=λo B=>by
  subst B;exact⟨gU I.out dl,⟨ae⟩⟩
 refine JJ I.out rfl s2 (λo B=>?_);obtain⟨x9,N⟩:=G o B;clear G B;have F:∀h',h'=bO o j (.cells #[.zP p,.zI s2,.zI e] 294 (0,0))->ep [294] o h'/\Jw h' j p s2 e:=λh' B=>by
  subst B;exact⟨gU N.out dl,⟨ae⟩⟩
 cbv;rw[av A];cbv;refine bJB N.out rfl 1 (λiE rE=>?_);rw[aq]at rE |-;obtain⟨V,ak⟩:=F iE rE;clear F rE;have:=fS iE ((S.sup dl).trans ((x9.trans V).sup dl)) (d8.lt ((x9.trans V).t dl)) ak;cbv;exact this
def BA(b:Bool):Int:=if b then 1 else 0
theorem bJi(b:Bool)(a:k (.zI (BA b)) h):Ct 309 [.bool b] h k:=by
 refine cB eXK Tryz.func309 λA c=>?_;cbv;cases b with
 |false=>exact a
 |true=>exact a
def pK(s:ByteArray):Bs:=gI s++fX s
theorem tg(s:ByteArray):(pK s).length<=65537:=by
 grind [pK,gI,fX]
def lp(c:jR):Bs:=pK c.name++([u8 c.kind]++[u8 (BA c.null)])
theorem NJ(c:jR):(lp c).length<=65539:=by
 grind [tg,lp]
def vu(s:rM):Bs:=pK s.name++([u8 (s.cols.length:Int)]++((s.cols.map lp).flatten++(cP s.key++[u8 (BA s.only)])))
theorem hXu(q:Sl 202 bJ h (.slice b n c) cols)(hn:n<=2^16)(P:nm.size<=2^40)(h2:∀x∈cols,x.name.size<=2^40)
 (T:∀h' j n' c',Le h h'->bA 5 cD h h' (.slice j n' c') (vu ⟨nm,cols,key,only⟩)->k (.slice j n' c') h'):
 Ct 215 [.agg #[.string nm,.slice b n c,.zI key,.bool only]] h k:=by
 obtain⟨A,hA⟩:=Ar.ex;have e:=q.len;obtain⟨lG,gQ⟩:=q.bound;have u:A .nat n=(cols.length:Int):=by rw[hA.nat,e];rfl
 have CP:bg (A .nat n) n:=⟨gg⟩;obtain⟨a,V⟩:∃a,a=pK nm++[u8 (cols.length:Int)]:=⟨_,rfl⟩;have ak:a.length<=65538:=by grind [tg]
 have S:vu ⟨nm,cols,key,only⟩=(a++(cols.map lp).flatten++cP key)++[u8 (BA only)]:=by rw[V];unfold vu;simp
 rw[S]at T;clear S;have F:([]++(gI nm++fX nm))++[u8 (A .nat n)]=a:=by rw[u,V];rfl
 obtain⟨J,H⟩:∃J:Nat->((Option Addr×Nat×Nat)×Int)->ad->Prop,∀w g h',J w g h'=(∃i:Nat,bg g.2 i/\w=n-i/\i<=n/\Le h h'/\bA 5 cD h h' (.slice g.1.1 g.1.2.1 g.1.2.2) (a++((cols.take i).map lp).flatten)/\(a++((cols.take i).map lp).flatten).length<=2^17*(i+1)):=⟨_,λ_ _ _=>rfl⟩;refine kh eJp A Tryz.func215 ?_;cbv;refine BS (e1:=5) (l:=[]) Sl.nil ip nm P (λP b1 m1 c1 U D=>?_);have ab:m1<=65537:=by have:=D.sl.len;grind
 cbv;refine pG D.sl ip _ (λQx I W M k2 E=>?_);rw[F]at E;have Z:=U.trans k2;have dP:J n ((I,W,M),0) Qx:=by
  rw[H];refine⟨0,⟨rfl⟩,rfl,ip,Z,?_,?_⟩
  .have:=E.base U
   grind
  simp;omega
 clear F D E;cbv;refine ba.gz (G:=(Option Addr×Nat×Nat)×Int) (λg=>[(3,.v (.slice g.1.1 g.1.2.1 g.1.2.2)),(16,.v (.zI g.2))]) (λ_=>[(1,[.string nm,.slice b n c,.zI key,.bool only])]) (λw g h'=>J w g h') n ((I,W,M),0) dP ?_
 intro w g y R;rw[H]at R;cbv;obtain⟨⟨gb,gm,gc⟩,z⟩:=g;obtain⟨i,d,hw,hi,o,f,C⟩:=R;have d:bg z i:=d;have f:bA 5 cD h y (.slice gb gm gc) (a++((cols.take i).map lp).flatten):=f;have nQ:=f.sl.len;refine bm (λm=>?_) (λm=>?_)
 .have aZ:=d.lt m;obtain⟨x,hx⟩:=cK cols i;have Y:=h2 x (kQR hx);have O:∀j m' c' h',Le y h'->bA 5 cD y h' (.slice j m' c') ((a++((cols.take i).map lp).flatten)++lp x)->J (n-(i+1)) ((j,m',c'),A .aX .add .i64 z 1) h':=λj m' c' h' l' q'=>by
   rw[H];have ha:(a++((cols.take i).map lp).flatten)++lp x=a++((cols.take (i+1)).map lp).flatten:=by rw[kJG,hx];simp
   refine⟨i+1,d.succ (A:=A),rfl,ip,o.trans l',?_,?_⟩
   .rw[<-ha];exact q'.base o
   grind [NJ]
  have vd:n-(i+1)<w:=ip
  have yL:(a++((cols.take i).map lp).flatten).length<=2^34:=ip
  have e1:∀l:Bs,((l++(gI x.name++fX x.name))++[u8 x.kind])++[u8 (BA x.null)]=l++lp x:=λl=>by unfold lp pK;simp
  have OG:=tg x.name;unfold pK at OG;have ix:=d.ix aZ;clear m C H;generalize a++((cols.take i).map lp).flatten=L at *;cbv;refine⟨⟨q.bu,ix⟩,?_⟩;cbv;refine(q.mono (o.t _)).load hx d.eq (λcs v=>?_);have v:cs=[.string x.name,.zI x.kind,.bool x.null]:=v;subst v;generalize UI:x.name=xn at *;generalize PM:x.kind=xk at *;generalize ag:x.null=xu at *;cbv;refine BS (e1:=0) f.sl ip xn Y (λh4 b4 m4 c4 p r=>?_);have B:=r.sl.len;rw[kXy]at B;cbv;refine pG r.sl ip xk (λQ K X N s t=>?_);have Lf:=t.sl.len;rw[kXy,kXy,kXm]at Lf;cbv;refine bJi xu ?_;cbv;refine pG t.sl ip _ (λh6 b6 m6 c6 k6 q6=>?_);have iL:=O b6 m6 c6 h6 ((p.trans s).trans k6) (by rw[<-e1];exact q6.base (p.trans s));clear O;cbv;refine zqn (n-(i+1)) ((_,_,_),A .aX .add .i64 z 1) vd iL
 have mw:=d.ge m;have fN:i=n:=ip
 subst fN;rw[show cols.take i=cols by rw[e];exact kXo]at f C;have yL:(a++(cols.map lp).flatten).length<=2^34:=ip
 clear m H C;generalize a++(cols.map lp).flatten=L at *;have nQ:=f.sl.len;cbv;refine Oq f.sl ip key (λh4 b4 m4 c4 p r=>?_);have B:=r.sl.len;rw[kXy,ck]at B;cbv;refine bJi only ?_;cbv;refine pG r.sl ip _ (λQ K X N s t=>?_);have:=T Q K X N ((o.trans p).trans s) (t.base (o.trans p));cbv;exact this
def cM(s:St):Bool×St:=(decide ((aR 1 s).1=1),if(aR 1 s).1>1 then none else(aR 1 s).2)
theorem tY(q:gR h p s)(a:∀h' x,x=((aR 1 s).1:Int)->Kp [p] h h'->gR h' p (aR 1 s).2->k (.zI x) h'):
 Ct 142 [.zP p] h k:=fQy q λh' b c=>a h' _ rfl b c
theorem bXG(q:gR h p s)(a:∀h' x,x=IntKind.i64.wrap ((aR 8 s).1:Int)->Kp [p] h h'->gR h' p (aR 8 s).2->k (.zI x) h'):
 Ct 258 [.zP p] h k:=bXH q λh' b c=>a h' _ rfl b c
theorem BR(q:gR h p s)(a:∀h' x,x=strOf (bq s).1->Kp [p] h h'->gR h' p (bq s).2->k (.string x) h'):
 Ct 263 [.zP p] h k:=eQE q λh' b c=>a h' _ rfl b c
theorem aXu(q:gR h p s)(a:∀h',Kp [p] h h'->gR h' p (cM s).2->k (.bool (cM s).1) h'):
 Ct 337 [.zP p] h k:=by
 have T:cM s=(decide ((aR 1 s).1=1),if(aR 1 s).1>1 then none else(aR 1 s).2):=rfl;refine cB eXm Tryz.func337 λA m=>?_;cbv;refine tY q (λe x hx b d=>?_);have f:A .aQ .gtr x 1=decide ((aR 1 s).1>1):=by rw[bF A];grind
 have l:A .aQ .eql x 1=decide ((aR 1 s).1=1):=by rw[au A];grind
 clear hx;by_cases c:(aR 1 s).1>1
 .rw[if_pos c]at T;rw[T]at a;rw[kS c]at f;cbv;rw[f];cbv;refine Tz d 10 (λg i j=>?_);have:=a g (b.trans i) j;cbv
  grind
 rw[if_neg c]at T;rw[T]at a;rw[kQW c]at f;have:=a e b d;cbv;rw[f];cbv
 grind
def yO(s:St):jR×St:=(⟨strOf (bq s).1,((aR 1 (bq s).2).1:Int),(cM (aR 1 (bq s).2).2).1⟩,(cM (aR 1 (bq s).2).2).2)
def gB:Nat->St->List jR×St
 |0,s=>([],s)
 |n+1,s=>((yO s).1::(gB n (yO s).2).1,(gB n (yO s).2).2)
def lK(nm:ByteArray)(c:List jR×St):Option rM:=
 if(cM (aR 8 c.2).2).2=some []/\ey ⟨nm,c.1,IntKind.i64.wrap ((aR 8 c.2).1:Int),(cM (aR 8 c.2).2).1⟩=0 then
  some ⟨nm,c.1,IntKind.i64.wrap ((aR 8 c.2).1:Int),(cM (aR 8 c.2).2).1⟩else none
def eB(b:Bs):Option rM:=
 if(aR 1 (bq (some b)).2).1>6 then lK (strOf (bq (some b)).1) (gB 0 none)
 else lK (strOf (bq (some b)).1) (gB (aR 1 (bq (some b)).2).1 (aR 1 (bq (some b)).2).2)
theorem gR.mt(q:gR h p s)(l:cX [411,5] h h'):gR h' p s:=by obtain⟨r,a,b⟩:=q.out;obtain⟨bb,n,c,d,g,sl,hd⟩:=a.out;exact⟨r,⟨bb,n,c,d,l _ _ _ _ dl g,sl.mono (l.sub),hd⟩,b⟩
theorem cKc{l:Bs}(q:Sl e1 cD h (.slice b m c) l)
 (gv:eB l=none->∀h' (e:Int),Le h h'->e≠0->k (.tuple #[.agg #[.string ⟨#[]⟩,.zN,.zI 0,.bool false],.zI e]) h')
 (fS:∀s h' b n c,eB l=some s->Le h h'->Sl 202 bJ h' (.slice b n c) s.cols->k (.tuple #[.agg #[.string s.name,.slice b n c,.zI s.key,.bool s.only],.zI 0]) h'):
 Ct 262 [.slice b m c] h k:=by
 obtain⟨A,hA⟩:=Ar.ex;have E:GM 4 (aR 1 (bq (some l)).2).2=none:=rfl;have P:eB l=if(aR 1 (bq (some l)).2).1>6 then lK (strOf (bq (some l)).1) (gB 0 none)
  else lK (strOf (bq (some l)).1) (gB (aR 1 (bq (some l)).2).1 (aR 1 (bq (some l)).2).2):=rfl
 refine CY A [false,false,false,false,true] (aj eZB.aw eZB.bz) Tryz.func262 rfl (by kernel_rfl) ?_;cbv;refine Wd q (λr p D l1 q1=>?_);cbv;refine BR q1 (λh2 j nG k2 q2=>?_);have l2:Le h h2:=l1.bf (bs:=[p]) (iu D) k2;rw[<-nG]at P;generalize bq (some l)=U at *;obtain⟨nm,s1⟩:=U;have q2:gR h2 p s1:=q2;cbv;refine tY q2 (λh3 nz X k3 q3=>?_);have l3:Le h h3:=l2.bf (bs:=[p]) (iu D) k3;have P:eB l=if(aR 1 s1).1>6 then lK j (gB 0 none)else lK j (gB (aR 1 s1).1 (aR 1 s1).2):=P
 have E:GM 4 (aR 1 s1).2=none:=E;generalize aR 1 s1=R2 at *;obtain⟨S,s2⟩:=R2;have q3:gR h3 p s2:=q3;have X:nz=(S:Int):=X;have f1:A .aQ .gtr nz 6=decide (S>6):=by rw[bF A];grind
 have P:eB l=if S>6 then lK j (gB 0 none)else lK j (gB S s2):=P
 obtain⟨C,M⟩:∃C:Int->ad->Prop,∀z r,C z r=(∃a B,bg z a/\a<=6/\Le h r/\gR r p B/\eB l=lK j (gB a B)):=⟨_,λ_ _=>rfl⟩;clear nG;cbv;refine kK.go (G:=Int) (λz=>[(6,.v (.zI z))]) (λ_=>[(2,[.string ⟨#[]⟩,.zN,.zI 0,.bool false]),(5,[.string j,.zN,.zI 0,.bool false])]) C ?_ ?_
 .cbv;rw[f1];by_cases o:S>6
  .rw[if_pos o]at P;have hC:∀h',Kp [p] h3 h'->gR h' p none->C 0 h':=λh' k' q'=>by
    rw[M];exact⟨0,none,⟨rfl⟩,ip,l3.bf (bs:=[p]) (iu D) k',q',P⟩
   rw[kS o];clear M P f1 gv fS;cbv;refine Tz q3 4 (λh4 k4 q4=>?_);have hC:=hC h4 k4 q4;cbv;refine zqc 0 hC
  rw[if_neg o]at P;have hC:C nz h3:=by rw[M];exact⟨S,s2,⟨X⟩,ip,l3,q3,P⟩
  rw[kQW o];clear M P f1 gv fS;cbv;refine zqc nz hC
 intro z h4 o;rw[M]at o;obtain⟨a,B,ab,Sr,l4,q4,P⟩:=o;clear M f1 E q1 q2 q3 k2 k3 l1 l2 l3;obtain⟨J,Y⟩:∃J:Nat->((Option Addr×Nat×Nat)×Int)->ad->Prop,∀w g h',J w g h'=(∃i si d,bg g.2 i/\w=a-i/\i<=a/\Le h h'/\gR h' p si/\bA 202 bJ h h' (.slice g.1.1 g.1.2.1 g.1.2.2) d/\d.length=i/\d++(gB (a-i) si).1=(gB a B).1/\(gB (a-i) si).2=(gB a B).2):=⟨_,λ_ _ _=>rfl⟩;have dP:J a ((none,0,0),0) h4:=by rw[Y];exact⟨0,B,[],⟨rfl⟩,rfl,ip,l4,q4,bA.nil,rfl,rfl,rfl⟩
 cbv;refine ba.gz (G:=(Option Addr×Nat×Nat)×Int) (λg=>[(20,.v (.zI g.2))]) (λg=>[(2,[.string ⟨#[]⟩,.zN,.zI 0,.bool false]),(5,[.string j,.slice g.1.1 g.1.2.1 g.1.2.2,.zI 0,.bool false])]) (λw g h'=>J w g h') a ((none,0,0),0) dP ?_
 .intro w g h5 hI;rw[Y]at hI;cbv;obtain⟨⟨gb,N,gc⟩,T⟩:=g;obtain⟨i,si,d,fv,hw,hi,l5,q5,W,yJ,I,L⟩:=hI;have fv:bg T i:=fv;have W:bA 202 bJ h h5 (.slice gb N gc) d:=W;have nQ:=W.sl.len;have f2:A .aQ .lss T z=decide (i<a):=by rw[aV A,fv.eq,ab.eq];grind
  rw[f2];by_cases o:i<a
  .have V:gB (a-i) si=((yO si).1::(gB (a-(i+1)) (yO si).2).1,(gB (a-(i+1)) (yO si).2).2):=by
    have:a-i=(a-(i+1))+1:=ip
    rw[this];rfl
   rw[V]at I L;have u:∀h' f m' c',m'=N+1->Le h h'->gR h' p (yO si).2->bA 202 bJ h h' (.slice f m' c') (d++[(yO si).1])->J (a-(i+1)) ((f,m',c'),A .aX .add .i64 T 1) h':=λh' f m' c' e l' q' f=>by
    rw[Y];refine⟨i+1,_,_,fv.succ (A:=A),rfl,ip,l',q',f,?_,?_,L⟩
    .grind
    grind
   have aZ:a-(i+1)<w:=ip
   rw[kS o];have Z:yO si=(⟨strOf (bq si).1,((aR 1 (bq si).2).1:Int),(cM (aR 1 (bq si).2).2).1⟩,(cM (aR 1 (bq si).2).2).2):=rfl;rw[Z]at u;clear Y dP V Z I L f2 gv fS P o;cbv;refine BR q5 (λO nx gO k6 H=>?_);have t6:cX [202] h5 O:=q5.lt k6 dl;have l6:Le h O:=l5.bf (bs:=[p]) (iu D) k6;rw[<-gO]at u;generalize bq si=U at *;obtain⟨an,s3⟩:=U;have H:gR O p s3:=H;cbv;refine tY H (λx kx pD k7 y=>?_);have t7:cX [202] O x:=H.lt k7 dl;have l7:Le h x:=l6.bf (bs:=[p]) (iu D) k7;have u:∀h' f m' c',m'=N+1->Le h h'->gR h' p (cM (aR 1 s3).2).2->bA 202 bJ h h' (.slice f m' c') (d++[⟨nx,((aR 1 s3).1:Int),(cM (aR 1 s3).2).1⟩])->J (a-(i+1)) ((f,m',c'),A .aX .add .i64 T 1) h':=u;have pD:kx=((aR 1 s3).1:Int):=pD;rw[<-pD]at u;generalize aR 1 s3=R2 at *;obtain⟨nk,s4⟩:=R2;have y:gR x p s4:=y;cbv;refine aXu y (λt k8 K=>?_);have t8:cX [202] x t:=y.lt k8 dl;have l8:Le h t:=l7.bf (bs:=[p]) (iu D) k8;have u:∀h' f m' c',m'=N+1->Le h h'->gR h' p (cM s4).2->bA 202 bJ h h' (.slice f m' c') (d++[⟨nx,kx,(cM s4).1⟩])->J (a-(i+1)) ((f,m',c'),A .aX .add .i64 T 1) h':=u;generalize cM s4=R3 at *;obtain⟨tx,s5⟩:=R3;have K:gR t p s5:=K;have b8:=W.mono ((t6.trans t7).trans t8);cbv;intro n9 R mh e9;have Q:Le t R:=zqs e9 mh
   have g9:=zqt e9;have q9:Sl 202 bJ R (.slice (zsA n9) 1 1) [⟨nx,kx,tx⟩]:=bh (s:=bJ) g9 rfl;clear e9;cbv;refine(b8.mono (Q.t _)).append q9 dl rfl dl ip (l8.trans Q) (λm' f c' iE HL gD ak al EO=>?_);have iL:=u iE f m' c' HL gD ((K.le Q).mt (ak _ dl)) EO;clear u;cbv;refine zqn (a-(i+1)) ((f,m',c'),A .aX .add .i64 T 1) aZ iL
  have UY:a-i=0:=ip
  rw[UY]at I L;have I:d=(gB a B).1:=by rw[<-I];simp[gB]
  have L:si=(gB a B).2:=L;have V:gB a B=(d,si):=by rw[I,L]
  rw[V]at P;rw[kQW o];clear Y dP V I L f2 o;cbv;refine(Jm W.sl).mono (λv O hR=>?_);obtain⟨l6,b6,c6,rfl,s6⟩:=hR;have H:=q5.le l6;have P:eB l=if(cM (aR 8 si).2).2=some []/\ey ⟨j,d,IntKind.i64.wrap ((aR 8 si).1:Int),(cM (aR 8 si).2).1⟩=0 then
 some ⟨j,d,IntKind.i64.wrap ((aR 8 si).1:Int),(cM (aR 8 si).2).1⟩else none:=P
  cbv;refine bXG H (λx ky ZP k7 y=>?_);have t7:cX [202] O x:=H.lt k7 dl;have l7:Le h x:=(l5.trans l6).bf (bs:=[p]) (iu D) k7;rw[<-ZP]at P;generalize aR 8 si=U at *;obtain⟨kn,s7⟩:=U;have y:gR x p s7:=y;cbv;refine aXu y (λt k8 K=>?_);have t8:cX [202] x t:=y.lt k8 dl;have l8:Le h t:=l7.bf (bs:=[p]) (iu D) k8;have s8:Sl 202 bJ t (.slice b6 N c6) d:=s6.sl.mono (t7.trans t8);have P:eB l=if(cM s7).2=some []/\ey ⟨j,d,ky,(cM s7).1⟩=0 then some ⟨j,d,ky,(cM s7).1⟩else none:=P
  generalize cM s7=R3 at *;obtain⟨tx,s9⟩:=R3;have K:gR t p s9:=K;have P:eB l=if s9=some []/\ey ⟨j,d,ky,tx⟩=0 then some ⟨j,d,ky,tx⟩else none:=P
  cbv;refine Ot K (λex F=>?_);have g1:A .aQ .eql ex 0=decide (ex=0):=au A ..;have g2:A .aQ .neq ex 0=decide (ex≠0):=aJ A ..;by_cases h0:ex=0
  .have R:=F.1 h0;rw[kS h0]at g1;clear g2 F;cbv;rw[g1];cbv;refine(EK s8).mono (λv iE hR=>?_);obtain⟨gD,ez,rfl,ag⟩:=hR;rw[<-ag]at P;have g3:A .aQ .neq ez 0=decide (ez≠0):=aJ A ..;by_cases r:ez=0
   .rw[if_pos ⟨R,r⟩]at P;have:=fS _ iE b6 N c6 P (l8.trans gD) (s8.mono (gD.t _));have g4:decide (ez≠0)=false:=kQW (λg=>g r);rw[g4]at g3;cbv;rw[g3];cbv;exact this
   rw[if_neg (λg=>r g.2)]at P;have:=gv P iE ez (l8.trans gD) r;rw[kS r]at g3;cbv;rw[g3];cbv;exact this
  have R:¬s9=some []:=λg=>h0 (F.2 g);rw[if_neg (λg=>R g.1)]at P;have:=gv P t ex l8 h0;rw[kQW h0]at g1;rw[kS h0]at g2;cbv;rw[g1];cbv;rw[g2];cbv;exact this
section
variable {P:Program}
theorem Ut(o:jJ P f fn)(e:Extern.find fn=some (Extern.Atomic.loadT .ptr)){x:Option Addr}(h:w.cell? a=some (.pointer x)):
 (callFunc f #[.pointer (some a)]).run P w=.ok (.value (.pointer x)) w:=by
 rw[run_callFunc_extern o.hf o.wX o.hb o.hn e];change (Sem.run P (do Extern.Atomic.read .ptr (<-asAddr (.pointer (some a)))) w).andThen _=_;simp[Extern.Atomic.read,asAddr,h,Result.andThen]
theorem Pe(o:jJ P f fn)(e:Extern.find fn=some Extern.Atomic.storeT){u:Value}(h:w.cell? a=some u)(z:w.frozen? a=false):
 (callFunc f #[.pointer (some a),.pointer y]).run P w=.ok (.value (.tuple #[])) (w.setCell a (.pointer y)):=by
 rw[run_callFunc_extern o.hf o.wX o.hb o.hn e];change (Sem.run P (do
  store (<-asAddr (.pointer (some a))) (.pointer y) .atomic
  pure Extern.Atomic.none_) w).andThen _=_
 simp[asAddr,h,z,run_store P w a (.pointer y) .atomic rfl,Result.andThen,Extern.Atomic.none_]
theorem Vu(o:jJ P f fn)(e:Extern.find fn=some (Extern.Atomic.loadT .ptr)){x:Option Addr}(c:oJ h a (.pointer x))(d:k (.pointer x) h):
 fL (λ_=>P) (λ_=>Da f [.pointer (some a)]) h k:=
 fL.ext λw b=>⟨_,w,h,Ut o e (c.cell b).1,d,cj.refl b⟩
theorem QA(o:jJ P f fn)(j:Extern.find fn=some Extern.Atomic.storeT){v:Value}(b:oJ h a v)
 (l:∀c e h',h a.block=some (.cells c e (0,0))->h'=bO h a.block (.cells (c.setIfInBounds a.off (.pointer y)) e (0,0))->k (.tuple #[]) h'):
 fL (λ_=>P) (λ_=>Da f [.pointer (some a),.pointer y]) h k:=
 fL.ext λw d=>by
  obtain⟨h',g,i⟩:=b.set (.pointer y) (k:=k (.tuple #[])) l d;exact⟨_,_,h',Pe o j (b.cell d).1 (b.cell d).2,g,i⟩
theorem aJe{s d t:TypeId}(f:P.underlying s=some (.pointer t))(hd:P.underlying d=some .unsafePointer)(A:(P.info? t).map (λi=>decide (i.size=0))=some false){v:Value}(c:oJ h a v)(e:k (.pointer (some a)) h):
 fL (λ_=>P) (λ_=>Go.convert s d (.pointer (some a))) h k:=
 ⟨λw b=>⟨_,w,h,run_convert_to_unsafe f hd A (c.cell b).1,e,cj.refl b⟩⟩
theorem PB{u:Nat}(h:P.cellsOf u≠0)(n:1<=c):liesAt P P.depth u c 0 u 1=true:=by have hd:P.depth=(2*(P.types.size+Made.depth)+1)+1:=rfl;rw[hd];simp only[liesAt,kJa];left;rw[hd];simp[rowAt,h,n,sameLayout]
theorem aJf{s d u z:Nat}(m:P.underlying s=some .unsafePointer)(hd:P.underlying d=some (.pointer u))(i:P.cellsOf u=z)(n:0<z){b:Nat}{c:Array Value}{fr:Nat×Nat}(g:h b=some (.cells c u fr))(f:c.size=z)(l:k (.zP b) h):
 fL (λ_=>P) (λ_=>Go.convert s d (.zP b)) h k:=by
 refine⟨λw a=>⟨.zP b,w,h,?_,l,cj.refl a⟩⟩;have e:=a _ _ g;have X:w.shape? b=some (u,c.size):=by unfold World.shape?;rw[e]
 have J:liesAt P P.depth u (c.size / P.cellsOf u) 0 u 1=true:=PB ip (by rw[i,f,Nat.div_self n];grind);obtain⟨t,Q,j⟩:∃t,P.info? u=some t/\t.size=z:=by
  unfold Program.cellsOf at i;cases o:P.info? u with
  |none=>grind
  |some t=>grind
 simp[convert,Conv.unsafePointer,Conv.seenAt,viewAt,variablesAt,sizeOf,typeInfo,run_underlying m,run_underlying hd,Q,j,X,J,Result.andThen]
end
theorem Ly:Tryz.prog.underlying 154=some .unsafePointer:=by kernel_rfl
theorem LQ:Tryz.prog.underlying 151=some (.pointer 150):=by kernel_rfl
theorem XH:Tryz.prog.cellsOf 150=8:=by kernel_rfl
theorem eQc:jJ Tryz.prog 109 Tryz.f109:=⟨Tryz.func109,by kernel_rfl,by kernel_rfl,by kernel_rfl⟩
theorem eQb:jJ Tryz.prog 120 Tryz.f120:=⟨Tryz.func120,by kernel_rfl,by kernel_rfl,by kernel_rfl⟩
theorem zx{b o x:Nat}(q:oJ h ⟨b,o,none⟩ (.zP x)){c:List Value}(g:h x=zcL 150 c)(a:c.length=8)(d:k (.zP x) h):Ct 43 [.pointer (some ⟨b,o,none⟩)] h k:=by refine cB iQQ Tryz.func43 λA e=>?_;cbv;rw[av A];refine Vu eQc (by kernel_rfl) q ?_;cbv;refine aJf Ly LQ XH dl g a ?_;cbv;exact d
theorem Ah{b o ty:Nat}{x:Value}{c:List Value}(g:h b=zcL ty c)(hx:c[o]? =some x){y:Nat}{v:Value}(q:oJ h ⟨y,0,none⟩ v)(f:∀h',h'=bO h b (.cells (c.set o (.zP y)).toArray ty (0,0))->k (.tuple #[]) h'):Ct 49 [.pointer (some ⟨b,o,none⟩),.zP y] h k:=by refine cB iQM Tryz.func49 λA i=>?_;cbv;rw[av A];refine aJe LQ Ly (by kernel_rfl) q ?_;cbv;refine QA eQb (by kernel_rfl) (cJ g hx) (λc' e a e1 d=>?_);have u:Up h b o (.zP y) a:=⟨c',e,e1,d⟩;have:=f a (u.exp g);cbv;exact this
theorem Fy(l:Bs):(strOf l).size=l.length:=by unfold strOf;show(Array.size _)=_;simp
def eQ(s:rM):Bs:=[u8 1]++pK (strOf (vu s))
def eX(nm:ByteArray):Bs:=[u8 2]++pK nm
theorem bXP(nm:ByteArray)(n:nm.size<=2^40)(c:∀h' b n' c',Le h h'->bA 5 cD h h' (.slice b n' c') (eX nm)->k (.slice b n' c') h'):
 Ct 170 [.string nm] h k:=by
 have D:eX nm=([]++[u8 2])++(gI nm++fX nm):=rfl;rw[D]at c;clear D;refine cB eKd Tryz.func170 λA s=>?_;cbv;refine pG (l:=[]) Sl.nil ip 2 (λr o t p d q=>?_);have a:=q.sl.len;rw[kZA,kXm]at a;cbv;refine BS (e1:=0) q.sl ip nm n (λg e m f i j=>?_);have:=c g e m f (d.trans i) (j.base d);cbv;exact this
theorem cJV(q:Sl 202 bJ h (.slice b n c) cols)(t:n<=2^16)(p:nm.size<=2^40)(r:∀x∈cols,x.name.size<=2^40)
 (i:∀h' g n' c',Le h h'->bA 5 cD h h' (.slice g n' c') (eQ ⟨nm,cols,key,only⟩)->k (.slice g n' c') h'):
 Ct 94 [.agg #[.string nm,.slice b n c,.zI key,.bool only]] h k:=by
 have D:eQ ⟨nm,cols,key,only⟩=([]++[u8 1])++(gI (strOf (vu ⟨nm,cols,key,only⟩))++fX (strOf (vu ⟨nm,cols,key,only⟩))):=rfl;rw[D]at i;clear D;refine cB iQd Tryz.func94 λA G=>?_;cbv;refine pG (l:=[]) Sl.nil ip 1 (λE y J B d j=>?_);have a:=j.sl.len;rw[kZA,kXm]at a;cbv;refine hXu (q.mono (d.t _)) t p r (λF z K C e f=>?_);have H:=Fy (vu ⟨nm,cols,key,only⟩);generalize vu ⟨nm,cols,key,only⟩=S at *;have V:=f.sl.len;have I:=f.sl.bound;cbv;refine rU f.sl ?_;cbv;refine BS (e1:=0) (j.sl.mono (e.t _)) ip (strOf S) ip (λs m v o u w=>?_);have:=i s m v o ((d.trans e).trans u) (w.base (d.trans e));cbv;exact this
structure pV(h:ad)(r p:Nat)(bad:Bool):Prop where
 out:∃d,h r=zcL 299 [.zP p,.zU d,.int .i32 0,.zU 0,.bool bad]/\((bad=false/\d=0)\/(bad=true/\d=1))
theorem pV.lt{b:Bool}(q:pV h r p b)(l:cX [299] h h'):pV h' r p b:=by obtain⟨d,g,hd⟩:=q.out;exact⟨d,l _ _ _ _ dl g,hd⟩
theorem pV.le{b:Bool}(q:pV h r p b)(l:Le h h'):pV h' r p b:=q.lt (l.t _)
theorem dZk{b:Nat}{t:Nat}{s1 s2 s3 s y:Value}(g:h b=some (.cells #[.zP c] t (0,0)))
 (a:h c=zcL 299 [s1,s2,s3,s,y])  (e:k (.tuple #[]) (bO h c (.cells #[s1,s2,s3,s,.bool true] 299 (0,0)))):
 Ct 338 [.zP b] h k:=by
 refine cB eXl Tryz.func338 λA f=>?_;cbv;refine cy g ?_;cbv;rw[av A];refine jE a io (λh' d=>?_);subst d;cbv;exact e
theorem pC{b:Bool}(q:pV h r p b)(s:Bool)(c:∀h',Kp [r] h h'->pV h' r p (b|| !s)->k (.tuple #[]) h'):
 Ct 264 [.zP r,.bool s] h k:=by
 obtain⟨d,g,hd⟩:=q.out;refine cB eZz Tryz.func264 λA o=>?_;cbv;intro i a z e1;have l:Le h a:=zqs e1 z
 have j:a i=some (.cells #[.zP r] 295 (0,0)):=by rw[e1];exact ae
 have m:=l _ _ g;have t:i≠r:=λe=>gg
 clear e1;cbv;rw[o.not];cases s with
 |true=>have:=c a (l.kp _) (by rw[show(b|| !true)=b from by simp];exact q.le l);cbv;exact this
 |false=>
  rw[show(b|| !false)=true from by simp]at c;cbv;refine cy j ?_;cbv;rw[av A];rcases hd with⟨he,rfl⟩|⟨he,rfl⟩
  .refine dQF (f:=338) (fl:=[]) (cl:=[.zP i]) m rfl rfl (λn u=>?_);have Z:n i=some (.cells #[.zP r] 295 (0,0)):=by rw[u,cH t];exact j
   have Q:=zqt u;refine dZk Z Q ⟨rfl,_,ae,rfl,rfl,?_⟩;rw[u,eI,eI];have kp:Kp [r] a (bO a r (.cells #[.zP p,.zU 1,.int .i32 0,.zU 0,.bool true] 299 (0,0))):=Kp.set io;have:=c _ ((l.kp _).trans kp) ⟨1,ae,.inr ⟨rfl,rfl⟩⟩;cbv;exact this
  refine(eQq (cJ m rfl)).mono (λv w hR=>?_);obtain⟨rfl,rfl⟩:=hR;cbv;exact c _ (l.kp _) (by rw[<-he];exact q.le l)
theorem pV.lk{b:Bool}(q:pV h r p b)(k:Kp [r] h h'){tys:List Nat}(e:299∉tys):cX tys h h':=by obtain⟨d,g,-⟩:=q.out;exact Gc k g e
abbrev zr:List Nat:=[61,202,46,45,79,161,183,253]
theorem fD.ls{v:Value}(q:fD h v d)(l:cX zr h h'):fD h' v d:=by obtain⟨_,_,_,_,_,_,_,_,_,_,_,_,ws,rfl,a,b,c,e,f⟩:=q.out;exact⟨_,_,_,_,_,_,_,_,_,_,_,_,ws,rfl,a.mono (l.sub),b.mono (l.sub),c.mono (l.sub),e.mono (l.sub),f⟩
structure yQ(h:ad)(x:Nat)(d:DB)(L:Value×Value×Value×Value):Prop where
 out:∃b1 n1 c1 b2 n2 c2 b3 n3 c3 b4 n4 c4,h x=zcL 150 [.slice b1 n1 c1,.slice b2 n2 c2,.slice b3 n3 c3,.slice b4 n4 c4,L.1,L.2.1,L.2.2.1,L.2.2.2]/\
  fD h (.agg #[.slice b1 n1 c1,.slice b2 n2 c2,.slice b3 n3 c3,.slice b4 n4 c4]) d
theorem yQ.lt{x:Nat}(q:yQ h x d L)(l:cX (150::zr) h h'):yQ h' x d L:=by obtain⟨b,n,f,a,m,i,c,o,j,e,p,k,g,r⟩:=q.out;exact⟨b,n,f,a,m,i,c,o,j,e,p,k,l _ _ _ _ dl g,r.ls (l.sub)⟩
theorem yQ.le{x:Nat}(q:yQ h x d L)(l:Le h h'):yQ h' x d L:=q.lt (l.t _)
theorem _root_.Go.Sx.Kp.up{bs y:List Nat}(k:Kp bs h h')(s:∀b∈bs,b∈y):Kp y h h':=λb o a n=>k b o a (λm=>n (s b m))
def WO:rM:=⟨⟨#[]⟩,[],0,false⟩
def oh(d:DB)(s:St):DB×Bool×St:=match eB (bq s).1 with
 |none=>((bP d WO).1,true,(bq s).2)
 |some x=>((bP d x).1,decide ((bP d x).2≠0),(bq s).2)
theorem Ck(s:St):(bq s).1.length<65536:=by have h:=th (aR 2 s).1 (aR 2 s).2;have a:=xV 2 s;unfold bq;omega
theorem AI(l:Bs):jZ (strOf l)=l:=by unfold jZ strOf;simp
theorem aXJ{l:Bs}(q:Sl e1 cD h (.slice b m c) l)
 (a:∀h' s b n c (e:Int),Le h h'->Sl 202 bJ h' (.slice b n c) s.cols->(eB l=none/\s=WO/\e≠0\/eB l=some s/\e=0)->k (.tuple #[.agg #[.string s.name,.slice b n c,.zI s.key,.bool s.only],.zI e]) h'):
 Ct 262 [.slice b m c] h k:=
 cKc q (λp h' e l d=>a h' WO none 0 0 e l Sl.nil (.inl ⟨p,rfl,d⟩)) (λs h' b n c p l q=>a h' s b n c 0 l q (.inr ⟨p,rfl⟩))
theorem cJT{x:Nat}{t:St}{b:Bool}(qx:yQ h x d L)(qr:pV h r p b)(n:gR h p t)(sm:Small d)
 (j:∀h',Kp [x,r,p] h h'->yQ h' x (oh d t).1 L->pV h' r p (b||(oh d t).2.1)->gR h' p (oh d t).2.2->k (.tuple #[]) h'):
 Ct 143 [.zP x,.zP r] h k:=by
 obtain⟨A,hA⟩:=Ar.ex;obtain⟨dr,gr,IZ⟩:=qr.out;have T:oh d t=match eB (bq t).1 with
  |none=>((bP d WO).1,true,(bq t).2)
  |some x=>((bP d x).1,decide ((bP d x).2≠0),(bq t).2):=rfl
 have S:(strOf (bq t).1).size<=2^40:=by rw[Fy];have:=Ck t;omega
 have mW:A .aQ .eql 0 0=true:=by rw[au A];rfl
 refine kh bXm A Tryz.func143 ?_;cbv;rw[av A];refine cy gr ?_;cbv;refine BR n (λP nx O m q=>?_);have x1:Kp [x,r,p] h P:=m.up io;have Q:=qx.lt (n.lt m dl);have FL:=qr.lt (n.lt m dl);rw[<-O]at S;have B:jZ nx=(bq t).1:=by rw[O,AI]
 rw[<-B]at T;generalize bq t=R1 at *;obtain⟨tx,s1⟩:=R1;have q:gR P p s1:=q;clear O B;cbv;refine xQ S (λn2 c2 m2 h2 zV fA l q2=>?_);cbv;refine aXJ q2 (λh3 s sb sn sc e g q3 Zy=>?_);have T:oh d t=((bP d s).1,(!decide (e=0))||decide ((bP d s).2≠0),s1):=by
  grind
 clear Zy;have JS:=Q.le (l.trans g);have u:=FL.le (l.trans g);have Pp:=q.le (l.trans g);have x3:=x1.trans ((l.trans g).kp _);have ge:A .aQ .eql e 0=decide (e=0):=au A ..;generalize decide (e=0)=t1 at *;obtain⟨nm,cols,key,only⟩:=s;cbv;rw[ge];refine pC u t1 (λh4 f qK=>?_);have x4:=x3.trans (f.up io);have ua:=JS.lt (u.lk f dl);have X:=Pp.mt (u.lk f dl);have q4:=q3.mono (u.lk f dl);obtain⟨b1,n1,c1,b2,me,fU,b3,n3,c3,b4,n4,c4,uj,J⟩:=ua.out;cbv;rw[av A];refine cy uj ?_;cbv;refine Dh J q4 sm (D:=bP d ⟨nm,cols,key,only⟩) rfl (λh5 N wQ W M U I Y rH V E G vH i v=>?_);generalize bP d ⟨nm,cols,key,only⟩=C at *;obtain⟨F,c⟩:=C;have T:oh d t=(F,!t1||decide (c≠0),s1):=T;have fe:A .aQ .eql c 0=decide (c=0):=au A ..;have z:((b|| !t1)|| !decide (c=0))=(b||(!t1||decide (c≠0))):=gg
 rw[T]at j;clear T;have y:=qK.le i;have x5:=x4.trans (i.kp _);have Jd:=i _ _ uj;have v:fD h5 (.agg #[.slice N wQ W,.slice M U I,.slice Y rH V,.slice E G vH]) F:=v;cbv;rw[fe];refine pC y (decide (c=0)) (λR Z yC=>?_);rw[z]at yC;have x6:=x5.trans (Z.up io);have o:=y.lk Z (tys:=150::411::5::zr) dl;have H:=o _ _ _ _ dl Jd;have K:=(X.le i).mt (o.sub);have Ox:=v.ls (o.sub);have fin:∀h',h'=bO R x (.cells #[.slice N wQ W,.slice M U I,.slice Y rH V,.slice E G vH,L.1,L.2.1,L.2.2.1,L.2.2.2] 150 (0,0))->k (.tuple #[]) h':=λh' a=>by
  have w:ep [150] R h':=by rw[a];exact gU H dl
  exact j h' (x6.trans (by rw[a];exact Kp.set io)) ⟨_,_,_,_,_,_,_,_,_,_,_,_,by rw[a];exact ae,Ox.ls (w.t dl)⟩ (yC.lt (w.t dl)) (K.mt (w.t dl))
 clear j z;cbv;rw[av A];refine jE H io (λh' a=>?_);have:=fin h' a;cbv;exact this
def jY(d:DB)(s:St):DB×Bool×St:=((dY d (strOf (bq s).1)).1,decide ((dY d (strOf (bq s).1)).2≠0),(bq s).2)
theorem fQv{x:Nat}{b:Bool}(qx:yQ h x d L)(R:pV h r p b)(Q:gR h p s)
 (e:∀h',Kp [x,r,p] h h'->yQ h' x (jY d s).1 L->pV h' r p (b||(jY d s).2.1)->gR h' p (jY d s).2.2->k (.tuple #[]) h'):
 Ct 144 [.zP x,.zP r] h k:=by
 obtain⟨dr,gr,IZ⟩:=R.out;obtain⟨b1,n1,c1,b2,me,fU,b3,n3,c3,b4,n4,c4,K,g⟩:=qx.out;have T:jY d s=((dY d (strOf (bq s).1)).1,decide ((dY d (strOf (bq s).1)).2≠0),(bq s).2):=rfl;refine cB bXl Tryz.func144 λA hA=>?_;cbv;rw[av A];refine cy K ?_;cbv;rw[av A];refine cy gr ?_;cbv;refine BR Q (λz n O N q=>?_);have x4:Kp [x,r,p] h z:=N.up io;have t:=Q.lt N (tys:=150::299::zr) dl;have V:=t _ _ _ _ dl K;have J:=g.ls (t.sub);have qK:=R.lt (t.sub);rw[<-O]at T;generalize bq s=R1 at *;obtain⟨tx,s1⟩:=R1;have q:gR z p s1:=q;clear O;cbv;refine cy V ?_;cbv;refine zqr ?_;cbv;refine SX J n (D:=dY d n) rfl (λh5 M Y y w U H I S E m F X l v=>?_);generalize dY d n=C at *;obtain⟨o,c⟩:=C;have T:jY d s=(o,decide (c≠0),s1):=T;have fe:A .aQ .eql c 0=decide (c=0):=au A ..;have u:(b|| !decide (c=0))=(b||decide (c≠0)):=io
 rw[T]at e;clear T;have j:=qK.le l;have x5:=x4.trans (l.kp _);have Jd:=l _ _ V;have v:fD h5 (.agg #[.slice M Y y,.slice w U H,.slice I S E,.slice m F X]) o:=v;cbv;rw[fe];refine pC j (decide (c=0)) (λB P Z=>?_);rw[u]at Z;have x6:=x5.trans (P.up io);have f:=j.lk P (tys:=150::411::5::zr) dl;have G:=f _ _ _ _ dl Jd;have W:=(q.le l).mt (f.sub);have Ox:=v.ls (f.sub);have fin:∀h',h'=bO B x (.cells #[.slice M Y y,.slice w U H,.slice I S E,.slice m F X,L.1,L.2.1,L.2.2.1,L.2.2.2] 150 (0,0))->k (.tuple #[]) h':=λh' a=>by
  have i:ep [150] B h':=by rw[a];exact gU G dl
  exact e h' (x6.trans (by rw[a];exact Kp.set io)) ⟨_,_,_,_,_,_,_,_,_,_,_,_,by rw[a];exact ae,Ox.ls (i.t dl)⟩ (Z.lt (i.t dl)) (W.mt (i.t dl))
 clear e u;cbv;rw[av A];refine jE G io (λh' a=>?_);have:=fin h' a;cbv;exact this
def uB(d:DB)(l:Bs):DB×Bool:=
 if(aR 1 (some l)).1=1 then((oh d (aR 1 (some l)).2).1,!(oh d (aR 1 (some l)).2).2.1&&decide ((oh d (aR 1 (some l)).2).2.2=some []))
 else((jY d (aR 1 (some l)).2).1,!(jY d (aR 1 (some l)).2).2.1&&decide ((jY d (aR 1 (some l)).2).2.2=some []))
theorem jJC{x:Nat}(W:yQ h x d L){l:Bs}(q:Sl e1 cD h (.slice b m c) l)(sm:Small d)(t:(aR 1 (some l)).1=1\/(aR 1 (some l)).1=2)
 (f:∀h',Kp [x] h h'->yQ h' x (uB d l).1 L->k (.bool (uB d l).2) h'):
 Ct 64 [.zP x,.slice b m c] h k:=by
 obtain⟨A,N⟩:=Ar.ex;have hR:uB d l=if(aR 1 (some l)).1=1 then((oh d (aR 1 (some l)).2).1,!(oh d (aR 1 (some l)).2).2.1&&decide ((oh d (aR 1 (some l)).2).2.2=some []))
  else((jY d (aR 1 (some l)).2).1,!(jY d (aR 1 (some l)).2).2.1&&decide ((jY d (aR 1 (some l)).2).2.2=some [])):=rfl
 obtain⟨_,_,_,_,_,_,_,_,_,_,_,_,gx,-⟩:=W.out;have z:A .aQ .eql 1 1=true:=by rw[au A];rfl
 have B:A .aQ .eql 2 1=false:=by rw[au A];rfl
 have E:A .aQ .eql 2 2=true:=by rw[au A];rfl
 refine kh fZz A Tryz.func64 ?_;cbv;refine Wd q (λh1 p hp R q1=>?_);cbv;intro r F O w;have S:Le h1 F:=zqs w O
 have M:F r=zcL 299 [.zP p,.zU 0,.int .i32 0,.zU 0,.bool false]:=zqt w;have Y:pV F r p false:=⟨0,M,.inl ⟨rfl,rfl⟩⟩;have V:=q1.le S;have fk:=R.trans S;have uh:=R.none O;clear w;cbv;rw[av A];refine cy M ?_;cbv;refine tY V (λG Q D P n=>?_);have T:Le h G:=fk.bf (bs:=[p]) (iu hp) P;have X:=Y.lt (V.lt P dl);have J:=W.le T;generalize aR 1 (some l)=Z at *;obtain⟨U,s1⟩:=Z;have n:gR G p s1:=n;have I:∀h',Kp [x,r,p] G h'->Kp [x] h h':=λh' k'=>by
  intro b0 o hb hn;refine k' b0 o (T _ _ hb) (λhm=>?_)
  grind
 rcases t with t|t
 .have t:U=1:=t;subst t;have D:Q=1:=D;subst D;have hR:uB d l=((oh d s1).1,!(oh d s1).2.1&&decide ((oh d s1).2.2=some [])):=hR;rw[hR]at f;clear hR;cbv;rw[z];cbv;refine cJT J X n sm (λa H u K g=>?_);have j:=I a H;generalize oh d s1=C at *;obtain⟨v,i,s⟩:=C;have g:gR a p s:=g;have K:pV a r p i:=gg
  have u:yQ a x v L:=u;obtain⟨d4,y,-⟩:=K.out;cbv;rw[av A];refine cy y ?_;cbv;rw[N.not];cases i with
  |true=>have:=f a j u;cbv;exact this
  |false=>
   cbv;rw[av A];refine cy y ?_;cbv;refine Ot g (λe he=>?_);have ge:A .aQ .eql e 0=decide (s=some []):=by rw[au A];grind
   have f:k (.bool (decide (s=some []))) a:=f a j u;cbv
   grind
 have t:U=2:=t;subst t;have D:Q=2:=D;subst D;have hR:uB d l=((jY d s1).1,!(jY d s1).2.1&&decide ((jY d s1).2.2=some [])):=hR;rw[hR]at f;clear hR;cbv;rw[B];cbv;rw[E];cbv;refine fQv J X n (λa H u K g=>?_);have j:=I a H;generalize jY d s1=C at *;obtain⟨v,i,s⟩:=C;have g:gR a p s:=g;have K:pV a r p i:=gg
 have u:yQ a x v L:=u;obtain⟨d4,y,-⟩:=K.out;cbv;rw[av A];refine cy y ?_;cbv;rw[N.not];cases i with
 |true=>have:=f a j u;cbv;exact this
 |false=>
  cbv;rw[av A];refine cy y ?_;cbv;refine Ot g (λe he=>?_);have ge:A .aQ .eql e 0=decide (s=some []):=by rw[au A];grind
  have f:k (.bool (decide (s=some []))) a:=f a j u;cbv
  grind
def dz:DB:=⟨[],[],[],[]⟩
abbrev L0:Value×Value×Value×Value:=(.zI 0,.zN,.zN,.zN)
def nj:DB->List Bs->Option DB
 |d,[]=>some d
 |d,l::r=>if(uB d l).2 then nj (uB d l).1 r else none
theorem IB(l:Bs):∀(r:List Bs) (d:DB),nj d (r++[l])=(nj d r).bind λa=>if(uB a l).2 then some (uB a l).1 else none:=λr=>by
 induction r with
 |nil=>intro d;grind [nj]
 |cons y r i=>
  intro d
  grind [nj]
theorem Pq:∀(i:Nat) (r:List Bs) (d:DB),nj d (r.take i)=none->nj d r=none:=λi=>by
 induction i with
 |zero=>intro r d h;rw[List.take_zero]at h;cases h
 |succ i a=>
  intro r d h;cases r with
  |nil=>cases h
  |cons y r=>
   grind [nj]
structure cJW(h:ad)(s g x:Nat):Prop where
 out:h s=zcL 158 [.zP g,.zP x]
theorem fQk{D:Dk}(q:oa h p D)(hP:1<=D.now.length)(rJ:∀l∈(gK D).1.fj,(aR 1 (some l)).1=1\/(aR 1 (some l)).1=2)
 (hS:∀i a,nj dz ((gK D).1.fj.take i)=some a->Small a) 
 (n:((gK D).2≠0\/(gK D).1.bad=true\/nj dz (gK D).1.fj=none)->∀h' (e:Int),ep Sa h h'->e≠0->k (.tuple #[.pointer none,.zI e]) h')
 (S:∀h' s g x d,(gK D).2=0->(gK D).1.bad=false->nj dz (gK D).1.fj=some d->ep Sa h h'->cJW h' s g x->Jw h' g p (gK D).1.size (gK D).1.count->yQ h' x d L0->k (.tuple #[.zP s,.zI 0]) h'):
 Ct 19 [.zP p] h k:=by
 obtain⟨A,hA⟩:=Ar.ex;have mW:A .aQ .neq 0 0=false:=by rw[aJ A];rfl
 refine kh dQQ A Tryz.func19 ?_;cbv;refine aXN q hP (λV e K he hb=>?_) (λV g b m c h0 Z K ql I=>?_)
 .have bV:e≠0:=by
   grind
  have:=n gg V e K bV;have fe:A .aQ .neq e 0=true:=by rw[aJ A];grind
  clear n S he hb;cbv;rw[fe];cbv;exact this
 generalize (gK D).1.fj=j at *;generalize (gK D).1.size=sz at *;generalize (gK D).1.count=cn at *;have ab:=I.len;obtain⟨al,ag⟩:=I.bound;cbv;rw[mW];cbv;intro x o hx M;have F:Le V o:=zqs M hx
 have N:o x=zcL 150 [.zN,.zN,.zN,.zN,.zI 0,.zN,.zN,.zN]:=zqt M;have qx:yQ o x dz L0:=⟨_,_,_,_,_,_,_,_,_,_,_,_,N,⟨_,_,_,_,_,_,_,_,_,_,_,_,[],rfl,Sl.nil,Sl.nil,Sl.nil,Sl.nil,rfl⟩⟩;clear M;obtain⟨J,H⟩:∃J:Nat->Int->ad->Prop,∀w z h',J w z h'=(∃i a,bg z i/\w=m-i/\i<=m/\Kp [x] o h'/\yQ h' x a L0/\nj dz (j.take i)=some a):=⟨_,λ_ _ _=>rfl⟩;have P:J m 0 o:=by rw[H];exact⟨0,dz,⟨rfl⟩,rfl,ip,Kp.refl _ _,qx,rfl⟩
 cbv;refine ba.gz (G:=Int) (λz=>[(27,.v (.zI z))]) (λ_=>[]) (λw z h'=>J w z h') m 0 P ?_
 intro w z y hI;rw[H]at hI;cbv;obtain⟨i,a,C,hw,hi,E,q3,hp⟩:=hI;have x3:ep Sa h y:=K.trans ((F.bf (bs:=[x]) (iu hx) E).x _);have fl:A .aQ .lss z (A .nat m)=decide (i<m):=by rw[aV A,C.eq,hA.nat];grind
 rw[fl];by_cases Y:i<m
 .obtain⟨l,hl⟩:=cK j i;have O:=rJ l (kQR hl);have sm:=hS i a hp;have ix:=C.ix Y;have Pp:=I.mono ((F.t _).trans (Gc E N dl));have R:nj dz (j.take (i+1))=if(uB a l).2 then some (uB a l).1 else none:=by
   rw[kJG,hl]
   grind [nj,dz,IB]
  have aZ:m-(i+1)<w:=ip
  have ly:=C.succ (A:=A);rw[kS Y];clear fl P;cbv;refine⟨⟨I.bu,ix⟩,?_⟩;cbv;refine Pp.load hl C.eq (λcs ar=>?_);obtain⟨v,rfl,qv⟩:=ar;obtain⟨vb,vm,vc,rfl⟩:∃vb vm vc,v=.slice vb vm vc:=by
   obtain⟨b',cap,e1,-⟩:=qv.out
   grind
  cbv;refine jJC q3 qv sm O (λf k4 q4=>?_);have X:=E.trans k4;have L:(uB a l).2=true->J (m-(i+1)) (A .aX .add .i64 z 1) f:=λht=>by
   grind
  have Q:(uB a l).2=false->k (.tuple #[.pointer none,.zI 10]) f:=λht=>
   n (.inr (.inr (Pq (i+1) _ _ gg))) f 10 (K.trans ((F.bf (bs:=[x]) (iu hx) X).x _)) dl
  clear H n S R hS rJ q4;generalize (uB a l).2=t at *;cbv;rw[hA.not];cases t with
  |true=>
   have:=L rfl;clear L Q;cbv;refine zqn (m-(i+1)) (A .aX .add .i64 z 1) aZ this
  |false=>have:=Q rfl;clear L Q;cbv;exact this
 have UY:i=m:=ip
 have uf:j.take i=j:=kXe ip;rw[uf]at hp;rw[kQW Y];have T:∃r,r.length=8/\y x=zcL 150 r:=by obtain⟨_,_,_,_,_,_,_,_,_,_,_,_,U,-⟩:=q3.out;exact⟨_,rfl,U⟩
 obtain⟨r,ak,U⟩:=T;clear fl H P n;cbv;intro s f hs u;have l4:Le y f:=zqs u hs
 have g4:f s=zcL 158 [.zP g,.pointer none]:=zqt u;have hq:∀h',h'=bO f s (.cells #[.zP g,.zP x] 158 (0,0))->k (.tuple #[.zP s,.zI 0]) h':=λh' B=>by
  have W:Le y h':=by rw[B,u,eI];exact Le.set hs
  exact S h' s g x a h0 Z hp (x3.trans (W.x _)) ⟨by rw[B];exact ae⟩ ((ql.lt ((F.t _).trans (Gc E N dl))).lt (W.t _)) (q3.le W)
 have uj:=l4 _ _ U;clear u S;cbv;rw[av A];refine Ah g4 rfl (cJ (x:=r[0]) uj (kZG _)) (λh' B=>?_);have:=hq h' B;cbv;exact this
theorem bJA{d i b s g x:Nat}{e:Int}{t:List Value}(ge:h d=some (.cells #[.zI e] 33 (0,0)))(j:h i=some (.cells #[.zP s] 38 (0,0)))(q:cJW h s g x)
 (l:h b=zcL 150 t) (o:t.length=8)  (v:e≠0->k (.tuple #[]) h)
 (f:e=0->∀h',h'=bO h s (.cells #[.zP g,.zP b] 158 (0,0))->k (.tuple #[]) h'):
 fZK 128 [.zP d,.zP i,.zP b] h k:=by
 obtain⟨A,n⟩:=Ar.ex;have a:A .aQ .eql e 0=decide (e=0):=au A ..;refine yf A (aj eKM.aw eKM.bz) Tryz.func128 rfl (by kernel_rfl) ?_;cbv;refine cy ge ?_;cbv;rw[a];by_cases c:e=0
 .have:=f c;rw[kS c];clear v f a;cbv;refine cy j ?_;cbv;rw[av A];refine Ah q.out rfl (cJ (x:=t[0]) l (kZG _)) (λh' m=>?_);have:=this h' m;cbv;exact this
 have:=v c;rw[kQW c];clear v f a;cbv;exact this
structure DO(h:ad)(s p:Nat)(G:Lg)(d:DB)(L:Value×Value×Value×Value):Prop where
 out:∃g x,cJW h s g x/\Jw h g p (G.s:Int) (G.n:Int)/\oa h p G.D/\yQ h x d L
abbrev JE:List Nat:=158::cKP
theorem eQB{s:Nat}{G:Lg}{d':DB}(q:DO h s p G d L){l:Bs}(qb:Sl 5 cD h (.slice b m c) l)(hs:G.s<=2^29)(hn:G.n<=2^29)(hm:m<=2^28)(hw:G.D.ws.length<=2^28)
 {w z B:Option Addr} {I C J D K E M F:Nat} (qd:fD h (.agg #[.slice w I C,.slice y J D,.slice z K E,.slice B M F]) d') 
 (hk:∀h',ep JE h h'->DO h' s p (aY G l).2 (if(aY G l).1=0 then d' else d) L->k (.zI (aY G l).1) h'):
 Ct 52 [.zP s,.slice b m c,.agg #[.slice w I C,.slice y J D,.slice z K E,.slice B M F,L.1,L.2.1,L.2.2.1,L.2.2.2]] h k:=by
 obtain⟨A,hA⟩:=Ar.ex;obtain⟨g,x,qs,ql,qk,qx⟩:=q.out;obtain⟨Q,T,U,W⟩:=L;refine oE A (aj fZB.aw fZB.bz) Tryz.func52 rfl (by kernel_rfl) ?_;cbv;intro sc h1 ab e1;have l1:Le h h1:=zqs e1 ab
 have g1:h1 sc=zcL 38 [.zP s]:=zqt e1;cbv;intro u h2 nO e2;have l2:Le h1 h2:=zqs e2 nO
 have g2:h2 u=zcL 150 [.slice w I C,.slice y J D,.slice z K E,.slice B M F,Q,T,U,W]:=zqt e2;cbv;intro i h3 O e3;have l3:Le h2 h3:=zqs e3 O
 have g3:h3 i=zcL 33 [.zI 0]:=zqt e3;have N:=(l1.trans l2).trans l3;clear e1 e2 e3;have r:=l3 _ _ (l2 _ _ g1);have S:=l3 _ _ g2;have Z:=N _ _ qs.out;have X:=qk.le N;have Ow:=ql.lt (N.t _);have JS:=qx.le N;cbv;refine cy r ?_;cbv;rw[av A];refine cy Z ?_;cbv;refine TE X Ow (qb.mono (N.t _)) hs hn hm hw (λH Y Wi Eu=>?_);generalize aY G l=R at *;obtain⟨e,j⟩:=R;have Wi:oa H p j.D:=Wi;have Eu:Jw H g p (j.s:Int) (j.n:Int):=Eu;have hk:∀h',ep JE h h'->DO h' s p j (if e=0 then d' else d) (Q,T,U,W)->k (.zI e) h':=hk;have ne:∀ {bl:Nat} {cs:Array Value} {t:Nat} {fr:Nat×Nat},h3 bl=some (.cells cs t fr)->t∉cKP->H bl=some (.cells cs t fr):=λhb ht=>Y _ _ hb (λ_ _ _ he=>gg);have g4:=ne g3 dl;have an:=ne r dl;have al:=ne S dl;have ak:=ne Z dl;have ua:=JS.lt (Y.t dl);have Rd:ep JE h H:=(N.x _).trans (Y.sup dl);have aq:sc≠i:=λe=>gg
 have ao:u≠i:=λe=>gg
 have P:s≠i:=λe=>gg
 have az:h i=none:=(l1.trans l2).none O;have t4:=(qd.mono (N)).ls (Y.t dl);have fin:∀a,a=bO H i (.cells #[.zI e] 33 (0,0))->ep JE h a/\oa a p j.D/\Jw a g p (j.s:Int) (j.n:Int)/\yQ a x d (Q,T,U,W)/\fD a (.agg #[.slice w I C,.slice y J D,.slice z K E,.slice B M F]) d'/\
  a i=some (.cells #[.zI e] 33 (0,0))/\a sc=some (.cells #[.zP s] 38 (0,0))/\a u=zcL 150 [.slice w I C,.slice y J D,.slice z K E,.slice B M F,Q,T,U,W]/\cJW a s g x:=λa f=>by
  have v:ep [33] H a:=by rw[f];exact gU g4 dl
  refine⟨?_,Wi.lt (v.t dl),Eu.lt (v.t dl),ua.lt (v.t dl),t4.ls (v.t dl),by rw[f];exact ae,by rw[f,cH aq];exact an,by rw[f,cH ao];exact al,⟨by rw[f,cH P];exact ak⟩⟩;intro b0 o hb bV;rw[f,cH (λe=>gg)];exact Rd b0 o hb bV
 clear X Ow JS Wi Eu ua g3 r S Z t4 Y;cbv;refine jE g4 io (λa f=>?_);obtain⟨v,Dx,xT,aA,vK,n,ag,V,RJ⟩:=fin a f;clear fin f;cbv;refine bJA n ag RJ V rfl (λbV=>?_) (λh0 h6 f=>?_)
 .have:=hk a v ⟨g,x,RJ,xT,Dx,gg⟩;cbv;refine cy n ?_;cbv;exact this
 have x6:ep [158] a h6:=by rw[f];exact gU RJ.out dl
 have ax:h6 i=some (.cells #[.zI e] 33 (0,0)):=by rw[f,cH (Ne.symm P)];exact n
 have ar:u≠s:=λe=>gg
 have aw:h6 u=zcL 150 [.slice w I C,.slice y J D,.slice z K E,.slice B M F,Q,T,U,W]:=by rw[f,cH ar];exact V
 have:=hk h6 (v.trans (x6.sup dl)) ⟨g,u,⟨by rw[f];exact ae⟩,xT.lt (x6.t dl),Dx.lt (x6.t dl),by rw[if_pos h0];exact⟨_,_,_,_,_,_,_,_,_,_,_,_,aw,vK.ls (x6.t dl)⟩⟩;cbv;refine cy ax ?_;cbv;exact this
end Go.S
