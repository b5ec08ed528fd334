import Derived.Test.YtficmdggjjepmaaGreatBB
import Derived.Test.YtficmdggjjepmaaGreatGB
set_option linter.all false
set_option maxRecDepth 100000
set_option maxHeartbeats 8000000
namespace Go.S
open Go.Sx Go.Proofs
variable {p:Nat}{s:St}{k:Value->ab->Prop}{h h':ab}
structure Lg where
 D:Dk
 s:Nat
 n:Nat
def oY(s n:Nat):Bs:=cC (s:Int)++cC (n:Int)
def NI(g:Lg)(l:Bs):Int×Dk:=cJ (aY (bR g.D g.s (cC (l.length:Int)++l)).2 0 (oY (g.s+8+l.length) (g.n+1))).2
def bp(g:Lg)(l:Bs):Int×Lg:=
 if l.length>65536 then(5,g)
 else if(l.length:Int)+8>((g.D.now.length:Int)-1)*64-g.s then(14,g)
 else if(bR g.D g.s (cC (l.length:Int)++l)).1≠0 then((bR g.D g.s (cC (l.length:Int)++l)).1,{ g with D:=(bR g.D g.s (cC (l.length:Int)++l)).2 })
 else if(aY (bR g.D g.s (cC (l.length:Int)++l)).2 0 (oY (g.s+8+l.length) (g.n+1))).1≠0 then((aY (bR g.D g.s (cC (l.length:Int)++l)).2 0 (oY (g.s+8+l.length) (g.n+1))).1,{ g with D:=(aY (bR g.D g.s (cC (l.length:Int)++l)).2 0 (oY (g.s+8+l.length) (g.n+1))).2 })
 else if(NI g l).1≠0 then((NI g l).1,{ g with D:=(NI g l).2 })
 else(0,⟨(NI g l).2,g.s+8+l.length,g.n+1⟩)
theorem zl:∀(n:Nat) (D:Dk) (pg:Nat) (b:Bs),b.length<=n->(cO D pg b).2.ws.length<=D.ws.length+b.length:=λn=>by
 induction n with
 |zero=>
  intro D pg b a;have:b=[]:=ee (by omega);rw[cO,dif_pos this];unfold cJ;split
  .exact Nat.le_add_right _ _
  split
  .rw[zI];exact Nat.le_add_right _ _
  exact qT _
 |succ n i=>
  intro D pg b a;rw[cO];split
  .unfold cJ;split
   .exact Nat.le_add_right _ _
   split
   .rw[zI];exact Nat.le_add_right _ _
   exact qT _
  rename_i m;have k:=hJS.2 m;have c:=wq D pg (b.take 64);split
  .omega
  have h:=i (aY D pg (b.take 64)).2 (pg+1) (b.drop 64) (by rw[ec];omega);rw[ec]at h;omega
theorem CH(D:Dk)(s:Nat)(b:Bs):(bR D s b).2.ws.length<=D.ws.length+(b.length+64):=by
 unfold bR;split
 .have:=zl _ D (1+s / 64) b (mr _);omega
 split
 .exact Nat.le_add_right _ _
 have:=zl _ D (1+s / 64) ((bQ D ((1+s / 64:Nat):Int)).take (s % 64)++b) (mr _);have h:s % 64<64:=hKv _ (by decide);rw[dr,dW]at this;omega
theorem _root_.Go.Sx.cY.sup{ex f:List Nat}(x:cY ex h h')(s:∀t∈ex,t∈f):cY f h h':=λb o a m=>x b o a (λc e fr d g=>m c e fr d (s e g))
def bA(s:St):Bool×St:=(decide ((ar 1 s).1=1),if(ar 1 s).1>1 then none else(ar 1 s).2)
theorem pI(q:fF h p s)(a:∀h' x,x=((ar 1 s).1:Int)->Kp [p] h h'->fF h' p (ar 1 s).2->k (.int .i64 x) h'):
 Ct 109 [.pointer (some ⟨p,0,none⟩)] h k:=dQl q λh' b c=>a h' _ rfl b c
theorem Yc(q:fF h p s)(a:∀h' x,x=IntKind.i64.wrap ((ar 8 s).1:Int)->Kp [p] h h'->fF h' p (ar 8 s).2->k (.int .i64 x) h'):
 Ct 107 [.pointer (some ⟨p,0,none⟩)] h k:=TK q λh' b c=>a h' _ rfl b c
theorem vU(q:fF h p s)(a:∀h' x,x=strOf (aG s).1->Kp [p] h h'->fF h' p (aG s).2->k (.string x) h'):
 Ct 111 [.pointer (some ⟨p,0,none⟩)] h k:=cXj q λh' b c=>a h' _ rfl b c
theorem Tc(q:fF h p s)(a:∀h',Kp [p] h h'->fF h' p (bA s).2->k (.bool (bA s).1) h'):
 Ct 200 [.pointer (some ⟨p,0,none⟩)] h k:=by
 have T:bA s=(decide ((ar 1 s).1=1),if(ar 1 s).1>1 then none else(ar 1 s).2):=rfl;refine cp cJq Tryz.func200 λA m=>?_;cbv;refine pI q (λg x hx d e=>?_);have f:A .az .gtr x 1=decide ((ar 1 s).1>1):=by rw[aO A];exact decide_eq_decide.2 (by omega)
 have b:A .az .eql x 1=decide ((ar 1 s).1=1):=by rw[aq A];exact decide_eq_decide.2 (by omega)
 clear hx;by_cases c:(ar 1 s).1>1
 .rw[if_pos c]at T;rw[T]at a;rw[aH c]at f;cbv;rw[f];cbv;refine pH e 10 (λi j l=>?_);have:=a i (d.trans j) l;cbv;rw[b];exact this
 rw[if_neg c]at T;rw[T]at a;rw[ag c]at f;have:=a g d e;cbv;rw[f];cbv;rw[b];exact this
def sW(s:St):gY×St:=(⟨strOf (aG s).1,((ar 1 (aG s).2).1:Int),(bA (ar 1 (aG s).2).2).1⟩,(bA (ar 1 (aG s).2).2).2)
def ey:Nat->St->List gY×St
 |0,s=>([],s)
 |n+1,s=>((sW s).1::(ey n (sW s).2).1,(ey n (sW s).2).2)
def iH(nm:ByteArray)(c:List gY×St):Option rM:=
 if(bA (ar 8 c.2).2).2=some []/\dA ⟨nm,c.1,IntKind.i64.wrap ((ar 8 c.2).1:Int),(bA (ar 8 c.2).2).1⟩=0 then
  some ⟨nm,c.1,IntKind.i64.wrap ((ar 8 c.2).1:Int),(bA (ar 8 c.2).2).1⟩else none
def dc(b:Bs):Option rM:=
 if(ar 1 (aG (some b)).2).1>6 then iH (strOf (aG (some b)).1) (ey 0 none)
 else iH (strOf (aG (some b)).1) (ey (ar 1 (aG (some b)).2).1 (ar 1 (aG (some b)).2).2)
theorem fF.mt(q:fF h p s)(l:cf [361,5] h h'):fF h' p s:=by obtain⟨r,b,e⟩:=q.out;obtain⟨bb,n,c,d,g,sl,a⟩:=b.out;exact⟨r,⟨bb,n,c,d,l _ _ _ _ (by decide) g,sl.mono (l.sub),a⟩,e⟩
theorem TC{e1:Nat}{b:Option Addr}{m c:Nat}{l:Bs}(q:Sl e1 bS h (.slice b m c) l)
 (dq:dc l=none->∀h' (e:Int),Le h h'->e≠0->k (.tuple #[.agg #[.string ⟨#[]⟩,.slice none 0 0,.int .i64 0,.bool false],.int .i64 e]) h')
 (de:∀s h' b n c,dc l=some s->Le h h'->Sl 58 bt h' (.slice b n c) s.aW->k (.tuple #[.agg #[.string s.name,.slice b n c,.int .i64 s.key,.bool s.only],.int .i64 0]) h'):
 Ct 110 [.slice b m c] h k:=by
 obtain⟨A,hA⟩:=Ar.ex;have H:tA 4 (ar 1 (aG (some l)).2).2=none:=rfl;have P:dc l=if(ar 1 (aG (some l)).2).1>6 then iH (strOf (aG (some l)).1) (ey 0 none)
  else iH (strOf (aG (some l)).1) (ey (ar 1 (aG (some l)).2).1 (ar 1 (aG (some l)).2).2):=rfl
 refine Da A [false,false,false,false,true] (ah cKG.aw cKG.aP) Tryz.func110 rfl (by kernel_rfl) ?_;cbv;refine JZ q (λt p D l1 q1=>?_);cbv;refine vU q1 (λh2 o yT k2 q2=>?_);have l2:Le h h2:=l1.aE (bs:=[p]) (by simpa using D) k2;rw[<-yT]at P;generalize aG (some l)=W at *;obtain⟨nm,S⟩:=W;have q2:fF h2 p S:=q2;cbv;refine pI q2 (λh3 nz Z k3 q3=>?_);have l3:Le h h3:=l2.aE (bs:=[p]) (by simpa using D) k3;have P:dc l=if(ar 1 S).1>6 then iH o (ey 0 none)else iH o (ey (ar 1 S).1 (ar 1 S).2):=P
 have H:tA 4 (ar 1 S).2=none:=H;generalize ar 1 S=R2 at *;obtain⟨R,s2⟩:=R2;have q3:fF h3 p s2:=q3;have Z:nz=(R:Int):=Z;have f1:A .az .gtr nz 6=decide (R>6):=by rw[aO A];exact decide_eq_decide.2 (by omega)
 have P:dc l=if R>6 then iH o (ey 0 none)else iH o (ey R s2):=P
 obtain⟨C,M⟩:∃C:Int->ab->Prop,∀z t,C z t=(∃a B,aM z a/\a<=6/\Le h t/\fF t p B/\dc l=iH o (ey a B)):=⟨_,λ_ _=>rfl⟩;clear yT;cbv;refine jA.go (G:=Int) (λz=>[(6,.v (.int .i64 z))]) (λ_=>[(2,[.string ⟨#[]⟩,.slice none 0 0,.int .i64 0,.bool false]),(5,[.string o,.slice none 0 0,.int .i64 0,.bool false])]) C ?_ ?_
 .cbv;rw[f1];by_cases r:R>6
  .rw[if_pos r]at P;have hC:∀h',Kp [p] h3 h'->fF h' p none->C 0 h':=λh' k' q'=>by
    rw[M];exact⟨0,none,⟨rfl⟩,by omega,l3.aE (bs:=[p]) (by simpa using D) k',q',P⟩
   rw[aH r];clear M P f1 dq de;cbv;refine pH q3 4 (λh4 k4 q4=>?_);have hC:=hC h4 k4 q4;cbv;refine⟨0,by constructor<;>cbv,hC⟩
  rw[if_neg r]at P;have hC:C nz h3:=by rw[M];exact⟨R,s2,⟨Z⟩,by omega,l3,q3,P⟩
  rw[ag r];clear M P f1 dq de;cbv;refine⟨nz,by constructor<;>cbv,hC⟩
 intro z h4 r;rw[M]at r;obtain⟨a,B,ak,QU,l4,q4,P⟩:=r;clear M f1 H q1 q2 q3 k2 k3 l1 l2 l3;obtain⟨J,Y⟩:∃J:Nat->((Option Addr×Nat×Nat)×Int)->ab->Prop,∀w g h',J w g h'=(∃i d f,aM g.2 i/\w=a-i/\i<=a/\Le h h'/\fF h' p d/\aT 58 bt h h' (.slice g.1.1 g.1.2.1 g.1.2.2) f/\f.length=i/\f++(ey (a-i) d).1=(ey a B).1/\(ey (a-i) d).2=(ey a B).2):=⟨_,λ_ _ _=>rfl⟩;have eP:J a ((none,0,0),0) h4:=by rw[Y];exact⟨0,B,[],⟨rfl⟩,rfl,by omega,l4,q4,aT.nil,rfl,rfl,rfl⟩
 cbv;refine aK.go (G:=(Option Addr×Nat×Nat)×Int) (λg=>[(20,.v (.int .i64 g.2))]) (λg=>[(2,[.string ⟨#[]⟩,.slice none 0 0,.int .i64 0,.bool false]),(5,[.string o,.slice g.1.1 g.1.2.1 g.1.2.2,.int .i64 0,.bool false])]) (λw g h'=>J w g h') a ((none,0,0),0) (by constructor<;>cbv) eP ?_
 .intro w g h5 hI;rw[Y]at hI;cbv;obtain⟨⟨gb,N,gc⟩,V⟩:=g;obtain⟨i,d,f,eW,hw,hi,l5,q5,b5,ud,U,E⟩:=hI;have eW:aM V i:=eW;have b5:aT 58 bt h h5 (.slice gb N gc) f:=b5;have pW:=b5.sl.len;have f2:A .az .lss V z=decide (i<a):=by rw[aJ A,eW.eq,ak.eq];exact decide_eq_decide.2 (by omega)
  rw[f2];by_cases r:i<a
  .have au:ey (a-i) d=((sW d).1::(ey (a-(i+1)) (sW d).2).1,(ey (a-(i+1)) (sW d).2).2):=by
    have:a-i=(a-(i+1))+1:=by omega
    rw[this];rfl
   rw[au]at U E;have F:∀h' j m' c',m'=N+1->Le h h'->fF h' p (sW d).2->aT 58 bt h h' (.slice j m' c') (f++[(sW d).1])->J (a-(i+1)) ((j,m',c'),A .aC .add .i64 V 1) h':=λh' j m' c' e l' q' j=>by
    rw[Y];refine⟨i+1,_,_,eW.succ (A:=A),rfl,by omega,l',q',j,?_,?_,E⟩
    .rw[dr,ud];rfl
    rw[<-U];simp
   have aI:a-(i+1)<w:=by omega
   rw[aH r];have ai:sW d=(⟨strOf (aG d).1,((ar 1 (aG d).2).1:Int),(bA (ar 1 (aG d).2).2).1⟩,(bA (ar 1 (aG d).2).2).2):=rfl;rw[ai]at F;clear Y eP au ai U E f2 dq de P r;cbv;refine vU q5 (λO nx fW k6 K=>?_);have t6:cf [58] h5 O:=q5.lt k6 (by decide);have l6:Le h O:=l5.aE (bs:=[p]) (by simpa using D) k6;rw[<-fW]at F;generalize aG d=W at *;obtain⟨aW,T⟩:=W;have K:fF O p T:=K;cbv;refine pI K (λx kx KW k7 y=>?_);have t7:cf [58] O x:=K.lt k7 (by decide);have l7:Le h x:=l6.aE (bs:=[p]) (by simpa using D) k7;have F:∀h' j m' c',m'=N+1->Le h h'->fF h' p (bA (ar 1 T).2).2->aT 58 bt h h' (.slice j m' c') (f++[⟨nx,((ar 1 T).1:Int),(bA (ar 1 T).2).1⟩])->J (a-(i+1)) ((j,m',c'),A .aC .add .i64 V 1) h':=F;have KW:kx=((ar 1 T).1:Int):=KW;rw[<-KW]at F;generalize ar 1 T=R2 at *;obtain⟨nk,s4⟩:=R2;have y:fF x p s4:=y;cbv;refine Tc y (λu k8 L=>?_);have t8:cf [58] x u:=y.lt k8 (by decide);have l8:Le h u:=l7.aE (bs:=[p]) (by simpa using D) k8;have F:∀h' j m' c',m'=N+1->Le h h'->fF h' p (bA s4).2->aT 58 bt h h' (.slice j m' c') (f++[⟨nx,kx,(bA s4).1⟩])->J (a-(i+1)) ((j,m',c'),A .aC .add .i64 V 1) h':=F;generalize bA s4=R3 at *;obtain⟨tx,s5⟩:=R3;have L:fF u p s5:=L;have b8:=b5.mono ((t6.trans t7).trans t8);cbv;intro n9 Q BQ e9;have X:Le u Q:=by rw[e9];exact Le.set BQ
   have g9:=(congrFun e9 n9).trans ae;have q9:Sl 58 bt Q (.slice (some ⟨n9,0,none⟩) 1 1) [⟨nx,kx,tx⟩]:=bC (s:=bt) g9 rfl;clear e9;cbv;refine(b8.mono (X.t _)).append q9 (by decide) rfl (by decide) (by omega) (l8.trans X) (λm' j c' lI GR pM aD aP aj=>?_);have dt:=F lI j m' c' GR pM ((L.le X).mt (aD _ (by decide))) aj;clear F;cbv;refine⟨a-(i+1),((j,m',c'),A .aC .add .i64 V 1),aI,by constructor<;>cbv,dt⟩
  have Rc:a-i=0:=by omega
  rw[Rc]at U E;have U:f=(ey a B).1:=by rw[<-U];simp[ey]
  have E:d=(ey a B).2:=E;have au:ey a B=(f,d):=by rw[U,E]
  rw[au]at P;rw[ag r];clear Y eP au U E f2 r;cbv;refine(Dm b5.sl).mono (λv O hR=>?_);obtain⟨l6,b6,c6,rfl,s6⟩:=hR;have K:=q5.le l6;have P:dc l=if(bA (ar 8 d).2).2=some []/\dA ⟨o,f,IntKind.i64.wrap ((ar 8 d).1:Int),(bA (ar 8 d).2).1⟩=0 then
 some ⟨o,f,IntKind.i64.wrap ((ar 8 d).1:Int),(bA (ar 8 d).2).1⟩else none:=P
  cbv;refine Yc K (λx ky aw k7 y=>?_);have t7:cf [58] O x:=K.lt k7 (by decide);have l7:Le h x:=(l5.trans l6).aE (bs:=[p]) (by simpa using D) k7;rw[<-aw]at P;generalize ar 8 d=W at *;obtain⟨kn,s7⟩:=W;have y:fF x p s7:=y;cbv;refine Tc y (λu k8 L=>?_);have t8:cf [58] x u:=y.lt k8 (by decide);have l8:Le h u:=l7.aE (bs:=[p]) (by simpa using D) k8;have s8:Sl 58 bt u (.slice b6 N c6) f:=s6.sl.mono (t7.trans t8);have P:dc l=if(bA s7).2=some []/\dA ⟨o,f,ky,(bA s7).1⟩=0 then some ⟨o,f,ky,(bA s7).1⟩else none:=P
  generalize bA s7=R3 at *;obtain⟨tx,s9⟩:=R3;have L:fF u p s9:=L;have P:dc l=if s9=some []/\dA ⟨o,f,ky,tx⟩=0 then some ⟨o,f,ky,tx⟩else none:=P
  cbv;refine Cb L (λex I=>?_);have g1:A .az .eql ex 0=decide (ex=0):=aq A ..;have g2:A .az .neq ex 0=decide (ex≠0):=av A ..;by_cases h0:ex=0
  .have Q:=I.1 h0;rw[aH h0]at g1;clear g2 I;cbv;rw[g1];cbv;refine(EN s8).mono (λv lI hR=>?_);obtain⟨pM,ez,rfl,an⟩:=hR;rw[<-an]at P;have g3:A .az .neq ez 0=decide (ez≠0):=av A ..;by_cases t:ez=0
   .rw[if_pos ⟨Q,t⟩]at P;have:=de _ lI b6 N c6 P (l8.trans pM) (s8.mono (pM.t _));have g4:decide (ez≠0)=false:=ag (λg=>g t);rw[g4]at g3;cbv;rw[g3];cbv;exact this
   rw[if_neg (λg=>t g.2)]at P;have:=dq P lI ez (l8.trans pM) t;rw[aH t]at g3;cbv;rw[g3];cbv;exact this
  have Q:¬s9=some []:=λg=>h0 (I.2 g);rw[if_neg (λg=>Q g.1)]at P;have:=dq P u ex l8 h0;rw[ag h0]at g1;rw[aH h0]at g2;cbv;rw[g1];cbv;rw[g2];cbv;exact this
section
variable {P:Program}
end
structure EX(h:ab)(r p:Nat)(bad:Bool):Prop where
 out:∃d,h r=some (.cells (List.toArray [.pointer (some ⟨p,0,none⟩),.int .u32 d,.int .i32 0,.int .u32 0,.bool bad]) 299 (0,0))/\((bad=false/\d=0)\/(bad=true/\d=1))
abbrev Hl:List Nat:=[100,58,88,87,211,228,213,316]
theorem gv.ls{v:Value}{d:DB}(q:gv h v d)(l:cf Hl h h'):gv h' v d:=by obtain⟨_,_,_,_,_,_,_,_,_,_,_,_,w,rfl,a,b,c,e,f⟩:=q.out;exact⟨_,_,_,_,_,_,_,_,_,_,_,_,w,rfl,a.mono (l.sub),b.mono (l.sub),c.mono (l.sub),e.mono (l.sub),f⟩
structure wo(h:ab)(x:Nat)(d:DB)(L:Value×Value×Value×Value):Prop where
 out:∃b1 n1 c1 b2 n2 c2 b3 n3 c3 b4 n4 c4,h x=some (.cells (List.toArray [.slice b1 n1 c1,.slice b2 n2 c2,.slice b3 n3 c3,.slice b4 n4 c4,L.1,L.2.1,L.2.2.1,L.2.2.2]) 182 (0,0))/\
  gv h (.agg #[.slice b1 n1 c1,.slice b2 n2 c2,.slice b3 n3 c3,.slice b4 n4 c4]) d
def Un:rM:=⟨⟨#[]⟩,[],0,false⟩
def qB(d:DB)(s:St):DB×Bool×St:=match dc (aG s).1 with
 |none=>((cm d Un).1,true,(aG s).2)
 |some x=>((cm d x).1,decide ((cm d x).2≠0),(aG s).2)
theorem Cp(s:St):(aG s).1.length<65536:=by have h:=nW (ar 2 s).1 (ar 2 s).2;have a:=oS 2 s;unfold aG;omega
def lZ(d:DB)(s:St):DB×Bool×St:=((dD d (strOf (aG s).1)).1,decide ((dD d (strOf (aG s).1)).2≠0),(aG s).2)
def oQ(d:DB)(l:Bs):DB×Bool:=
 if(ar 1 (some l)).1=1 then((qB d (ar 1 (some l)).2).1,!(qB d (ar 1 (some l)).2).2.1&&decide ((qB d (ar 1 (some l)).2).2.2=some []))
 else((lZ d (ar 1 (some l)).2).1,!(lZ d (ar 1 (some l)).2).2.1&&decide ((lZ d (ar 1 (some l)).2).2.2=some []))
def dz:DB:=⟨[],[],[],[]⟩
def jJ:DB->List Bs->Option DB
 |d,[]=>some d
 |d,l::r=>if(oQ d l).2 then jJ (oQ d l).1 r else none
structure dZr(h:ab)(s g x:Nat):Prop where
 out:h s=some (.cells (List.toArray [.pointer (some ⟨g,0,none⟩),.pointer (some ⟨x,0,none⟩)]) 189 (0,0))
structure JV(h:ab)(s p:Nat)(G:Lg)(d:DB)(L:Value×Value×Value×Value):Prop where
 out:∃g x,dZr h s g x/\Ie h g p (G.s:Int) (G.n:Int)/\kf h p G.D/\wo h x d L
end Go.S
