import Derived.Test.YthnbpiejemlbeaaGreatBA
import Derived.Test.YthnbpiejemlbeaaGreatSxC
set_option linter.all false
set_option maxRecDepth 100000
set_option maxHeartbeats 8000000
namespace Go.S
open Go.Sx Go.Proofs
variable {a:Type}{D:Dk}{z:Int}{c:List Value}{xs:List a}{e e1 i m n o p:Nat}{fr:Nat×Nat}{b:Option Addr}{s:Sh a}{k:Value->ad->Prop}{h h':ad}
theorem Dy(h:ad):pN.R h (List.replicate 64 (.int .u8 0)) Hn:=⟨rfl,rfl⟩
def KG(n:Nat):Dk:=⟨0,false,List.replicate n Hn,List.replicate n Hn,[]⟩
theorem fQp(r:bg z n)(b:2<=n)(B:n<=4096)
 (w:∀h' p,h p=none->Le h h'->oa h' p (KG n)->k (.tuple #[.zP p,.zI 0]) h'):
 Ct 32 [.zI z] h k:=by
 obtain⟨A,v⟩:=Ar.ex;have t:A .aQ .lss z 2=false:=by rw[aV A,r.eq];grind
 have u:A .aQ .gtr z 4096=false:=by rw[bF A,r.eq];grind
 have y:z=A .nat n:=by rw[v.nat];exact r.eq
 have fin:∀(c b:ad) (d q:Nat) (a:ad) (p:Nat),h d=none\/c d=none->Le h c->Le c b->dt 211 pN b d n (List.replicate n Hn)->dt 211 pN b q n (List.replicate n Hn)->d≠q->b p=none->a=bO b p (.cells #[.zI 0,.zU 0,.slice (zsA d) n n,.slice (zsA q) n n,.zN] 94 (0,0))->
  k (.tuple #[.zP p,.zI 0]) a:=λc b d q a p _ j l o1 o2 V i f=>by
  have s:Le b a:=zqs f i
  refine w a p ((j.trans l).none i) ((j.trans l).trans s) ⟨d,q,none,0,0,0,?_,?_,?_,?_,V,rfl,bA.nil,?_⟩
  .rw[f,ae];simp only[KG,tT]
  .simp only[KG,tT];exact o1.mono (s.t _)
  .simp only[KG,tT];exact o2.mono (s.t _)
  .simp only[KG]
  grind [KG]
 refine kh iQZ A Tryz.func32 ?_;cbv;rw[t];cbv;rw[u];cbv;rw[y];refine⟨?_,?_⟩
 .refine jM (x:=Hn) Dy ip dl (λm c G j o1=>?_);cbv;refine jM (x:=Hn) Dy ip dl (λo b g l o2=>?_);have V:m≠o:=λe=>by rw[<-e]at g;exact o1.has g
  have fin:=λa p=>fin c b m o a p (.inl G) j l (o1.mono (l.t _)) o2 V;cbv;intro p a i f;cbv;exact fin a p i f
 refine jM (x:=Hn) Dy ip dl (λm c G j o1=>?_);cbv;refine jM (x:=Hn) Dy ip dl (λo b g l o2=>?_);have V:o≠m:=λe=>by rw[e]at g;exact o1.has g
 have fin:=λa p=>fin c b o m a p (.inr g) j l o2 (o1.mono (l.t _)) V;cbv;intro p a i f;cbv;exact fin a p i f
theorem eQr{l:Nat}{c:Array Value}(g:h l=some (.cells c e fr))(q:Le (Sx.km h l) h'){ex:List Nat}(d:e∈ex):ep ex h h':=λb o a V=>by
 have E:b≠l:=λe1=>gg
 exact q b o (by rw[Sx.pT E];exact a)
def dL(D:Dk):Bs:=(D.now.drop 1).flatten
theorem oa.pg(q:oa h p D){b:Bs}(e:D.now[i]? =some b):b.length=64:=by obtain⟨n,o,wb,r,wc,d,g,o1,o2,e1,f,j,w,k⟩:=q.out;obtain⟨c,l,a,m⟩:=o2.out;exact(a.2 i b e).2
theorem tP{L:List Bs}(h:∀b∈L,b.length=64):L.flatten.length=64*L.length:=by
 induction L with
 |nil=>rfl
 |cons x r i=>
  grind
theorem oa.max(q:oa h p D):D.now.length<=4096:=by obtain⟨k,n,wb,c,wc,d,g,o1,o2,e1,a,b,w,e⟩:=q.out;exact e
theorem cQB{l:Nat}(q:oa h p D)(hd:D.dead=false)(g:h l=zcL 407 [.zP p,.zU 0,.int .i32 1,.zU 0,.zN,.zI 0])(hP:1<=D.now.length)
 (hk:∀h' b m c,ep [407] h h'->h' l=zcL 407 [.zP p,.zU 0,.int .i32 1,.zU 0,.slice b m c,.zI 0]->Sl 5 cD h' (.slice b m c) (dL D)->k (.tuple #[]) h'):
 Ct 333 [.zP l] h k:=by
 have ZL:=q.max;have ag:∀b∈D.now,b.length=64:=λb hb=>by
  obtain⟨i,T⟩:=kZO.1 hb;exact q.pg T
 obtain⟨P,X⟩:∃P,P=D.now.length:=⟨_,rfl⟩;obtain⟨J,H⟩:∃J:Nat->Int->ad->Prop,∀w z h',J w z h'=(∃i b m c,bg z (i+1)/\i+1<=P/\w=P-i/\(m=0->b=none)/\Le (Sx.km h l) h'/\h' l=zcL 407 [.zP p,.zU 0,.int .i32 1,.zU 0,.slice b m c,.zI 0]/\
  bA 5 cD (Sx.km h l) h' (.slice b m c) (((D.now.drop 1).take i).flatten)):=⟨_,λ_ _ _=>rfl⟩
 have u:J P 1 h:=by rw[H];exact⟨0,none,0,0,⟨rfl⟩,ip,ip,λ_=>rfl,Sx.uM _ _,g,bA.nil⟩
 refine cB eXq Tryz.func333 λA hA=>?_;cbv;refine ba.gz (G:=Int) (λz=>[(2,.v (.zI z))]) (λ_=>[]) (λw z h'=>J w z h') P 1 u ?_
 intro w z h1 Q;rw[H]at Q;cbv;obtain⟨i,b,m,c,r,T,hw,ab,U,n,B⟩:=Q;have f:=eQr g U (ex:=[407]) dl;have F:=q.lt (f.t dl);have sS:=B.sl.len;have I:(((D.now.drop 1).take i).flatten).length=64*i:=by
  grind [tP,hx]
 rw[I]at sS;rw[av A];refine cy n ?_;cbv;refine aXL F (λzP R=>?_);have f1:A .aQ .lss z zP=decide (i+1<P):=by rw[X];exact r.zQ R
 have L:i+1<P->fH D z 0=0:=λS=>by
  unfold fH;rw[hd];show(if _ then(1:Int)else 0)=0;rw[if_neg];have:=r.eq
  grind
 have O:=r.succ (A:=A);have C:i+1<P->((D.now.drop 1).take (i+1)).flatten=((D.now.drop 1).take i).flatten++dF D z:=λS=>by
  obtain⟨x,hx⟩:=cK D.now (i+1);have e1:dF D z=x:=by unfold dF;rw[show z.toNat=i+1 by have:=r.eq;omega,hx];rfl
  grind [ir,hx]
 have s:∀h' a m' c',i+1<P->m'=m+64->Le (Sx.km h l) h'->h' l=zcL 407 [.zP p,.zU 0,.int .i32 1,.zU 0,.slice a m' c',.zI 0]->bA 5 cD (Sx.km h l) h' (.slice a m' c') (((D.now.drop 1).take i).flatten++dF D z)->
  J (P-(i+1)) (A .aX .add .i64 z 1) h':=λh' a m' c' S E l' g' q'=>by
  grind
 cbv;rw[f1];by_cases Z:i+1<P
 .have L:=L Z;rw[kS Z];clear H u O C I;cbv;rw[av A];refine cy n ?_;cbv;refine aXy F z (λY=>absurd L Y) (λ_ h2 b2 c2 y lN q2=>?_);have M:=y _ _ n;have K:=B.mono (y.t _);have fe:A .aQ .neq 0 0=false:=by rw[aJ A];rfl
  generalize dF D z=pg at *;cbv;rw[fe];cbv;rw[av A];refine cy M ?_;cbv;refine K.app q2.sl dl rfl dl ip (U.trans y) (λm' a c' h3 E l3 t3 k3 q3=>?_);have V:b≠zsA l:=λe=>by
   rcases K.out with⟨b0,e1,-⟩|⟨nb,cap,e1,e2,o⟩
   .grind
   cases e1;cases e;obtain⟨cc,Hr,-⟩:=o.out
   grind
  have N:=k3 _ _ M (.inr (.inl V));cbv;rw[av A];refine jE N io (λt d=>?_);have l4:Le (Sx.km h l) t:=λj o v=>by
   have pE:j≠l:=λe=>by rw[e,Sx.oD]at v;cases v
   rw[d,cH pE];exact l3 j o v
  have t4:cX [5] h3 t:=by rw[d];exact cX.set N dl
  have g4:=zqt d;have iL:=s t a m' c' Z E l4 g4 (q3.mono t4);clear s d;cbv;refine zqn (P-(i+1)) _ ip iL
 rw[kQW Z];have W:((D.now.drop 1).take i).flatten=dL D:=by unfold dL;rw[kXe gg]
 have:=hk h1 b m c f n (W ▸ B.sl);clear H u O C I s;cbv;exact this
theorem _root_.Go.Sx.Sl.short{c:Nat}(q:Sl e s h (.slice b n c) xs)(o:m<=n):Sl e s h (.slice b m c) (xs.take m):=by
 have hl:(xs.take m).length=m:=by rw[kJI,<-q.len];omega
 obtain⟨j,cap,e1,k,l,d⟩:=q.out;cases e1;refine⟨b,c,by rw[hl],by rw[hl];omega,by rw[hl];omega,?_⟩;rcases d with rfl| ⟨lQ,off,cc,fr,f,g,i⟩
 .exact .inl io
 exact .inr ⟨lQ,off,cc,fr,f,g,i.take m⟩
theorem _root_.Go.Sx.Sl.cQx{A:Ar}[g:bM A]{c:Nat}(q:Sl e s h (.slice b n c) xs)(f:bg z i)(j:i+m<=n){c':Nat}(d:c'=c-i):
 Sl e s h (.slice (A .cut b z (A .nat c) s.n) m c') ((xs.drop i).take m):=
 (q.jX (A:=A) f ip rfl d).short ip
theorem cJB{l:Nat}(q:oa h p D)(hd:D.dead=false)(g:h l=zcL 407 [.zP p,.zU 0,.int .i32 0,.zU 0,.zN,.zI 0])(P:1<=D.now.length)
 (i:∀h' b m c,ep [407] h h'->Sl 5 cD h' (.slice b m c) (dL D)->k (.tuple #[.slice b m c,.zI 0]) h'):
 Ct 259 [.zP l] h k:=by
 refine cB eZE Tryz.func259 λA w=>?_;cbv;rw[av A];refine dQF (f:=333) (fl:=[.zP l]) (cl:=[]) g rfl rfl (λs e1=>?_);have x:ep [407] h s:=by rw[e1];exact(Kp.set (bs:=[l]) io).x (λb t o u=>gg)
 refine cQB (q.lt (x.t dl)) hd (zqt e1) P (λj b m c v r s2=>?_);refine⟨rfl,_,r,rfl,rfl,?_⟩;generalize e:bO j l _=d;have e:=e.symm;have n:ep [407] j d:=by rw[e];exact(Kp.set (bs:=[l]) io).x (λb t o u=>gg)
 have a:=zqt e;have a:d l=zcL 407 [.zP p,.zU 1,.int .i32 0,.zU 0,.slice b m c,.zI 0]:=a;have i:=i d b m c ((x.trans v).trans n) (s2.mono (n.t dl));clear e;cbv;rw[av A];refine cy a ?_;cbv;rw[av A];refine cy a ?_;cbv;exact i
def eK(b:Bs):Int:=IntKind.i64.wrap (nL (b.take 8):Int)
def eN(b:Bs):Nat->List Bs×Bs
 |0=>([],b)
 |m+1=>if 8<=b.length then if 0<=eK b/\eK b<=(b.length-8:Nat)then((b.drop 8).take (eK b).toNat::(eN (b.drop (8+(eK b).toNat)) m).1,(eN (b.drop (8+(eK b).toNat)) m).2)else([],b)else([],b)
abbrev tu:Sh Bs:=wh 5 cD
theorem EJ{xs:List Bs}{len cap:Nat}(q:Sl 176 tu h (.slice b len cap) xs)
 (n:∀h' d c',Le h h'->bA 176 tu h h' (.slice d len c') xs->k (.slice d len c') h'):
 Ct 334 [.slice b len cap] h k:=by
 refine cB eXp Tryz.func334 λA j=>?_;cbv;refine bm (λa=>?_) (λa=>?_)
 .rw[j.CI]at a;cbv;have m:b=none:=by cases b<;>simp at a |-
  subst m;have hl:len=0:=by
   rcases kZE len with e|e
   .exact e
   have:=q.bu e;cases this
  have:=q.len
  grind [hx,Le.refl,bA.nil]
 cbv;intro s i N w;have l:Le h i:=zqs w N
 cbv;refine oZ (q.mono (l.t _)) rfl dl (λr=>?_) (λt c p e1 o f g=>?_)
 .cbv;have:=q.len
  grind [hx,bA.nil]
 cbv;exact n _ _ _ (l.trans f) (g.buf (l.none e1) q.len)
theorem dZh(l:Bs)(hl:l.length=8):aR 8 (some l)=(nL l,some []):=by
 grind [aR,fw]
theorem hXd{bs:Bs}{c:Nat}(q:Sl 5 cD h (.slice b m c) bs)(hm:m<=2^30)(o:Int)
 (hk:∀h' y m1 e,Le h h'->Sl 176 tu h' (.slice y m1 e) (eN bs o.toNat).1->k (.tuple #[.slice y m1 e,.bool (decide ((eN bs o.toNat).2=[]))]) h'):
 Ct 260 [.slice b m c,.zI o] h k:=by
 have ag:=q.len;obtain⟨J,R⟩:∃J:Nat->((Option Addr×Nat×Nat)×Option Addr×Nat×Nat)->ad->Prop,∀w g h',J w g h'=(∃u f,w=g.1.2.1/\(f.length:Int)<=max o 0/\u.length+8*f.length<=bs.length/\Le h h'/\Sl 5 cD h' (.slice g.1.1 g.1.2.1 g.1.2.2) u/\
  bA 176 tu h h' (.slice g.2.1 g.2.2.1 g.2.2.2) f/\eN bs o.toNat=(f++(eN u (o.toNat-f.length)).1,(eN u (o.toNat-f.length)).2)):=⟨_,λ_ _ _=>rfl⟩
 have hJ:J m ((b,m,c),none,0,0) h:=by rw[R];exact⟨bs,[],rfl,gg,io,Le.refl _,q,bA.nil,rfl⟩
 refine cB eZD Tryz.func260 λA P=>?_;cbv;refine ba.gz (G:=(Option Addr×Nat×Nat)×Option Addr×Nat×Nat) (λg=>[(0,.v (.slice g.1.1 g.1.2.1 g.1.2.2)),(6,.v (.slice g.2.1 g.2.2.1 g.2.2.2))]) (λ_=>[]) (λw g h'=>J w g h') m ((b,m,c),none,0,0) hJ ?_
 intro w g O hI;rw[R]at hI;cbv;obtain⟨⟨gb,a,r⟩,ob,x,oc⟩:=g;obtain⟨u,f,hw,hr,al,l1,F,H,K⟩:=hI;have hw:w=a:=hw;have F:Sl 5 cD O (.slice gb a r) u:=F;have H:bA 176 tu h O (.slice ob x oc) f:=H;have nQ:=F.len;have kE:=F.bound;have an:=H.sl.len;have f1:A .aQ .geq (A .nat a) 8=decide (8<=a):=by rw[cF A,P.nat];grind
 have f2:A .aQ .lss (A .nat x) o=decide ((x:Int)<o):=by rw[aV A,P.nat];rfl
 have fin:∀E,Le O E->(eN u (o.toNat-f.length))=([],u)->∀y e,bA 176 tu O E (.slice y x e) f->∀t,t=decide (a=0)->k (.tuple #[.slice y x e,.bool t]) E:=λE W v y e q3 t ht=>by
  rw[v]at K;simp only[kJH]at K;rw[K]at hk;have:=hk E y x e (l1.trans W) q3.sl;have e1:decide (u=[])=decide (a=0):=decide_eq_decide.2 gg
  grind
 have fe:A .aQ .eql (A .nat a) 0=decide (a=0):=by rw[au A,P.nat];grind
 rw[f1];by_cases e:8<=a
 .rw[kS e];cbv;rw[f2];by_cases c2:(x:Int)<o
  .rw[kS c2];obtain⟨j,hj⟩:∃j,o.toNat-f.length=j+1:=⟨o.toNat-f.length-1,ip⟩;have Q:eN u (o.toNat-f.length)=if 0<=eK u/\eK u<=(u.length-8:Nat)then((u.drop 8).take (eK u).toNat::(eN (u.drop (8+(eK u).toNat)) j).1,(eN (u.drop (8+(eK u).toNat)) j).2)else([],u):=by
    rw[hj];show(if 8<=u.length then _ else _)=_
    grind
   have nI:aR 8 (some (u.take 8))=(nL (u.take 8),some []):=dZh _ gg;have mV:(0:Int)<=8/\(8:Int)<=(r:Int):=ip
   have d8:A .nR 8 0=8:=dJ ⟨rfl⟩;have t8:=F.vU (A:=A) (z:=A .nat r) (i:=8) e rfl;have No:eK u<0->eN u (o.toNat-f.length)=([],u):=λhh=>by rw[Q,if_neg ip]
   have I:eK u>(a:Int)-8->eN u (o.toNat-f.length)=([],u):=λhh=>by rw[Q,if_neg ip]
   have Z:¬eK u<0->¬eK u>(a:Int)-8->bg (eK u) (eK u).toNat/\8+(eK u).toNat<=a/\eN bs o.toNat=((f++[(u.drop 8).take (eK u).toNat])++(eN (u.drop (8+(eK u).toNat)) (o.toNat-(f.length+1))).1,(eN (u.drop (8+(eK u).toNat)) (o.toNat-(f.length+1))).2)/\((f.length+1:Nat):Int)<=max o 0/\u.length-(8+(eK u).toNat)+8*(f.length+1)<=bs.length:=λwZ ak=>by
    rw[if_pos ip]at Q;refine⟨⟨ip⟩,ip,?_,ip,ip⟩;rw[K,Q,show o.toNat-(f.length+1)=j by omega,kJk];rfl
   have hB:x+1<=2^39:=ip
   clear hJ Q K;cbv;refine⟨mV,?_⟩;cbv;rw[d8];refine Wd t8 (λE p hp W r2=>?_);cbv;refine bXH r2 (λh3 k3 r3=>?_);rw[nI];have B:Le O h3:=W.bf (iu hp) k3;have hz:IntKind.i64.wrap ((nL (u.take 8):Nat):Int)=eK u:=rfl;have Pp:=F.mono (B.t [5]);have X:=H.mono (B.t [176,5]);clear nI r3 r2 k3 t8 d8 mV hp W;rw[show IntKind.i64.wrap (((nL (u.take 8),(some []:St)).1:Nat):Int)=eK u from rfl];generalize eK u=z at *;have f3:A .aQ .lss z 0=decide (z<0):=aV A ..;have kj:A .aX .sub .i64 (A .nat a) 8=(a:Int)-8:=by rw[P.aX,P.nat];show IntKind.i64.wrap ((a:Int)-8)=_;rw[IntWalk.i64_in _ ip]
   have T:A .aQ .gtr z (A .aX .sub .i64 (A .nat a) 8)=decide (z>(a:Int)-8):=by rw[kj];exact bF A ..
   by_cases M:z<0
   .have v:eN u (o.toNat-f.length)=([],u):=No M;have fin:=λd l=>fin d (B.trans l) v;cbv;rw[f3,kS M];cbv;refine EJ X.sl (λd L N l C=>?_);cbv;rw[fe];exact fin d l L N (C.base B) _ rfl
   by_cases S:z>(a:Int)-8
   .have v:eN u (o.toNat-f.length)=([],u):=I S;have fin:=λd l=>fin d (B.trans l) v;rw[kS S]at T;cbv;rw[f3,kQW M];cbv;rw[T];cbv;refine EJ X.sl (λd L N l C=>?_);cbv;rw[fe];exact fin d l L N (C.base B) _ rfl
   rw[kQW S]at T;obtain⟨ly,PZ,K,Zx,lN⟩:=Z M S;generalize z.toNat=n at *;have U:bg 8 8:=⟨rfl⟩;have V:bg (A .aX .add .i64 8 z) (8+n):=U.add (A:=A) ly ip;have jW:0<=A .aX .add .i64 8 z/\A .aX .add .i64 8 z<=(r:Int)/\0<=(8:Int)/\(8:Int)<=A .aX .add .i64 8 z:=by have:=V.eq;omega
   have zX:0<=A .aX .add .i64 8 z/\A .aX .add .i64 8 z<=(a:Int):=by have:=V.eq;omega
   have Vz:A .nR (A .aX .add .i64 8 z) 8=n:=by rw[KI (A:=A) V U];omega
   have Ln:A .nR (A .nat r) 8=r-8:=cS (A:=A) U;have SY:=cS (A:=A) (n:=a) V;have ab:=cS (A:=A) (n:=r) V;have tm:=Pp.cQx (A:=A) U (m:=n) ip rfl;have td:=Pp.jX (A:=A) V ip rfl rfl;have cm:∀h' m' D c',Le h h'->Sl 5 cD h' (.slice (A .cut gb (A .aX .add .i64 8 z) (A .nat r) 1) (a-(8+n)) (r-(8+n))) (u.drop (8+n))->bA 176 tu h h' (.slice D m' c') (f++[(u.drop 8).take n])->
    J (a-(8+n)) ((A .cut gb (A .aX .add .i64 8 z) (A .nat r) 1,a-(8+n),r-(8+n)),D,m',c') h':=λh' m' D c' l' s' q'=>by
    rw[R];exact⟨_,_,rfl,by rw[kXy];exact Zx,by rw[kXy,kJb];exact lN,l',s',q',by rw[kXy];exact K⟩
   clear fin K hk R No I Z;cbv;rw[f3,kQW M];cbv;rw[T];cbv;refine⟨jW,?_⟩;cbv;rw[Vz,Ln];refine GZ tm (λh4 b4 vH l4 q4=>?_);cbv;intro n5 d Na Y;have l:Le h4 d:=zqs Y Na
   have C:Sl 176 tu d (.slice (zsA n5) 1 1) [(u.drop 8).take n]:=bh (s:=tu) (zqt Y) ⟨_,rfl,q4.sl.mono (l.t _)⟩;clear Y;cbv;refine(X.mono ((l4.trans l).t _)).app C dl rfl dl hB ((l1.trans B).trans (l4.trans l)) (λm' D c' h6 HL l6 t6 k6 q6=>?_);have iL:=cm h6 m' D c' l6 ((td.mono ((l4.trans l).t _)).mono (t6 _ dl)) q6;clear cm;cbv;refine⟨zX,?_⟩;cbv;rw[SY,ab];refine zqn (a-(8+n)) ((_,_,_),D,m',c') ip iL
  rw[kQW c2];have v:eN u (o.toNat-f.length)=([],u):=by rw[show o.toNat-f.length=0 by omega];rfl
  have fin:=λd l=>fin d l v;clear K;cbv;refine EJ H.sl (λd L N l C=>?_);cbv
  grind
 rw[kQW e];have v:eN u (o.toNat-f.length)=([],u):=by
  cases o.toNat-f.length with
  |zero=>rfl
  |succ j=>show(if 8<=u.length then _ else _)=_;grind
 have fin:=λd l=>fin d l v;clear K;cbv;refine EJ H.sl (λd L N l C=>?_);cbv
 grind
structure iXp where
 size:Int
 count:Int
 fj:List Bs
 bad:Bool
def vO(p:Bs):Int:=IntKind.i64.wrap (nL (p.take 8):Int)
def Ba(D:Dk)(size count:Int):iXp:=
 if size<0\/count<0\/size>(dL D).length then⟨size,count,[],true⟩
 else⟨size,count,(eN ((dL D).take size.toNat) count.toNat).1,!decide ((eN ((dL D).take size.toNat) count.toNat).2=[])||decide (((eN ((dL D).take size.toNat) count.toNat).1.length:Int)≠count)⟩
def gK(D:Dk):iXp×Int:=if D.dead then(⟨0,0,[],true⟩,15)else(Ba D (vO (dF D 0)) (vO ((dF D 0).drop 8)),0)
abbrev Sa:List Nat:=[407]
theorem Yk(q:oa h p D):(dL D).length<=2^18:=by
 unfold dL;rw[tP (λb a=>by
  obtain⟨i,c⟩:=kZO.1 (kXN a);exact q.pg c),kJb]
 have:=q.max;omega
theorem dZt(q:oa h p D)(hP:1<=D.now.length)
 (o:∀h' b m c F e,(F,e)=gK D->ep Sa h h'->Sl 176 tu h' (.slice b m c) F.fj->k (.tuple #[.agg #[.zI F.size,.zI F.count,.slice b m c,.bool F.bad],.zI e]) h'):
 Ct 140 [.zP p] h k:=by
 obtain⟨A,M⟩:=Ar.ex;have I:A .aQ .neq 15 0=true:=by rw[aJ A];rfl
 have W:A .aQ .neq 0 0=false:=by rw[aJ A];rfl
 have ab:fH D 0 0=if D.dead then 15 else 0:=by
  grind [fH]
 have uf:=Yk q;have Z:gK D=if D.dead then(⟨0,0,[],true⟩,15)else(Ba D (vO (dF D 0)) (vO ((dF D 0).drop 8)),0):=rfl
 refine kh eKB A Tryz.func140 ?_;cbv;refine aXy q 0 (λbV=>?_) (λY h1 b1 v l1 MU q1=>?_)
 .have X:D.dead=true:=by
   grind
  have Y:fH D 0 0=15:=gg
  rw[X]at Z;have:=o h none 0 0 _ _ Z.symm (ep.refl _ _) Sl.nil;rw[Y];clear Z;cbv;rw[I];cbv;exact this
 have X:D.dead=false:=by
  grind
 rw[X]at Z;have Z:gK D=(Ba D (vO (dF D 0)) (vO ((dF D 0).drop 8)),0):=Z;have K:aR 8 (some (dF D 0))=(nL ((dF D 0).take 8),some ((dF D 0).drop 8)):=by
  grind [aR,fw]
 have U:aR 8 (some ((dF D 0).drop 8))=(nL (((dF D 0).drop 8).take 8),some (((dF D 0).drop 8).drop 8)):=by
  grind [aR,fw]
 have u:IntKind.i64.wrap ((aR 8 (some (dF D 0))).1:Int)=vO (dF D 0):=by rw[K];rfl
 have T:IntKind.i64.wrap ((aR 8 (some ((dF D 0).drop 8))).1:Int)=vO ((dF D 0).drop 8):=by rw[U];rfl
 have S:(aR 8 (some (dF D 0))).2=some ((dF D 0).drop 8):=by rw[K]
 clear K U;cbv;rw[W];cbv;refine Wd q1.sl (λh2 pr J l2 r2=>?_);cbv;refine bXH r2 (λh3 k3 O=>?_);rw[S]at O;rw[u];clear u S;generalize vO (dF D 0)=s at *;cbv;refine bXH O (λV k4 r4=>?_);rw[T];have l4:Le h V:=l1.trans (l2.bf (iu J) (k3.trans k4));clear T r2 O r4;generalize vO ((dF D 0).drop 8)=n at *;rw[Z]at o;have d4:=q.le l4;cbv;intro l h5 hl H;have l5:Le V h5:=zqs H hl
 have g5:=zqt H;have d5:=d4.le l5;clear H;cbv;refine cJB d5 X g5 hP (λE b m c x6 P=>?_);have f:ep Sa h E:=((l4.trans l5).x _).trans x6;have hm:=P.len;have kE:=P.bound;have x:Ba D s n=if s<0\/n<0\/s>(dL D).length then⟨s,n,[],true⟩
  else⟨s,n,(eN ((dL D).take s.toNat) n.toNat).1,!decide ((eN ((dL D).take s.toNat) n.toNat).2=[])||decide (((eN ((dL D).take s.toNat) n.toNat).1.length:Int)≠n)⟩:=rfl
 generalize dL D=r at *;have j:A .aQ .lss s 0=decide (s<0):=aV A ..;have w:A .aQ .lss n 0=decide (n<0):=aV A ..;have C:A .aQ .gtr s (A .nat m)=decide (s>(r.length:Int)):=by rw[bF A,M.nat,hm];rfl
 have a:s<0\/n<0\/s>(r.length:Int)->∀h',ep Sa h h'->k (.tuple #[.agg #[.zI s,.zI n,.zN,.bool true],.zI 0]) h':=λhb h' x'=>by
  grind [Sl.nil]
 by_cases v:s<0
 .have a:=a (.inl v) E f;rw[kS v]at j;clear x o;cbv;rw[W];cbv;rw[j];cbv;exact a
 rw[kQW v]at j;by_cases y:n<0
 .have a:=a (.inr (.inl y)) E f;rw[kS y]at w;clear x o;cbv;rw[W];cbv;rw[j];cbv;rw[w];cbv;exact a
 rw[kQW y]at w;by_cases B:s>(r.length:Int)
 .have a:=a (.inr (.inr B)) E f;rw[kS B]at C;clear x o;cbv;rw[W];cbv;rw[j];cbv;rw[w];cbv;rw[C];cbv;exact a
 rw[kQW B]at C;rw[if_neg (λg=>g.elim v (λg=>g.elim y B))]at x;have iA:bg s s.toNat:=⟨ip⟩;have eL:0<=s/\s<=(c:Int):=ip
 have dd:=dJ (A:=A) iA;have ts:=P.vU (A:=A) (z:=A .nat c) (i:=s.toNat) ip rfl;have L:s.toNat<=2^30:=ip
 have d:∀h' G m' c' t,ep Sa h h'->Sl 176 tu h' (.slice G m' c') (eN (r.take s.toNat) n.toNat).1->t=(!decide ((eN (r.take s.toNat) n.toNat).2=[])||decide (((eN (r.take s.toNat) n.toNat).1.length:Int)≠n))->k (.tuple #[.agg #[.zI s,.zI n,.slice G m' c',.bool t],.zI 0]) h':=λh' G m' c' t x' s' ht=>by
  grind
 clear x o a;cbv;rw[W];cbv;rw[j];cbv;rw[w];cbv;rw[C];cbv;refine⟨eL,?_⟩;cbv;rw[dd];refine hXd ts L n (λh7 b7 m7 c7 l7 s7=>?_);have N:=s7.len;have d:=λt=>d h7 b7 m7 c7 t (f.trans (l7.x _)) s7;generalize eN (r.take s.toNat) n.toNat=R at *;have f7:A .aQ .neq (A .nat m7) n=decide ((R.1.length:Int)≠n):=by rw[aJ A,M.nat,N];rfl
 generalize decide ((R.1.length:Int)≠n)=t2 at *;generalize decide (R.2=[])=t1 at *;have Q:A .not t1= !t1:=by rw[M.not]
 cases t1 with
 |true=>
  have d:=d _ rfl;cbv;rw[Q];cbv
  grind
 |false=>have d:=d _ rfl;cbv;rw[Q];cbv;exact d
theorem cJk:jJ Tryz.prog 329 Tryz.f329:=⟨Tryz.func329,by kernel_rfl,by kernel_rfl,by kernel_rfl⟩
theorem cJj:jJ Tryz.prog 182 Tryz.f182:=⟨Tryz.func182,by kernel_rfl,by kernel_rfl,by kernel_rfl⟩
theorem cJl:jJ Tryz.prog 332 Tryz.f332:=⟨Tryz.func332,by kernel_rfl,by kernel_rfl,by kernel_rfl⟩
theorem Kf{b:Nat}{x:Int}(q:oJ h ⟨b,o,none⟩ (.zI x))(a:k (.zI x) h):Ct 247 [.pointer (some ⟨b,o,none⟩)] h k:=by refine cB eZP Tryz.func247 λA c=>?_;cbv;rw[av A];refine Nx cJk (by kernel_rfl) q ?_;cbv;exact a
theorem JJ{b ty:Nat}{x:Value}(g:h b=zcL ty c)(hx:c[o]? =some x)(y:Int)(f:∀h',h'=bO h b (.cells (c.set o (.zI y)).toArray ty (0,0))->k (.tuple #[]) h'):Ct 76 [.pointer (some ⟨b,o,none⟩),.zI y] h k:=by refine cB iQs Tryz.func76 λA i=>?_;cbv;rw[av A];refine CZ cJj (by kernel_rfl) (cJ g hx) (λc' e a e1 d=>?_);have u:Up h b o (.zI y) a:=⟨c',e,e1,d⟩;have:=f a (u.exp g);cbv;exact this
theorem bJB{b ty:Nat}{x:Int}(g:h b=zcL ty c)(hx:c[o]? =some (.zI x))(y:Int)(f:∀h',h'=bO h b (.cells (c.set o (.zI (IntKind.i64.wrap (x+y)))).toArray ty (0,0))->k (.zI (IntKind.i64.wrap (x+y))) h'):Ct 253 [.pointer (some ⟨b,o,none⟩),.zI y] h k:=by refine cB bXc Tryz.func253 λA i=>?_;cbv;rw[av A];refine KA cJl (by kernel_rfl) (cJ g hx) (λc' e a e1 d=>?_);have u:Up h b o (.zI (IntKind.i64.wrap (x+y))) a:=⟨c',e,e1,d⟩;have:=f a (u.exp g);generalize IntKind.i64.wrap (x+y)=z at *;cbv;exact this
structure Jw(h:ad)(g p:Nat)(size count:Int):Prop where
 out:h g=zcL 294 [.zP p,.zI size,.zI count]
theorem Jw.lt{g:Nat}{s c:Int}(q:Jw h g p s c)(l:cX [294] h h'):Jw h' g p s c:=⟨l _ _ _ _ dl q.out⟩
theorem aXN(q:oa h p D)(P:1<=D.now.length)
 (v:∀h' e,ep Sa h h'->e=(if(gK D).2≠0 then(gK D).2 else 10)->((gK D).2≠0\/(gK D).1.bad=true)->k (.tuple #[.pointer none,.zN,.zI e]) h')
 (f:∀h' g b m c,(gK D).2=0->(gK D).1.bad=false->ep Sa h h'->Jw h' g p (gK D).1.size (gK D).1.count->Sl 176 tu h' (.slice b m c) (gK D).1.fj->k (.tuple #[.zP g,.slice b m c,.zI 0]) h'):
 Ct 63 [.zP p] h k:=by
 obtain⟨A,L⟩:=Ar.ex;have l:A .aQ .neq 10 0=true:=by rw[aJ A];rfl
 have W:A .aQ .neq 0 0=false:=by rw[aJ A];rfl
 have K:A .aQ .eql 0 0=true:=by rw[au A];rfl
 refine kh iQA A Tryz.func63 ?_;cbv;refine dZt q P (λd b m c F e i x s1=>?_);rw[<-i]at v f;obtain⟨I,u,N,j⟩:=F;have o:A .aQ .eql e 0=decide (e=0):=au A ..;have r:A .aQ .neq e 0=decide (e≠0):=aJ A ..;by_cases a:e=0
 .subst a;cases j with
  |true=>have:=v d 10 x (by rw[if_neg (λg=>g rfl)]) (.inr rfl);clear v f i;cbv;rw[K];cbv;rw[l];cbv;exact this
  |false=>
   have f:=λh' g=>f h' g b m c rfl rfl;clear v i;cbv;rw[K];cbv;rw[W];cbv;intro g E G n;have M:Le d E:=zqs n G
   have z:=zqt n;cbv;rw[av A];refine JJ z rfl I (λJ w=>?_);have B:=zqt w;cbv;rw[av A];refine JJ B rfl u (λs y=>?_);have C:=zqt y;have t:Le d s:=by
    grind [eI,Le.set]
   have:=f s g (x.trans (t.x _)) ⟨C⟩ (s1.mono (t.t _));cbv;exact this
 have:=v d e x (by rw[if_pos a]) (.inl a);rw[kQW a]at o;have H:e≠0:=a;rw[kS H]at r;clear v f i;cbv;rw[o];cbv;rw[r];cbv;exact this
theorem storeT{b ty:Nat}{x:Value}(g:h b=zcL ty c)(hx:c[o]? =some x)(f:∀h',h'=bO h b (.cells (c.set o (.zU 1)).toArray ty (0,0))->k (.tuple #[]) h'):Ct 77 [.pointer (some ⟨b,o,none⟩),.bool true] h k:=by refine cB fZy Tryz.func77 λA i=>?_;cbv;refine(hKV h).mono (λv a hR=>?_);obtain⟨rfl,rfl⟩:=hR;cbv;rw[av A];refine CZ aQw (by kernel_rfl) (cJ g hx) (λc' e a e1 d=>?_);have u:Up _ b o (.zU 1) a:=⟨c',e,e1,d⟩;have:=f a (u.exp g);cbv;exact this
def fh(D:Dk):Bool×Dk:=if D.left>0 then if IntKind.i64.wrap (D.left+ -1)=0 then(true,{ D with left:=0,dead:=true })else(false,{ D with left:=IntKind.i64.wrap (D.left+ -1) })else(false,D)
theorem oa.vS(q:oa h p D){G:Prop}{left:Int}{dead:Bool}
 (i:∀k n wb a wc d,h p=zcL 94 [.zI D.left,.zU d,.slice (zsA k) D.now.length D.now.length,.slice (zsA n) D.now.length D.now.length,.slice wb a wc]->(d=0\/d=1)->
  (∀h',h'=bO h p (.cells #[.zI left,.zU (if dead then 1 else 0),.slice (zsA k) D.now.length D.now.length,.slice (zsA n) D.now.length D.now.length,.slice wb a wc] 94 (0,0))->oa h' p { D with left:=left,dead:=dead })->(d=if D.dead then 1 else 0)->G):G:=by
 obtain⟨k,n,wb,a,wc,d,g,o1,o2,e1,b,c,w,f⟩:=q.out;refine i k n wb a wc d g gg (λh' e=>?_) c;have lt:∀tys,94∉tys->cX tys h h':=λtys j=>by rw[e];exact cX.set g j
 exact⟨k,n,wb,a,wc,_,zqt e,o1.mono (lt _ dl),o2.mono (lt _ dl),e1,b,rfl,w.mono (lt _ dl),f⟩
theorem gU{c:Array Value}{o:Obj}(g:h p=some (.cells c e fr)){ex:List Nat}(d:e∈ex):ep ex h (bO h p o):=λb o' a V=>by
 grind [cH]
theorem bXY(q:oa h p D)(b:∀h',ep dT h h'->oa h' p (fh D).2->k (.bool (fh D).1) h'):Ct 331 [.zP p] h k:=by
 obtain⟨A,u⟩:=Ar.ex;refine q.vS (left:=if IntKind.i64.wrap (D.left+ -1)=0 then 0 else IntKind.i64.wrap (D.left+ -1)) (dead:=if IntKind.i64.wrap (D.left+ -1)=0 then true else D.dead) (λv w wb x wc d g hd up r=>?_);have s:A .aQ .gtr D.left 0=decide (D.left>0):=bF A ..;have f:A .aQ .eql (IntKind.i64.wrap (D.left+ -1)) 0=decide (IntKind.i64.wrap (D.left+ -1)=0):=au A ..;have P:fh D=if D.left>0 then if IntKind.i64.wrap (D.left+ -1)=0 then(true,{ D with left:=0,dead:=true })else(false,{ D with left:=IntKind.i64.wrap (D.left+ -1) })else(false,D):=rfl
 generalize J:D.left=m at *;obtain⟨X,a⟩:∃X,X=IntKind.i64.wrap (m+ -1):=⟨_,rfl⟩;rw[<-a]at f P up;refine kh eXr A Tryz.func331 ?_;cbv;rw[av A];refine Kf (cJ g rfl) ?_;cbv;rw[s];by_cases e:m>0
 .rw[if_pos e]at P;rw[kS e];cbv;rw[av A];refine bJB g rfl (-1) (λj e1=>?_);rw[<-a]at e1 |-;have t:=zqt e1;by_cases c:X=0
  .rw[if_pos c]at P;rw[if_pos c,if_pos c]at up;rw[kS c]at f;clear a;subst c;cbv;rw[f];cbv;rw[av A];refine storeT t rfl (λl i=>?_);rw[e1,eI]at i;have o:=up l i;rw[P]at b;have:=b l (by rw[i];exact gU g dl) o;clear b P up;cbv;exact this
  rw[if_neg c]at P;rw[if_neg c,if_neg c,<-r]at up;rw[kQW c]at f;have n:=up j e1;rw[P]at b;have:=b j (by rw[e1];exact gU g dl) n;clear b P up a;cbv;rw[f];cbv;exact this
 rw[if_neg e]at P;rw[kQW e];rw[P]at b;have:=b h (ep.refl _ _) q;clear b P;cbv;exact this
def RT(g:Nat->Int):List Value:=[.int .u8 (g 0),.int .u8 (g 1),.int .u8 (g 2),.int .u8 (g 3),.int .u8 (g 4),.int .u8 (g 5),.int .u8 (g 6),.int .u8 (g 7),.int .u8 (g 8),.int .u8 (g 9),.int .u8 (g 10),.int .u8 (g 11),.int .u8 (g 12),.int .u8 (g 13),.int .u8 (g 14),.int .u8 (g 15),.int .u8 (g 16),.int .u8 (g 17),.int .u8 (g 18),.int .u8 (g 19),.int .u8 (g 20),.int .u8 (g 21),.int .u8 (g 22),.int .u8 (g 23),.int .u8 (g 24),.int .u8 (g 25),.int .u8 (g 26),.int .u8 (g 27),.int .u8 (g 28),.int .u8 (g 29),.int .u8 (g 30),.int .u8 (g 31),.int .u8 (g 32),.int .u8 (g 33),.int .u8 (g 34),.int .u8 (g 35),.int .u8 (g 36),.int .u8 (g 37),.int .u8 (g 38),.int .u8 (g 39),.int .u8 (g 40),.int .u8 (g 41),.int .u8 (g 42),.int .u8 (g 43),.int .u8 (g 44),.int .u8 (g 45),.int .u8 (g 46),.int .u8 (g 47),.int .u8 (g 48),.int .u8 (g 49),.int .u8 (g 50),.int .u8 (g 51),.int .u8 (g 52),.int .u8 (g 53),.int .u8 (g 54),.int .u8 (g 55),.int .u8 (g 56),.int .u8 (g 57),.int .u8 (g 58),.int .u8 (g 59),.int .u8 (g 60),.int .u8 (g 61),.int .u8 (g 62),.int .u8 (g 63)]
theorem cQc{b:Bs}(a:b.length=64):∃g,RT g=aT b:=by
 refine⟨λi=>((b.getD i 0).toNat:Int),?_⟩;have h:RT (λi=>((b.getD i 0).toNat:Int))=(List.range 64).map λi=>Value.int .u8 ((b.getD i 0).toNat:Int):=rfl;rw[h];apply kZq;intro i
 grind [aT]
def eS(l:Bs):Bs:=l++List.replicate (64-l.length) 0
theorem tD{l:Bs}(h:l.length<=64):(eS l).length=64:=by grind [eS]
theorem XM{c:Nat}{l:Bs}(q:Sl e cD h (.slice b m c) l):bZg h b m (aT l):=by
 have n:=q.len;subst n;obtain⟨j,cap,e1,k,o,d⟩:=q.out;cases e1;rcases d with rfl| ⟨lQ,off,cc,fr,rfl,g,a⟩
 .exact .inl ⟨rfl,rfl⟩
 refine .inr ⟨_,rfl,rfl,by simp[aT],cc,_,fr,g,λi f=>?_⟩;have hx:=a.2 i l[i] (by simp[f]);have hx:((cc.toList.drop (off+i*1)).take 1)=[.int .u8 (l[i].toNat:Int)]:=hx;have:=congrArg (λz=>z[0]?) hx
 grind [aT]
theorem UL{o:Obj}(g:h n=some o):bO h n o=h:=by
 grind [bO]
theorem dXw(cs:List Value):∀c:List Value,cs.length<=c.length->iv c 0 cs=cs++c.drop cs.length:=λc hl=>by
 apply kZq;intro j
 grind [nf]
theorem bQE{ty:Nat}{c:Nat}{l:Bs}(d:h n=zcL ty (List.replicate 64 (.int .u8 0)))(q:Sl e1 cD h (.slice b m c) l)(o:m<=64)
 (f:∀h' g z,h'=bO h n (.cells (RT g).toArray ty (0,0))->RT g=aT (eS l)->k (.zI z) h'):zy h (zsA n) 64 b m 1 k:=by
 have i:=q.len;obtain⟨g,a⟩:=cQc (tD (l:=l) ip);have u:(aT l).length=l.length:=by simp[aT]
 have bO:iv (List.replicate 64 (.int .u8 0)) 0 (aT l)=RT g:=by rw[a,dXw _ _ gg,u,List.drop_replicate];unfold eS aT;rw[kXQ,List.map_replicate];rfl
 refine⟨aT l,?_,iX l,?_⟩
 .grind [XM]
 by_cases j:aT l=[]
 .refine .inl ⟨j,f _ g _ ?_ a⟩;rw[j]at bO;rw[<-bO];exact(UL d).symm
 refine .inr ⟨_,rfl,jE d gg (λh' e=>f h' g _ ?_ a)⟩;rw[e,bO]
def bN(D:Dk)(n:Int)(l:Bs):Int×Dk:=
 if fH D n l.length≠0 then(fH D n l.length,D)
 else(if(fh { D with now:=D.now.set n.toNat (eS l),ws:=D.ws++[(n,eS l)] }).1 then 15 else 0,(fh { D with now:=D.now.set n.toNat (eS l),ws:=D.ws++[(n,eS l)] }).2)
theorem aXt(q:oa h p D)(n:Int){c:Nat}{l:Bs}(qb:Sl e1 cD h (.slice b m c) l)(hw:D.ws.length<=2^38)
 (a:∀h',ep dT h h'->oa h' p (bN D n l).2->k (.zI (bN D n l).1) h'):
 Ct 250 [.zP p,.zI n,.slice b m c] h k:=by
 obtain⟨A,hA⟩:=Ar.ex;have x:=qb.len;have sS:A .nat m=((l.length:Nat):Int):=by rw[hA.nat,x];rfl
 have v:A .aQ .neq (fH D n l.length) 0=decide (fH D n l.length≠0):=aJ A ..;have f:bN D n l=if fH D n l.length≠0 then(fH D n l.length,D)else(if(fh { D with now:=D.now.set n.toNat (eS l),ws:=D.ws++[(n,eS l)] }).1 then 15 else 0,(fh { D with now:=D.now.set n.toNat (eS l),ws:=D.ws++[(n,eS l)] }).2):=rfl
 have N:fH D n l.length=0->bg n n.toNat/\n.toNat<D.now.length/\m<=64:=λw=>by
  unfold fH at w;split at w
  .cases w
  split at w
  .cases w
  rename_i u;have h1:¬n<0:=λg=>u (.inl g);have F:¬n>=(D.now.length:Int):=λg=>u (.inr (.inl g));have G:¬(l.length:Int)>64:=λg=>u (.inr (.inr g));exact⟨⟨ip⟩,ip,ip⟩
 refine kh eZM A Tryz.func250 ?_;cbv;rw[sS];refine NP q n _ ?_;by_cases y:fH D n l.length≠0
 .rw[if_pos y]at f;rw[f]at a;have:=a h (ep.refl _ _) q;rw[kS y]at v;clear a f N;generalize fH D n l.length=r at *;cbv;rw[v];cbv;exact this
 rw[if_neg y]at f;rw[f]at a;have uh:fH D n l.length=0:=ip
 obtain⟨u,ZD,S⟩:=N uh;rw[kQW y]at v;rw[uh]at v |-;clear f N y;cbv;rw[v];cbv;intro B h1 nI e1;have l1:Le h h1:=zqs e1 nI
 have g8:=zqt e1;have q1:=q.le l1;clear e1;cbv;refine bQE g8 (qb.mono (l1.t _)) S (λF g zz J hg=>?_);have l2:Le h F:=l1.bf (bs:=[B]) (iu nI) (by rw[J];exact Kp.set io);have K:=zqt J;have q2:=q.le l2;obtain⟨kb,H,wb,wn,wc,d,E,o1,o2,x1,x2,x3,w2,x4⟩:=q2.out;have Q:=tD (l:=l) ip;have eL:(some (⟨H,0,none⟩:Addr)).isSome=true/\0<=n/\n<(D.now.length:Int):=⟨rfl,u.ix ZD⟩;obtain⟨P,L⟩:∃P,P=D.now.length:=⟨_,rfl⟩;rw[<-L]at E o1 o2 eL x1 x4;have aw:B≠H:=λe=>by
  obtain⟨al,ak,aq,an,ao,d',g',ar,X,_,_,_,_,_⟩:=q.out;have:=l2 _ _ g';rw[<-L]at this X;rw[E]at this;cases this;rw[<-e]at X;exact X.has nI
 clear J q1;cbv;rw[av A];refine cy E ?_;cbv;refine cy K ?_;cbv;refine⟨eL,?_⟩;cbv;have hR:pN.R F (RT g) (eS l):=⟨hg,Q⟩;refine o2.setAt dl (i:=n.toNat) ip u.eq rfl hR (λG k3 t3 o3=>?_);have UP:B∉[H]:=gg
 have ag:=k3 _ _ K UP;have g3:=t3 [94] dl _ _ _ _ io E;have W:=o1.kp k3 (iu x2) (λ_ _ _ _ hm=>by cases hm);have w3:=w2.mono (t3 [213] dl);have ab:ep dT F G:=k3.x (λb hb o ho=>by
  simp at hb;subst hb;obtain⟨c',yK,-⟩:=o2.out
  grind)
 have Z:wn+1<=2^39:=by have:=w2.sl.len;omega
 cbv;rw[av A];refine cy g3 ?_;cbv;refine cy ag ?_;cbv;intro n9 h4 mh M;have z:Le G h4:=zqs M mh
 have q9:Sl 213 Um h4 (.slice (zsA n9) 1 1) [(n,eS l)]:=bh (s:=Um) (zqt M) ⟨by
  grind [RT],Q⟩
 have g4:=z _ _ g3;clear M;cbv;refine cy g4 ?_;cbv;refine zqr ?_;cbv;refine(w3.mono (z.t _)).app q9 dl rfl dl Z (λ_ _ U=>by cases U) (λm' b' c' h5 HL _ t5 k5 w5=>?_);have O:=t5 [94] dl _ _ _ _ io g4;have o5:=(o3.mono (z.t _)).mono (t5 [211] dl);have V:=(W.mono (z.t _)).mono (t5 [211] dl);have Y:ep dT G h5:=λj o hj bV=>k5 j o (z j o hj) (.inr (.inr (λc fr e=>bV _ _ _ e dl)));cbv;rw[av A];refine jE O io (λT C=>?_);have g6:=zqt C;have t6:∀tys,94∉tys->cX tys h5 T:=λtys U=>by rw[C];exact cX.set O U
 have I:ep dT h T:=(l2.x _).trans (ab.trans (Y.trans (by rw[C];exact gU O dl)));have q6:oa T p { D with now:=D.now.set n.toNat (eS l),ws:=D.ws++[(n,eS l)] }:=⟨kb,H,b',m',c',d,by
  rw[show(D.now.set n.toNat (eS l)).length=P by rw[kJE,L]];exact g6,by
  rw[show(D.now.set n.toNat (eS l)).length=P by rw[kJE,L]];exact V.mono (t6 _ dl),by
  rw[show(D.now.set n.toNat (eS l)).length=P by rw[kJE,L]];exact o5.mono (t6 _ dl),by
  grind,x2,x3,w5.mono (t6 _ dl),by
  grind⟩
 generalize ({ D with now:=D.now.set n.toNat (eS l),ws:=D.ws++[(n,eS l)] }:Dk)=D1 at *;clear C;cbv;rw[av A];refine bXY q6 (λh7 x7 q7=>?_);have a:=a h7 (I.trans x7) q7;generalize fh D1=R at *;obtain⟨t,D2⟩:=R;cases t with
 |true=>cbv;exact a
 |false=>cbv;exact a
def dD(D:Dk):Int×Dk:=if D.dead then(15,D)else if(fh D).1 then(15,(fh D).2)else(0,{ (fh D).2 with kept:=(fh D).2.now,ws:=[] })
theorem aQM{c:Type}{s:Sh c}{a H P:Nat}{xs ys:List c}(o1:dt e s h a P xs)(o2:dt e s h H P ys)(hx:xs.length=P)(y:ys.length=P)(j:e∉s.tys){b:Nat}(A:b=s.n)
 (l:∀h' z,Kp [a] h h'->(∀tys,e∉tys->cX tys h h')->dt e s h' a P ys->k (.zI z) h'):zy h (zsA a) P (zsA H) P b k:=by
 subst A;obtain⟨cs,o,d,f,g⟩:=(o2.sl (n:=P) y.symm).lr;have r:Sx.Rows s h cs 0 ys:=by
  have:=g h (cX.refl _ _) [] []
  grind
 refine⟨cs,gg,f,.inr ⟨⟨a,0,none⟩,rfl,?_⟩⟩;have:=o1.write (ys:=ys) j (i:=0) ip ip (by have:=o2.bd;omega) (cs:=cs) (by rw[d,y]) r (k:=λh'=>k (.zI ((min P P:Nat):Int)) h') (λh' m t o'=>l h' _ m t (by
  grind))
 grind
theorem bJG(q:oa h p D)(c:∀h',ep dT h h'->oa h' p (dD D).2->k (.zI (dD D).1) h'):
 Ct 252 [.zP p] h k:=by
 have a:dD D=if D.dead then(15,D)else if(fh D).1 then(15,(fh D).2)else(0,{ (fh D).2 with kept:=(fh D).2.now,ws:=[] }):=rfl
 refine cB eZK Tryz.func252 λA G=>?_;cbv;rw[av A];refine bJS q ?_;cases hd:D.dead with
 |true=>rw[hd]at a;have a:dD D=(15,D):=a;rw[a]at c;have:=c h (ep.refl _ _) q;clear c a;cbv;exact this
 |false=>
  rw[hd]at a;have a:dD D=if(fh D).1 then(15,(fh D).2)else(0,{ (fh D).2 with kept:=(fh D).2.now,ws:=[] }):=a
  rw[a]at c;clear a;cbv;rw[av A];refine bXY q (λl x i=>?_);generalize fh D=R at *;obtain⟨t,D1⟩:=R;cases t with
  |true=>have:=c l x i;clear c;cbv;exact this
  |false=>
   have c:∀h',ep dT h h'->oa h' p { D1 with kept:=D1.now,ws:=[] }->k (.zI 0) h':=c;have i:oa l p D1:=i;obtain⟨B,C,wb,K,wc,d,g,o1,o2,y1,y2,y3,w,y4⟩:=i.out;obtain⟨P,L⟩:∃P,P=D1.now.length:=⟨_,rfl⟩;rw[<-L]at g o1 o2 y1 y4;cbv;rw[av A];refine cy g ?_;cbv;rw[av A];refine cy g ?_;cbv;refine aQM o1 o2 y1 L.symm dl rfl (λm z r F J=>?_);have j:=F [94] dl _ _ _ _ io g;have H:=o2.kp r (by simpa using Ne.symm y2) (λ_ _ _ _ y=>by cases y);have Q:ep dT l m:=r.x (λb n o I=>by
    simp at n;subst n;obtain⟨c',M,-⟩:=o1.out
    grind)
   cbv;rw[av A];refine jE j io (λf e=>?_);have u:=zqt e;have s:∀tys,94∉tys->cX tys m f:=λtys v=>by rw[e];exact cX.set j v
   have E:oa f p { D1 with kept:=D1.now,ws:=[] }:=⟨B,C,none,0,0,d,by
    show f p=some (.cells #[_,_,.slice _ D1.now.length _,.slice _ D1.now.length D1.now.length,_] _ _);rw[<-L];exact u,by
    show dt _ _ _ _ D1.now.length _;rw[<-L];exact J.mono (s _ dl),by
    show dt _ _ _ _ D1.now.length _;rw[<-L];exact H.mono (s _ dl),rfl,y2,y3,bA.nil,by
    grind⟩
   have:=c f (x.trans (Q.trans (by rw[e];exact gU j dl))) E;clear e c;cbv;exact this
def dN(D:Dk)(pg:Nat)(b:Bs):Int×Dk:=
 if h:b=[]then dD D
 else if(bN D pg (b.take 64)).1≠0 then bN D pg (b.take 64)
 else dN (bN D pg (b.take 64)).2 (pg+1) (b.drop 64)
 termination_by b.length
 decreasing_by
 have:=kZz.2 h
 grind
def cO(D:Dk)(at_:Nat)(b:Bs):Int×Dk:=
 if at_ % 64=0 then dN D (1+at_ / 64) b
 else if fH D ((1+at_ / 64:Nat):Int) 0≠0 then(fH D ((1+at_ / 64:Nat):Int) 0,D)
 else dN D (1+at_ / 64) ((dF D ((1+at_ / 64:Nat):Int)).take (at_ % 64)++b)
theorem Fs(D:Dk):(fh D).2.ws=D.ws:=by
 grind [fh]
theorem Ce(D:Dk)(n:Int)(l:Bs):(bN D n l).2.ws.length<=D.ws.length+1:=by
 grind [bN,Fs]
theorem cQd{lg:Nat}{cn:Int}(q:oa h p D){s:Nat}(hz:bg z s)(ql:Jw h lg p z cn){c:Nat}{l:Bs}(qb:Sl 5 cD h (.slice b m c) l)(hs:s<=2^30)(hm:m<=2^30)(hw:D.ws.length<=2^30)
 (o:∀h',ep dT h h'->oa h' p (cO D s l).2->k (.zI (cO D s l).1) h'):
 Ct 248 [.zP lg,.slice b m c] h k:=by
 obtain⟨A,M⟩:=Ar.ex;have ar:=qb.len;have mW:A .aQ .neq 0 0=false:=by rw[aJ A];rfl
 have P:cO D s l=if s % 64=0 then dN D (1+s / 64) l
  else if fH D ((1+s / 64:Nat):Int) 0≠0 then(fH D ((1+s / 64:Nat):Int) 0,D)
  else dN D (1+s / 64) ((dF D ((1+s / 64:Nat):Int)).take (s % 64)++l):=rfl
 have Bl:A .aX .rem .i64 z 64=((s % 64:Nat):Int):=by
  rw[M.aX,hz.eq];show((s:Int)).tmod 64=_
  grind
 have CM:A .aX .add .i64 1 (A .aX .quo .i64 z 64)=((1+s / 64:Nat):Int):=by
  have t:A .aX .quo .i64 z 64=((s / 64:Nat):Int):=by rw[M.aX,hz.eq];show IntKind.i64.wrap (((s:Int)).tdiv 64)=_;rw[kQY ip,IntWalk.i64_in _ ip];omega
  rw[t,M.aX];show IntKind.i64.wrap (1+((s / 64:Nat):Int))=_;rw[IntWalk.i64_in _ ip];omega
 have f1:A .aQ .gtr (A .aX .rem .i64 z 64) 0=decide (¬s % 64=0):=by rw[Bl,bF A];grind
 obtain⟨pg,ab⟩:∃pg,pg=1+s / 64:=⟨_,rfl⟩;obtain⟨v,V⟩:∃v:Int,v=((pg:Nat):Int):=⟨_,rfl⟩;rw[<-ab]at P CM;rw[<-V]at P CM;have al:bg v pg:=⟨V⟩;have ax:pg<=2^31:=ip
 obtain⟨C,W⟩:∃C:(Option Addr×Nat×Nat)->ad->Prop,∀g t,C g t=(Le h t/\∃B,Sl 5 cD t (.slice g.1 g.2.1 g.2.2) B/\cO D s l=dN D pg B/\B.length<=2^30+64):=⟨_,λ_ _=>rfl⟩;obtain⟨J,H⟩:∃J:Nat->((Option Addr×Nat×Nat)×Int)->ad->Prop,∀w g h',J w g h'=(∃d f u,bg g.2 f/\w=g.1.2.1/\oa h' p d/\ep dT h h'/\Sl 5 cD h' (.slice g.1.1 g.1.2.1 g.1.2.2) u/\cO D s l=dN d f u/\f+u.length<=2^33/\d.ws.length+u.length<=2^33):=⟨_,λ_ _ _=>rfl⟩;have S:∀g t,C g t->J g.2.1 (g,v) t:=λg t x=>by
  rw[W]at x;obtain⟨B,Z,s1,E,hl⟩:=x;rw[H];exact⟨D,pg,Z,al,rfl,q.le B,B.x _,s1,E,ip,ip⟩
 refine CY A [false,false,false,true] (aj eZO.aw eZO.bz) Tryz.func248 rfl (by kernel_rfl) ?_;cbv;rw[av A];refine Kf (cJ ql.out rfl) ?_;cbv;refine⟨dl,?_⟩;cbv;rw[CM];refine kK.go (G:=Option Addr×Nat×Nat) (λg=>[(1,.v (.slice g.1 g.2.1 g.2.2))]) (λ_=>[]) C ?_ ?_
 .cbv;refine⟨dl,?_⟩;cbv;rw[f1];by_cases c1:s % 64=0
  .rw[if_pos c1]at P;have hC:C (b,m,c) h:=by grind [Le.refl]
   rw[kQW (λg=>g c1)];clear W S H o P;cbv;refine zqc (b,m,c) hC
  rw[if_neg c1]at P;rw[kS c1];have iK:s % 64<64:=kZy _ dl;generalize s % 64=r at *;cbv;rw[av A];refine cy ql.out ?_;cbv;refine aXy q v (λbV=>?_) (λE t b1 fW B MU q1=>?_)
  .rw[if_pos bV]at P;rw[P]at o;have:=o h (ep.refl _ _) q;have f2:A .aQ .neq (fH D v 0) 0=true:=by rw[aJ A];grind
   clear W S H o P;generalize fH D v 0=e at *;cbv;rw[f2];cbv;exact this
  rw[if_neg (λg=>g E)]at P;have ak:bg (A .aX .rem .i64 z 64) r:=⟨Bl⟩;have eL:0<=A .aX .rem .i64 z 64/\A .aX .rem .i64 z 64<=(fW:Int):=by have:=q1.sl.bound;grind
  have dd:=dJ (A:=A) ak;have tk:=q1.sl.vU (A:=A) (z:=A .nat fW) (i:=r) ip rfl;have Y:∀h',Le h h'->∀b2 n2 c2,Sl 5 cD h' (.slice b2 n2 c2) ((dF D v).take r++l)->C (b2,n2,c2) h':=λh' l' b2 n2 c2 s'=>by
   grind
  have ha:([(dF D v).take r,l]:List Bs).flatten=(dF D v).take r++l:=io
  have aw:((dF D v).take r++l).length<=2^38:=gg
  clear W S H o P;generalize dF D v=pb at *;cbv;rw[mW];cbv;refine⟨dl,?_⟩;cbv;refine⟨eL,?_⟩;cbv;rw[dd];intro n2 h2 fA e2;have Z:Le t h2:=zqs e2 fA
  have g2:=zqt e2;clear e2;cbv;refine BH (L:=[pb.take r,l]) (pf (s:=DS) rfl g2 (eU (tk.mono (Z.t _))) (eU (qb.mono ((B.trans Z).t _)))) gg (λI b' n' c' l3 q3=>?_);rw[ha]at q3;have hC:=Y I ((B.trans Z).trans l3) b' n' c' q3.sl;clear Y;cbv;refine zqc (b',n',c') hC
 intro g t x;have hJ:=S g t x;clear S W x;cbv;obtain⟨X,j,y⟩:=g;refine ba.gz (G:=(Option Addr×Nat×Nat)×Int) (λg=>[(1,.v (.slice g.1.1 g.1.2.1 g.1.2.2)),(6,.v (.zI g.2))]) (λ_=>[]) (λw g h'=>J w g h') j ((X,j,y),v) hJ ?_
 intro w g h2 hI;rw[H]at hI;cbv;obtain⟨⟨X,j,y⟩,zp⟩:=g;obtain⟨d,f,u,K,hw,d2,x2,s2,E,lG,gQ⟩:=hI;have K:bg zp f:=K;have hw:w=j:=hw;have s2:Sl 5 cD h2 (.slice X j y) u:=s2;have nQ:=s2.len;have kE:=s2.bound;have Q:=ql.lt (x2.t dl);have f2:A .aQ .gtr (A .nat j) 0=decide (u≠[]):=by
  rw[bF A,M.nat];refine decide_eq_decide.2 ?_;rw[kZn,nQ];constructor
  .grind
  intro h;have:=kZz.2 h;omega
 have N:dN d f u=if h:u=[]then dD d
  else if(bN d f (u.take 64)).1≠0 then bN d f (u.take 64)
  else dN (bN d f (u.take 64)).2 (f+1) (u.drop 64):=by rw[dN]
 have vB:=Ce d f (u.take 64);rw[f2];by_cases x:u=[]
 .rw[dif_pos x]at N;rw[E,N]at o;rw[kQW (λg=>g x)];clear H hJ N vB;cbv;rw[av A];refine cy Q.out ?_;cbv;refine bJG d2 (λI x3 U=>?_);have:=o I (x2.trans x3) U;clear o;generalize dD d=R at *;obtain⟨e,O⟩:=R;cbv;exact this
 rw[dif_neg x]at N;rw[kS x];have nB:=kZz.2 x;obtain⟨a,sQ⟩:∃a,a=min j 64:=⟨_,rfl⟩;have HK:A .mT (A .nat j) 64=A .nat a:=by rw[M.mT,M.nat,sQ];grind
 have F:bg (A .nat a) a:=bg.nat a;have mV:0<=A .nat a/\A .nat a<=(y:Int):=by have:=F.eq;omega
 have jW:0<=A .nat a/\A .nat a<=(j:Int):=by have:=F.eq;omega
 have Vz:=dJ (A:=A) F;have Ln:=cS (A:=A) (n:=j) F;have SY:=cS (A:=A) (n:=y) F;have tk:=s2.vU (A:=A) (z:=A .nat y) (i:=a) ip rfl;have td:=s2.jX (A:=A) F ip rfl rfl;have an:u.take a=u.take 64:=gg
 have aq:u.drop a=u.drop 64:=by
  grind
 rw[an]at tk;rw[aq]at td;have gO:=K.succ (A:=A);have ag:d.ws.length<=2^38:=ip
 have T:∀h',(bN d f (u.take 64)).1=0->ep dT h h'->oa h' p (bN d f (u.take 64)).2->Sl 5 cD h' (.slice (A .cut X (A .nat a) (A .nat y) 1) (j-a) (y-a)) (u.drop 64)->
  J (j-a) ((A .cut X (A .nat a) (A .nat y) 1,j-a,y-a),A .aX .add .i64 zp 1) h':=λh' h0 x' d' s'=>by
  grind
 have aZ:j-a<w:=ip
 have ez:bN d zp (u.take 64)=bN d f (u.take 64):=by rw[K.eq]
 clear H hJ gO;cbv;rw[HK,av A];refine cy Q.out ?_;cbv;refine⟨mV,?_⟩;cbv;rw[Vz];refine aXt d2 zp tk ag (λI x3 U=>?_);rw[ez]at U |-;clear ez;have T:=T I;have ao:=td.mono (x3.t dl);have hx:=x2.trans x3;rw[E,N]at o;clear N E vB;generalize Gi:bN d f (u.take 64)=R at *;obtain⟨e,O⟩:=R;have f3:A .aQ .neq e 0=decide (e≠0):=aJ A ..;by_cases Bq:e≠0
 .have o:∀h',ep dT h h'->oa h' p (if e≠0 then(e,O)else dN O (f+1) (u.drop 64)).2->k (.zI (if e≠0 then(e,O)else dN O (f+1) (u.drop 64)).1) h':=o;rw[if_pos Bq]at o;have:=o I hx U;rw[kS Bq]at f3;clear o T;cbv;rw[f3];cbv;exact this
 have iL:=T gg hx U ao;rw[kQW Bq]at f3;clear o T;cbv;rw[f3];cbv;refine⟨jW,?_⟩;cbv;rw[Ln,SY];refine zqn (j-a) ((_,_,_),A .aX .add .i64 zp 1) aZ iL
end Go.S
